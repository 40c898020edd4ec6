/- The law WalkOnce in plain words. No condition. -/
import Derived.Test.YtlofegfaphijpaaPuWalkRun
namespace Go.Proofs.Ytlofegfaphijpaa
def wayN (S h st i : Nat) : Nat := (h + i * st) % S
theorem way_apart {k h p m : Nat} (hm : m ≤ 2 ^ k) : apart (wayN (2 ^ k) h (2 * p + 1)) m := by
  intro i j hij hj q
  unfold wayN at q
  have h1 := Nat.sub_mod_eq_zero_of_mod_eq q.symm
  have h2 : h + j * (2 * p + 1) - (h + i * (2 * p + 1)) = (j - i) * (2 * p + 1) := by
    rw [Nat.sub_mul]; omega
  rw [h2] at h1
  have hc : Nat.Coprime (2 ^ k) (2 * p + 1) := Nat.Coprime.pow_left k (by
    rw [Nat.coprime_iff_gcd_eq_one, Nat.gcd_rec]
    rw [show (2 * p + 1) % 2 = 1 by omega]; rfl)
  have h3 := Nat.Coprime.dvd_of_dvd_mul_right hc (Nat.dvd_of_mod_eq_zero h1)
  have := Nat.le_of_dvd (by omega) h3
  omega
def onceD (W : Nat → Nat) (m back : Nat) (circle : Bool) (i : Nat) : Desc := if i + 1 < m then ⟨u64 ((8000 + i : Nat) : Int), 1, 1, u16 ((W (i + 1) : Nat) : Int)⟩ else ⟨u64 ((8000 + i : Nat) : Int), 1, if circle = true then 1 else 0, u16 ((W back : Nat) : Int)⟩
theorem i16u16 {n : Nat} (h : n < 32768) : i16 (u16 (n : Int)) = (n : Int) := by
  unfold i16 u16
  simp only [UInt16.toNat_ofNat']
  omega
theorem plk0 {n : Nat} (h : n < 100000) : plK 0 (n : Int) = 16 * n := by
  unfold plK u64
  rw [UInt64.zero_add, UInt64.toNat_mul, UInt64.toNat_ofNat']
  simp only [UInt64.reduceToNat]
  omega
theorem at0 {n : Nat} (h : n < 100000) : ((0 : UInt64) + 16 * u64 (n : Int)).toNat = 16 * n := plk0 h
theorem way_val {S h p i : Nat} (hS : 0 < S) (h1 : S ≤ 64) (h2 : h < S) (h3 : p < S) (h4 : i < S) : remi (wi ((h : Int) + wi ((i : Int) * wi (wi (2 * (p : Int)) + 1)))) (S : Int) = ((wayN S h (2 * p + 1) i : Nat) : Int) := by
  have e1 : wi (wi (2 * (p : Int)) + 1) = ((2 * p + 1 : Nat) : Int) := by
    rw [wi_in (n := 2 * (p : Int)) (by omega) (by omega), wi_in (by omega) (by omega)]; omega
  have hb : i * (2 * p + 1) ≤ 64 * 200 := Nat.mul_le_mul (by omega) (by omega)
  rw [e1, ← Int.natCast_mul, wi_nat (by omega), ← Int.natCast_add, wi_nat (by omega)]
  unfold remi wayN
  exact (Int.ofNat_tmod _ _).symm
theorem onceL1 (head back : Int) (circle : Bool) {k q p h S : Nat} (mem1 : gmem_Mem) (hS : S = 2 ^ (k + 1)) (hk : k < 6) (hq : q < S) (hp : p < S) (hh : kit_Pick head (S : Int) = some (h : Int)) (hh2 : h < S) (m1 : Rings) : ∀ (nf i : Nat), i ≤ q + 1 → q + 1 - i < nf →
    law10zWalkOnceL1 head back circle (k : Int) mem1 (q : Int) (p : Int) nf m1 (seenN (wayN S h (2 * p + 1)) i) (i : Int) = law10zWalkOnceL2 back circle mem1 (q : Int) fuel m1 mem1.b (seenN (wayN S h (2 * p + 1)) (q + 1)) 0
  | 0, i, _, hn => absurd hn (Nat.not_lt_zero _)
  | nf + 1, i, hi, hn => by
    have h64 : S ≤ 64 := by
      rw [hS]; exact (Nat.pow_le_pow_right (by omega) (by omega) : 2 ^ (k + 1) ≤ 2 ^ 6)
    have hsh : shli 2 ((u64 (k : Int)).toNat) = (S : Int) := by
      rw [hS]
      have : ∀ k : Nat, k < 6 → shli 2 ((u64 (k : Int)).toNat) = ((2 ^ (k + 1) : Nat) : Int) := by decide
      exact this k hk
    unfold law10zWalkOnceL1 law10zWalkOnceL1B
    rw [wi_in (n := 1 + (q : Int)) (by omega) (by omega)]
    by_cases c : i < q + 1
    · rw [bP (by omega), hsh, oS hh, cnF (by omega), way_val (by omega) h64 hh2 hp (by omega), seenN_snoc, wi_succ (by omega), cFits (by unfold seenN; rw [genL_len]; simp; omega)]
      exact onceL1 head back circle mem1 hS hk hq hp hh hh2 m1 nf (i + 1) (by omega) (by omega)
    · rw [bN (by omega), show i = q + 1 by omega]
theorem seenN_ix {W : Nat → Nat} {m i : Nat} (h : i < m) : ix (seenN W m) (i : Int) = some ((W i : Nat) : Int) := by
  have e := genL_get (fun j => (W j : Int)) m 0 i h
  rw [Nat.zero_add] at e
  exact ix_nat e
theorem onceJ3 (mem1 : gmem_Mem) {x : List UInt8} (hx : flatOk 12000 x) (hm : mem1.l = rg 12000) (W : Nat → Nat) {m i : Nat} (hi : i < m) (hm1 : m ≤ 1000) (hW : W i < 700) (r : Rings) (hr : r.Desc = 0) (d : Desc) (L2 : Rings → (List (List UInt8)) → (List Int) → Int → Option Bool) :
    law10zWalkOnceJ3 mem1 [x] (i : Int) L2 r (seenN W m) d = L2 r [wrF x (16 * W i) (bsD d)] (seenN W m) ((i + 1 : Nat) : Int) := by
  unfold law10zWalkOnceJ3
  have e := at0 (n := W i) (by omega)
  rw [oS (seenN_ix hi), oS (refBytesD d), hm, hr, oS (write1_eq hx _ _ (by rw [e, bsD_len]; simp only [UInt64.reduceToNat]; omega)), wi_succ (by omega), e]
theorem onceL2 (back : Int) (circle : Bool) (mem1 : gmem_Mem) (hm : mem1.l = rg 12000) {q b S : Nat} {W : Nat → Nat} (hb : kit_Pick back ((q + 1 : Nat) : Int) = some (b : Int)) (hb2 : b < q + 1) (hq : q < S) (h64 : S ≤ 64) (hap : apart W (q + 1)) (hW : ∀ i, W i < S) (r : Rings) (hr : ringOk r false (S : Int))
    (fin : ∀ x, flatOk 12000 x → (∀ j, j < q + 1 → rdF x (16 * W j) 16 = bsD (onceD W (q + 1) b circle j)) → law10zWalkOnceL2 back circle mem1 (q : Int) 1 r [x] (seenN W (q + 1)) ((q + 1 : Nat) : Int) = some true) : ∀ (nf i : Nat) (x : List UInt8), flatOk 12000 x → i ≤ q + 1 → q + 1 - i < nf → (∀ j, j < i → rdF x (16 * W j) 16 = bsD (onceD W (q + 1) b circle j)) →
    law10zWalkOnceL2 back circle mem1 (q : Int) nf r [x] (seenN W (q + 1)) (i : Int) = some true
  | 0, i, x, _, _, hn, _ => absurd hn (Nat.not_lt_zero _)
  | nf + 1, i, x, hx, hi, hn, hd => by
    by_cases c : i < q + 1
    · have h12 : (12000 : UInt64).toNat = 12000 := rfl
      have step : law10zWalkOnceL2 back circle mem1 (q : Int) nf r [wrF x (16 * W i) (bsD (onceD W (q + 1) b circle i))] (seenN W (q + 1)) ((i + 1 : Nat) : Int) = some true := by
        have hle : 16 * W i + (bsD (onceD W (q + 1) b circle i)).length ≤ (12000 : UInt64).toNat := by
          have := hW i; rw [bsD_len, h12]; omega
        have hlx : x.length = 12000 := hx.2.2
        refine onceL2 back circle mem1 hm hb hb2 hq h64 hap hW r hr fin nf (i + 1) _ (wrF_ok hx hle) (by omega) (by omega) (fun j hj => ?_)
        by_cases e : j = i
        · rw [e]
          have := rdF_on (x := x) (xs := bsD (onceD W (q + 1) b circle i)) (a := 16 * W i) (by rw [hlx, ← h12]; exact hle)
          rw [bsD_len] at this; exact this
        · rw [rdF_off (by rw [hlx, ← h12]; exact hle) (by
            have := hap j i (by omega) c
            rw [bsD_len]; omega)]
          exact hd j (by omega)
      unfold law10zWalkOnceL2 law10zWalkOnceL2B
      rw [wi_in (n := 1 + (q : Int)) (by omega) (by omega), show (1 : Int) + (q : Int) = ((q + 1 : Nat) : Int) by omega, bP (by omega), oS hb, oS (seenN_ix hb2), wi_succ (n := i) (by omega), wi_in (n := 8000 + (i : Int)) (by omega) (by omega), show (8000 : Int) + (i : Int) = ((8000 + i : Nat) : Int) by omega]
      unfold onceD at step
      by_cases e : i + 1 < q + 1
      · rw [if_pos e] at step
        rw [bP (by omega), oS (seenN_ix e), onceJ3 mem1 hx hm W c (by omega) (by have := hW i; omega) r hr.2.2.1]
        exact step
      · rw [if_neg e] at step
        rw [bN (by omega)]
        cases circle with
        | false =>
          rw [notF, brT, onceJ3 mem1 hx hm W c (by omega) (by have := hW i; omega) r hr.2.2.1]
          exact step
        | true =>
          rw [notT, brF, onceJ3 mem1 hx hm W c (by omega) (by have := hW i; omega) r hr.2.2.1]
          exact step
    · have e : i = q + 1 := by omega
      subst e
      have := fin x hx hd
      unfold law10zWalkOnceL2 law10zWalkOnceL2B at this ⊢
      rw [wi_in (n := 1 + (q : Int)) (by omega) (by omega), bN (by omega)] at this ⊢
      exact this
/-! the whole -/
def onceS (j : Nat) : Seg := ⟨u64 ((8000 + j : Nat) : Int), 1, false⟩
theorem once_good : ∀ m : Nat, m < 65 → (decide (goodS (genL onceS 0 m)) && (genL onceS 0 m).all (fun s => decide (s.At.toNat + s.Len.toNat ≤ 12000))) = true := by decide +kernel
theorem once_look {m : Nat} (h : m < 65) (h0 : 0 < m) : lookF 12000 (genL onceS 0 m) = (genL onceS 0 m, 0) := by
  have := once_good m h
  simp only [Bool.and_eq_true, decide_eq_true_eq, List.all_eq_true] at this
  unfold lookF
  rw [if_neg (by
    rintro (q | q)
    · have := congrArg List.length q
      rw [genL_len] at this
      simp at this; omega
    · exact q (errS_zero.2 this.1)), if_pos (show inF 12000 (genL onceS 0 m) from this.2)]
theorem onceL4 (q : Nat) (hq : q < 64) (z : Int) : ∀ (nf i : Nat), i ≤ q + 1 → q + 1 - i < nf → law10zWalkOnceL4 (q : Int) (genL onceS 0 (q + 1), z) nf (i : Int) = some true
  | 0, i, _, hn => absurd hn (Nat.not_lt_zero _)
  | nf + 1, i, hi, hn => by
    unfold law10zWalkOnceL4 law10zWalkOnceL4B
    rw [wi_in (n := 1 + (q : Int)) (by omega) (by omega)]
    by_cases c : i < q + 1
    · have e := genL_get onceS (q + 1) 0 i c
      rw [Nat.zero_add] at e
      rw [bP (by omega), oS (ix_nat e), wi_in (n := 8000 + (i : Int)) (by omega) (by omega), show (8000 : Int) + (i : Int) = ((8000 + i : Nat) : Int) by omega, cnE (show onceS i = ⟨u64 ((8000 + i : Nat) : Int), 1, false⟩ from rfl), wi_succ (by omega)]
      exact onceL4 q hq z nf (i + 1) (by omega) (by omega)
    · rw [bN (by omega)]
theorem once_lay {x : List UInt8} {S q b : Nat} {W : Nat → Nat} (circle : Bool) (hb2 : b < q + 1) (h64 : S ≤ 64) (hap : apart W (q + 1)) (hW : ∀ i, W i < S) (hd : ∀ j, j < q + 1 → rdF x (16 * W j) 16 = bsD (onceD W (q + 1) b circle j)) : layW 12000 x 0 (S : Int) W (onceD W (q + 1) b circle) (q + 1) where
  ap := hap
  rng := fun i _ => by have := hW i; omega
  mem := fun i _ => by
    have := hW i
    rw [plk0 (by omega)]; omega
  at_ := fun i hi => by
    have := hW i
    rw [plk0 (by omega)]; exact dAt_bs (hd i hi)
  noT := fun i hi => by
    unfold onceD
    by_cases e : i + 1 < q + 1
    · rw [if_pos e]; exact (by decide : (1 : UInt16) &&& 4 = 0)
    · rw [if_neg e]
      show (if circle = true then (1 : UInt16) else 0) &&& 4 = 0
      cases circle <;> decide
  nxt := fun i hi => by
    have := hW (i + 1)
    unfold onceD
    rw [if_pos hi]
    exact ⟨show ¬ (1 : UInt16) &&& 1 = 0 by decide, i16u16 (by omega)⟩
theorem once_mkS (W : Nat → Nat) (m b : Nat) (circle : Bool) (n : Nat) : genL (fun j => mkS (onceD W m b circle j)) 0 n = genL onceS 0 n := by
  congr 1
  funext j
  unfold mkS onceD onceS
  by_cases e : j + 1 < m
  · rw [if_pos e]; exact congrArg (Seg.mk _ _) (show ((1 : UInt16) &&& 2 != 0) = false by decide)
  · rw [if_neg e]
    refine congrArg (Seg.mk _ _) ?_
    show ((if circle = true then (1 : UInt16) else 0) &&& 2 != 0) = false
    cases circle <;> decide
theorem once_fin (back : Int) (circle : Bool) (x0 : List (List UInt8)) {q b S : Nat} {W : Nat → Nat} (hb2 : b < q + 1) (hq : q < S) (h64 : S ≤ 64) (hap : apart W (q + 1)) (hW : ∀ i, W i < S) (r : Rings) (hr : ringOk r false (S : Int)) (x : List UInt8) (hx : flatOk 12000 x) (hd : ∀ j, j < q + 1 → rdF x (16 * W j) 16 = bsD (onceD W (q + 1) b circle j)) :
    law10zWalkOnceL2 back circle ⟨rg 12000, x0⟩ (q : Int) 1 r [x] (seenN W (q + 1)) ((q + 1 : Nat) : Int) = some true := by
  have hL := once_lay circle hb2 h64 hap hW hd
  have hc := chain_all hL (by omega) (tabT 12000 x true) (S + 1) 0 (by omega) []
  have hlast : (onceD W (q + 1) b circle (q + 1 - 1)) = ⟨u64 ((8000 + q : Nat) : Int), 1, if circle = true then 1 else 0, u16 ((W b : Nat) : Int)⟩ := by
    unfold onceD
    rw [if_neg (by omega)]; rfl
  have hw0 : ix (seenN W (q + 1)) (0 : Int) = some ((W 0 : Nat) : Int) := seenN_ix (i := 0) (by omega)
  have hsp : splW (12000 : UInt64).toNat x r ((W 0 : Nat) : Int) true = if circle = true then (4, q + 1, genL onceS 0 (q + 1)) else (0, q + 1, genL onceS 0 (q + 1)) := by
    unfold splW
    rw [hr.2.2.1, hr.2.1, Int.toNat_natCast, show (12000 : UInt64).toNat = 12000 from rfl, hc, hlast, once_mkS]
    cases circle with
    | false =>
      dsimp only
      rw [if_pos (show (if false = true then (1 : UInt16) else 0) &&& 1 = 0 by decide), if_neg (show ¬ false = true by decide)]; simp
    | true =>
      dsimp only
      rw [if_neg (show ¬ (if true = true then (1 : UInt16) else 0) &&& 1 = 0 by decide), if_pos (show true = true from rfl)]
      rw [i16u16 (by have := hW b; omega), chain_back hb2]; simp
  unfold law10zWalkOnceL2 law10zWalkOnceL2B
  rw [wi_in (n := 1 + (q : Int)) (by omega) (by omega), bN (by omega), oS hw0, oS (wSplit_eq hx hr (by omega) (by omega) _ _), oS hw0, oS (wReads_eq hx hr (by omega) (by omega) _ _), hsp]
  unfold splR
  rw [hsp]
  cases circle with
  | false =>
    rw [if_neg (by decide)]
    dsimp only
    rw [if_neg (by decide), show (12000 : UInt64).toNat = 12000 from rfl, once_look (by omega) (by omega)]
    dsimp only
    rw [cnE (by omega), brF, cnE rfl, cnE (by simp only [len]; rw [genL_len]; omega)]
    exact onceL4 q (by omega) 0 fuel 0 (by omega) (by rw [fuelS]; omega)
  | true =>
    rw [if_pos rfl]
    dsimp only
    rw [if_pos (by decide)]
    dsimp only
    rw [cnE (by omega), brT, cE rfl]; rfl
theorem t_law10zWalkOnce (size head step many back : Int) (circle : Bool) : law10zWalkOnce size head step many back circle = some true := by
  unfold law10zWalkOnce
  rw [oS lives10, notT, notF, chkT]
  obtain ⟨k, hk, hk2⟩ := pick_eq size 6 (by omega) (by omega)
  have hsh : shli 2 ((u64 (k : Int)).toNat) = ((2 ^ (k + 1) : Nat) : Int) := by
    have : ∀ k : Nat, k < 6 → shli 2 ((u64 (k : Int)).toNat) = ((2 ^ (k + 1) : Nat) : Int) := by decide
    exact this k hk2
  have hl := laid_split (k + 1) (by omega)
  have h64 : 2 ^ (k + 1) ≤ 64 := (Nat.pow_le_pow_right (by omega) (by omega) : 2 ^ (k + 1) ≤ 2 ^ 6)
  have h0 : 0 < 2 ^ (k + 1) := Nat.pow_pos (by omega)
  rw [oS (show kit_Pick size 6 = some (k : Int) from hk), hsh]
  obtain ⟨S, hS⟩ : ∃ S, S = 2 ^ (k + 1) := ⟨_, rfl⟩
  rw [← hS] at h64 h0 hl ⊢
  obtain ⟨r, x, hr, hx, e⟩ := laid_eq hl [] (by simp)
  obtain ⟨q, hq, hq2⟩ := pick_eq many S (by omega) (by omega)
  obtain ⟨p, hp, hp2⟩ := pick_eq step S (by omega) (by omega)
  obtain ⟨h, hh, hh2⟩ := pick_eq head S (by omega) (by omega)
  obtain ⟨b, hb, hb2⟩ := pick_eq back (q + 1) (by omega) (by omega)
  rw [oS e]
  dsimp only [onO]
  rw [notT, notF, chkT, show mini (S : Int) 64 = (S : Int) by unfold mini; omega, oS hq, oS hp]
  have h1 := onceL1 head back circle (k := k) (q := q) (p := p) (h := h) (S := S) ⟨rg 12000, [x]⟩ hS hk2 hq2 hp2 hh hh2 r fuel 0 (by omega) (by rw [fuelS]; omega)
  have hap : apart (wayN S h (2 * p + 1)) (q + 1) := by
    rw [hS]; exact way_apart (by omega)
  have hW : ∀ i, wayN S h (2 * p + 1) i < S := fun i => Nat.mod_lt _ h0
  have h2 := onceL2 back circle ⟨rg 12000, [x]⟩ rfl hb hb2 hq2 h64 hap hW r hr (fun y hy hd => once_fin back circle [x] hb2 hq2 h64 hap hW r hr y hy hd) fuel 0 x hx (by omega) (by rw [fuelS]; omega) (fun j hj => absurd hj (Nat.not_lt_zero _))
  exact h1.trans h2
end Go.Proofs.Ytlofegfaphijpaa

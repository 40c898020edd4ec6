/- Buffers in a memory, in plain words. No condition. -/
import Derived.Test.YtgcbcnpbnonnjaaPuGmem
import Derived.Test.YtgcbcnpbnonnjaaPuCut
namespace Go.Proofs.Ytgcbcnpbnonnjaa
def hasS (l : List Region) (s : Seg) : Bool := (YU l s.At.toNat s.Len.toNat).isSome
def inE (l : List Region) (ss : List Seg) : Int := if errS ss = 0 then (bif ss.all (hasS l) then 0 else 5) else errS ss
theorem segInL (m : gmem_Mem) (hm : memOk m.l m.b) (l : List Seg) (hl : l.length ≤ 64) : ∀ (nf i : Nat), i ≤ l.length → l.length - i < nf → seg_InL1 m l nf (i : Int) = some (bif (l.drop i).all (hasS m.l) then 0 else 5)
  | 0, i, _, h => by omega
  | nf + 1, i, hi, hn => by
    unfold seg_InL1 seg_InL1B
    by_cases h : i < l.length
    · have hd : l.drop i = l[i] :: l.drop (i + 1) := YF h
      rw [bP (by simp only [len]; omega), oS (ZF (getq h)), oS (has_eq m hm _ _), hd, List.all_cons, UInt32.toNat_toUInt64]
      have ih := segInL m hm l hl nf (i + 1) (by omega) (by omega)
      cases q : (YU m.l l[i].At.toNat l[i].Len.toNat).isSome with
      | true => rw [bFl (show (!true) = false from rfl), Zt (by omega), ih, show hasS m.l l[i] = true from q, Bool.true_and]
      | false => rw [bT (show (!false) = true from rfl), show hasS m.l l[i] = false from q, Bool.false_and]; rfl
    · rw [bN (by simp only [len]; omega), List.drop_of_length_le (by omega)]; rfl
theorem segIn_eq (m : gmem_Mem) (hm : memOk m.l m.b) (l : List Seg) : seg_In m l = some (inE m.l l) := by
  unfold seg_In
  have h0 : XG m (0 : UInt64) (0 : Int) = some ([], 0) := by rw [read_eqM m hm _ _ (by omega)]; rfl
  rw [oS h0, nE rfl, oS (segCheck l)]
  unfold inE
  by_cases h : errS l = 0
  · rw [nE h, if_pos h]
    have hl := (errS_zero.1 h).1
    have := segInL m hm l hl fuel 0 (by omega) (by unfold fuel; omega)
    exact this
  · rw [nF h, if_neg h]
theorem refInL (m : dumbwaiterref02_Mem) (hm : memOk m.L m.B) (l : List Seg) (hl : l.length ≤ 64) : ∀ (nf i : Nat), i ≤ l.length → l.length - i < nf → Yy m l nf 0 (i : Int) = some (bif (l.drop i).all (hasS m.L) then 0 else 5)
  | 0, i, _, h => by omega
  | nf + 1, i, hi, hn => by
    unfold Yy ref_In05L1B
    by_cases h : i < l.length
    · have hd : l.drop i = l[i] :: l.drop (i + 1) := YF h
      have gi := ZF (getq h)
      rw [bP (by simp only [len]; omega), bE rfl]
      simp only [oS gi]
      rw [oS (rhas_eq m hm _ _), hd, List.all_cons, UInt32.toNat_toUInt64]
      have ih := refInL m hm l hl nf (i + 1) (by omega) (by omega)
      cases q : (YU m.L l[i].At.toNat l[i].Len.toNat).isSome with
      | true => rw [bFl (show (!true) = false from rfl), Zt (by omega), ih, show hasS m.L l[i] = true from q, Bool.true_and]
      | false =>
        rw [bT (show (!false) = true from rfl), show hasS m.L l[i] = false from q, Bool.false_and, Zt (by omega)]
        have five : ∀ nf2 j, 0 < nf2 → Yy m l nf2 5 j = some 5 := fun nf2 j hp => by
          cases nf2 with
          | zero => omega
          | succ k =>
            unfold Yy ref_In05L1B
            by_cases z : j < len l
            · rw [bP z, bF (by decide)]
            · rw [bN z]
        rw [five nf _ (by omega)]; rfl
    · rw [bN (by simp only [len]; omega), List.drop_of_length_le (by omega)]; rfl
theorem refIn_eq (m : dumbwaiterref02_Mem) (hm : memOk m.L m.B) (l : List Seg) : ref_In05 m l = some (inE m.L l) := by
  unfold ref_In05
  rw [oS (refCheck l)]
  unfold inE
  by_cases h : errS l = 0
  · rw [if_pos h, h]
    have hl := (errS_zero.1 h).1
    exact refInL m hm l hl fuel 0 (by omega) (by unfold fuel; omega)
  · rw [if_neg h, fuelS]
    unfold Yy ref_In05L1B
    by_cases z : (0 : Int) < len l
    · rw [bP z, bF h]
    · rw [bN z]
def rdSeg (l : List Region) (b : List (List UInt8)) (s : Seg) : List UInt8 := (readR l b s.At.toNat s.Len.toNat).getD []
def gatS (l : List Region) (b : List (List UInt8)) (ss : List Seg) : List UInt8 := (ss.map (rdSeg l b)).flatten
theorem readR_len {l : List Region} {b : List (List UInt8)} {a n : Nat} {x : List UInt8} (hm : memOk l b) (h : readR l b a n = some x) : x.length = n := by
  unfold readR at h
  cases hf : YU l a n with
  | none => rw [hf] at h; cases h
  | some i =>
    obtain ⟨hi, q0, q1, q2⟩ := findR_in hf
    have hb : i < b.length := by rw [hm.2.1]; exact hi
    have hr := hm.2.2 i _ _ (getq hi) (getq hb)
    rw [hf] at h
    simp only [getq hi, getq hb, Option.some.injEq] at h
    subst h; simp; omega
theorem readR_has {l : List Region} {b : List (List UInt8)} {s : Seg} (hm : memOk l b) (h : hasS l s = true) : readR l b s.At.toNat s.Len.toNat = some (rdSeg l b s) ∧ (rdSeg l b s).length = s.Len.toNat := by
  have : ∃ x, readR l b s.At.toNat s.Len.toNat = some x := by
    unfold hasS at h
    unfold readR
    cases hf : YU l s.At.toNat s.Len.toNat with
    | none => rw [hf] at h; cases h
    | some i =>
      obtain ⟨hi, q0, q1, q2⟩ := findR_in hf
      have hb : i < b.length := by rw [hm.2.1]; exact hi
      simp only [getq hi, getq hb]; exact ⟨_, rfl⟩
  obtain ⟨x, hx⟩ := this
  have e : rdSeg l b s = x := by unfold rdSeg; rw [hx]; rfl
  rw [e]; exact ⟨hx, readR_len hm hx⟩
theorem gat_len {l : List Region} {b : List (List UInt8)} (hm : memOk l b) : ∀ (ss : List Seg), ss.all (hasS l) = true → (gatS l b ss).length = sumS ss
  | [], _ => rfl
  | s :: r, h => by
    simp only [List.all_cons, Bool.and_eq_true] at h
    have h1 := (readR_has hm h.1).2
    have h2 := gat_len hm r h.2
    simp only [gatS, List.map_cons, List.flatten_cons, List.length_append, sumS] at h2 ⊢; omega
theorem gatherL (m : gmem_Mem) (hm : memOk m.l m.b) (p : List Seg) (hl : p.length ≤ 64) (hp : posS p) (hh : p.all (hasS m.l) = true) (hs : sumS p < 4294967296) : ∀ (nf i : Nat), i ≤ p.length → p.length - i < nf → YX m p nf ((p.take i).map (rdSeg m.l m.b)) p (i : Int) = some (gatS m.l m.b p, 0)
  | 0, i, _, h => by omega
  | nf + 1, i, hi, hn => by
    unfold YX seg_GatherL1B
    by_cases h : i < p.length
    · have hpi := hp p[i] (List.getElem_mem h)
      have hL := p[i].Len.toNat_lt
      have hhi : hasS m.l p[i] = true := List.all_eq_true.1 hh _ (List.getElem_mem h)
      have hr : XG m p[i].At (i32 p[i].Len) = some (rdSeg m.l m.b p[i], 0) := by
        rw [show i32 p[i].Len = ((p[i].Len.toNat : Nat) : Int) from rfl, read_eqM m hm _ _ (by omega), if_neg (by omega), if_neg (by omega), Int.toNat_natCast, (readR_has hm hhi).1]
      rw [bP (by simp only [len]; omega), oS (ZF (getq h)), oS hr, nE rfl, Kn (by simp; omega), Zt (by omega)]
      have e : (p.take i).map (rdSeg m.l m.b) ++ [rdSeg m.l m.b p[i]] = (p.take (i + 1)).map (rdSeg m.l m.b) := by
        rw [List.take_add_one, getq h, List.map_append]; rfl
      rw [e]
      exact gatherL m hm p hl hp hh hs nf (i + 1) (by omega) (by omega)
    · have hg := gat_len hm p hh
      unfold gatS at hg
      rw [bN (by simp only [len]; omega), List.take_of_length_le (by omega), oS (concat_eq _ (by simp; omega) (by unfold lenR; omega))]
      rfl
theorem inE_zero {l : List Region} {ss : List Seg} (h : inE l ss = 0) : XE ss ∧ ss.all (hasS l) = true := by
  unfold inE at h
  by_cases q : errS ss = 0
  · rw [if_pos q] at h
    refine ⟨errS_zero.1 q, ?_⟩
    cases e : ss.all (hasS l) with
    | true => rfl
    | false => rw [e] at h; cases h
  · rw [if_neg q] at h; exact absurd h q
theorem all_filter {p q : Seg → Bool} : ∀ {l : List Seg}, l.all p = true → (l.filter q).all p = true := fun {l} h => List.all_eq_true.2 fun x hx => List.all_eq_true.1 h x (List.mem_filter.1 hx).1
theorem sum_filter (q : Seg → Bool) : ∀ l : List Seg, sumS (l.filter q) ≤ sumS l
  | [] => Nat.le_refl _
  | s :: r => by
    have := sum_filter q r
    rw [List.filter_cons]
    split
    · simp only [sumS]; omega
    · simp only [sumS]; omega
theorem gather_eq (m : gmem_Mem) (hm : memOk m.l m.b) (l : List Seg) : seg_Gather m l = some (if inE m.l l = 0 then (gatS m.l m.b (l.filter (fun s => s.Write == false)), 0) else ([], inE m.l l)) := by
  unfold seg_Gather
  rw [oS (segIn_eq m hm l)]
  by_cases h : inE m.l l = 0
  · obtain ⟨hg, ha⟩ := inE_zero h
    have hfl : (l.filter (fun s => s.Write == false)).length ≤ l.length := List.length_filter_le _ _
    have hl := hg.1
    rw [nE h, if_pos h, oS (part_eq hg false)]
    have := gatherL m hm (l.filter (fun s => s.Write == false)) (by omega) (fun s hs => okS_pos hg.2.1 s (List.mem_filter.1 hs).1) (all_filter ha) (by have := sum_filter (fun s => s.Write == false) l; have := hg.2.2; omega) fuel 0 (by omega) (by unfold fuel; omega)
    exact this
  · rw [nF h, if_neg h]
theorem gat_cons (l : List Region) (b : List (List UInt8)) (s : Seg) (r : List Seg) : gatS l b (s :: r) = rdSeg l b s ++ gatS l b r := by simp [gatS]
def wrR (l : List Region) (b : List (List UInt8)) (a : Nat) (xs : List UInt8) : List (List UInt8) := (writeR l b a xs).getD b
def scatS (l : List Region) : List (List UInt8) → List Seg → List UInt8 → List (List UInt8)
  | b, [], _ => b
  | b, s :: r, xs => scatS l (wrR l b s.At.toNat (xs.take s.Len.toNat)) r (xs.drop s.Len.toNat)
theorem wrR_nil (l : List Region) (b : List (List UInt8)) (a : Nat) : wrR l b a [] = b := rfl
theorem wrR_ok {l : List Region} {b : List (List UInt8)} {a : Nat} {xs : List UInt8} (hm : memOk l b) : memOk l (wrR l b a xs) := by
  unfold wrR
  cases h : writeR l b a xs with
  | none => exact hm
  | some b' => exact write_ok hm h
theorem sum_wr : ∀ l : List Seg, sumS (l.filter (fun s => s.Write == true)) = wrS l
  | [] => rfl
  | s :: r => by
    have := sum_wr r
    rw [List.filter_cons]
    cases h : s.Write with
    | true => rw [if_pos (show (true == true) = true from rfl)]; simp only [sumS, wrS, h, if_true]; omega
    | false => rw [if_neg (by decide)]; simp only [wrS, h]; simpa using this
theorem rwrM (m : dumbwaiterref02_Mem) (hm : memOk m.L m.B) (a : UInt64) (xs : List UInt8) (hn : xs.length ≤ 140737488355328) : ∃ e, XM m a xs = some (e, wrR m.L m.B a.toNat xs) := by
  rw [rwrite_eq m hm a xs hn]
  by_cases h : xs = []
  · rw [if_pos h, h, wrR_nil]; exact ⟨_, rfl⟩
  · rw [if_neg h]
    unfold wrR
    cases writeR m.L m.B a.toNat xs with
    | none => exact ⟨_, rfl⟩
    | some b => exact ⟨_, rfl⟩
theorem rscatterL (L : List Region) (xs : List UInt8) (hx : xs.length ≤ 100000000) (m0 : dumbwaiterref02_Mem) (hm0 : m0.L = L) (l : List Seg) (hl : l.length ≤ 64) : ∀ (nf i n : Nat) (b : List (List UInt8)), memOk L b → i ≤ l.length → l.length - i < nf → n ≤ xs.length →
    ZC m0 l xs nf b (n : Int) (i : Int) = some (((min xs.length (n + wrS (l.drop i)) : Nat) : Int), (0 : Int), scatS L b ((l.drop i).filter (fun s => s.Write == true)) (xs.drop n))
  | 0, i, n, b, _, _, h, _ => by omega
  | nf + 1, i, n, b, hb, hi, hn, hnx => by
    unfold ZC YO
    by_cases h : i < l.length
    · have hd : l.drop i = l[i] :: l.drop (i + 1) := YF h
      have gi := ZF (getq h)
      have hL := l[i].Len.toNat_lt
      rw [bP (by simp only [len]; omega), hd]
      simp only [oS gi]
      cases hw : l[i].Write with
      | false =>
        rw [bFl rfl]
        unfold Xp XL
        rw [Zt (by omega), rscatterL L xs hx m0 hm0 l hl nf (i + 1) n b hb (by omega) (by omega) hnx, List.filter_cons, if_neg (by rw [hw]; decide)]
        simp only [wrS, hw]
        simp
      | true =>
        have hk : wi ((n : Int) + mini (wi (len xs - (n : Int))) (i32 l[i].Len)) = ((min xs.length (n + l[i].Len.toNat) : Nat) : Int) := by
          rw [show i32 l[i].Len = ((l[i].Len.toNat : Nat) : Int) from rfl, show len xs = ((xs.length : Nat) : Int) from rfl, wi_in (n := (xs.length : Int) - n) (by omega) (by omega)]
          unfold mini
          split <;> (rw [wi_in (by omega) (by omega)]; omega)
        have hsb : sub xs (n : Int) ((min xs.length (n + l[i].Len.toNat) : Nat) : Int) = (xs.drop n).take l[i].Len.toNat := by
          refine (sub_nat _ _ _).trans ?_
          by_cases q : n + l[i].Len.toNat ≤ xs.length
          · exact congrArg (fun z => (xs.drop n).take z) (by omega)
          · rw [List.take_of_length_le (by rw [List.length_drop]; omega), List.take_of_length_le (by rw [List.length_drop]; omega)]
        have hdr : xs.drop (min xs.length (n + l[i].Len.toNat)) = (xs.drop n).drop l[i].Len.toNat := by
          rw [List.drop_drop]
          by_cases q : n + l[i].Len.toNat ≤ xs.length
          · exact congrArg (fun z => xs.drop z) (by omega)
          · rw [List.drop_of_length_le (by omega), List.drop_of_length_le (by omega)]
        obtain ⟨er, hwr⟩ := rwrM ⟨m0.L, b⟩ (by rw [hm0]; exact hb) l[i].At ((xs.drop n).take l[i].Len.toNat) (by simp; omega)
        rw [bT rfl, hk, cP (by simp only [len]; omega), hsb, oS hwr]
        unfold Xp XL
        dsimp only
        rw [Zt (by omega), hm0, rscatterL L xs hx m0 hm0 l hl nf (i + 1) _ _ (wrR_ok hb) (by omega) (by omega) (by omega), List.filter_cons, if_pos (show (l[i].Write == true) = true by rw [hw]; rfl), scatS, hdr]
        simp only [wrS, hw, if_true]
        refine congrArg (fun z => some (z, (0 : Int), _)) ?_
        omega
    · rw [bN (by simp only [len]; omega), List.drop_of_length_le (by omega)]
      simp only [wrS, List.filter_nil, scatS]
      refine congrArg (fun z => some (z, (0 : Int), _)) ?_
      omega
theorem rscatter_eq (m : dumbwaiterref02_Mem) (hm : memOk m.L m.B) (l : List Seg) (xs : List UInt8) (hx : xs.length ≤ 100000000) : XU m l xs = some (if inE m.L l = 0 then (((min xs.length (wrS l) : Nat) : Int), (0 : Int), scatS m.L m.B (l.filter (fun s => s.Write == true)) xs) else (0, inE m.L l, m.B)) := by
  unfold XU
  rw [oS (refIn_eq m hm l)]
  by_cases h : inE m.L l = 0
  · obtain ⟨hg, ha⟩ := inE_zero h
    have hl := hg.1
    rw [nE h, if_pos h]
    have := rscatterL m.L xs hx m rfl l hl fuel 0 0 m.B hm (by omega) (by unfold fuel; omega) (by omega)
    rw [List.drop_zero, List.drop_zero, Nat.zero_add] at this
    exact this
  · rw [nF h, if_neg h]
end Go.Proofs.Ytgcbcnpbnonnjaa

/- Frames that are delivered into posted, cut buffers side by side. No condition. -/
import Derived.Test.YtgcbcnpbnonnjaaPuNetdrvLay
import Derived.Test.YtgcbcnpbnonnjaaPuPost
namespace Go.Proofs.Ytgcbcnpbnonnjaa
theorem wrF_two {x xs ys : List UInt8} {a : Nat} (h : a + xs.length + ys.length ≤ x.length) : wrF (wrF x a xs) (a + xs.length) ys = wrF x a (xs ++ ys) := by
  have e1 : (x.take a ++ xs).length = a + xs.length := by simp; omega
  have e2 : (wrF x a xs).take (a + xs.length) = x.take a ++ xs := by unfold wrF; exact List.take_left' e1
  have e3 : (wrF x a xs).drop (a + xs.length + ys.length) = x.drop (a + xs.length + ys.length) := by
    unfold wrF; rw [List.drop_append, e1, List.drop_of_length_le (by rw [e1]; omega), List.nil_append, List.drop_drop]
    refine congrArg (fun t => x.drop t) ?_; omega
  rw [wrF, e2, e3]
  unfold wrF
  simp [Nat.add_assoc]
theorem cov_scat {c l : List Seg} (h : Cov c l) : ∀ (x xs : List UInt8), inF x.length l → x.length ≤ 18446744073709551616 → scatF x c xs = scatF x l xs := by
  induction h with
  | nil => intro x xs _ _; rfl
  | whole s c l _ ih =>
    intro x xs h1 h2
    rw [XZ] at h1
    unfold scatF
    have e := wrF_len (x := x) (a := s.At.toNat) (xs := xs.take s.Len.toNat) (by rw [List.length_take]; omega)
    exact ih _ _ (by rw [e]; exact h1.2) (by rw [e]; exact h2)
  | part s y c l e1 e2 e3 e4 _ ih =>
    intro x xs h1 h2
    rw [XZ] at h1
    have ht : (tlS y s.Len.toNat).At.toNat = y.At.toNat + s.Len.toNat := by
      have hy := y.Len.toNat_lt
      unfold tlS
      dsimp only
      rw [UInt64.toNat_add, UInt64.toNat_ofNat']
      have := h1.1; omega
    have el := wrF_len (x := x) (a := y.At.toNat) (xs := xs.take s.Len.toNat) (by rw [List.length_take]; omega)
    have hi : inF (wrF x y.At.toNat (xs.take s.Len.toNat)).length (tlS y s.Len.toNat :: l) := by
      rw [el, XZ]
      refine ⟨?_, h1.2⟩
      have := h1.1
      rw [ht, tl_len]; omega
    have hI := ih (wrF x y.At.toNat (xs.take s.Len.toNat)) (xs.drop s.Len.toNat) hi (by rw [el]; exact h2)
    conv => lhs; unfold scatF
    rw [e1, hI]
    unfold scatF
    rw [ht, tl_len, List.drop_drop, show s.Len.toNat + (y.Len.toNat - s.Len.toNat) = y.Len.toNat by omega]
    refine congrArg (fun z => scatF z l (xs.drop y.Len.toNat)) ?_
    have et : xs.take y.Len.toNat = xs.take s.Len.toNat ++ (xs.drop s.Len.toNat).take (y.Len.toNat - s.Len.toNat) := by
      rw [← List.take_add]; congr 1; omega
    rcases Nat.lt_or_ge xs.length s.Len.toNat with q | q
    · have en : xs.drop s.Len.toNat = [] := List.drop_of_length_le (by omega)
      rw [et, en]; simp [wrF_nil]
    · have eL : (xs.take s.Len.toNat).length = s.Len.toNat := by rw [List.length_take]; omega
      rw [et]
      have := wrF_two (x := x) (a := y.At.toNat) (xs := xs.take s.Len.toNat) (ys := (xs.drop s.Len.toNat).take (y.Len.toNat - s.Len.toNat)) (by rw [eL, List.length_take]; have := h1.1; omega)
      rw [eL] at this
      exact this
def cbS (cuts : List Int) (a n : Nat) : List Seg := cutQ (postS (UInt64.ofNat a) n) cuts
def Xw (cuts : List Int) : Nat → List Nat → List (List Seg)
  | _, [] => []
  | a, n :: l => cbS cuts a n :: Xw cuts (a + n) l
def sumN : List Nat → Nat
  | [] => 0
  | n :: l => n + sumN l
def okN (l : List Nat) : Prop := ∀ n ∈ l, 1 ≤ n ∧ n ≤ 1600
theorem okN_c {n : Nat} {l : List Nat} (h : okN (n :: l)) : (1 ≤ n ∧ n ≤ 1600) ∧ okN l := ⟨h n (List.mem_cons_self ..), fun m hm => h m (List.mem_cons_of_mem _ hm)⟩
theorem Xt (cuts : List Int) : ∀ (a : Nat) (l : List Nat), (Xw cuts a l).length = l.length
  | _, [] => rfl
  | a, n :: l => by simp only [Xw, List.length_cons, Xt cuts (a + n) l]
theorem sumN_app : ∀ (a b : List Nat), sumN (a ++ b) = sumN a + sumN b
  | [], b => by simp [sumN]
  | n :: a, b => by simp only [List.cons_append, sumN, sumN_app a b]; omega
theorem cutBB_app (cuts : List Int) : ∀ (a : Nat) (l r : List Nat), Xw cuts a (l ++ r) = Xw cuts a l ++ Xw cuts (a + sumN l) r
  | a, [], r => rfl
  | a, n :: l, r => by simp only [List.cons_append, Xw, sumN, cutBB_app cuts (a + n) l r, Nat.add_assoc]
theorem cb_good0 {a n : Nat} (h1 : 1 ≤ n) (h2 : a + n ≤ 32768) : XE (postS (UInt64.ofNat a) n) := post_good h1 (by omega) (by rw [r64 (by omega)]; omega)
theorem cb_good {cuts : List Int} {a n : Nat} (h1 : 1 ≤ n) (h2 : a + n ≤ 32768) : XE (cbS cuts a n) := cutQ_good (cb_good0 h1 h2) cuts
theorem cb_cov {cuts : List Int} {a n : Nat} (h1 : 1 ≤ n) (h2 : a + n ≤ 32768) : Cov (cbS cuts a n) (postS (UInt64.ofNat a) n) := cov_cutQ (cb_good0 h1 h2) cuts
theorem post_in {a n : Nat} (h2 : a + n ≤ 32768) : inF 32768 (postS (UInt64.ofNat a) n) := by
  intro s hs
  unfold postS at hs
  rw [List.mem_singleton] at hs
  subst hs
  dsimp only
  rw [r32 (by omega), r64 (by omega)]; exact h2
theorem cb_in {cuts : List Int} {a n : Nat} (h1 : 1 ≤ n) (h2 : a + n ≤ 32768) : inF 32768 (cbS cuts a n) := cov_in (by omega) (cb_cov h1 h2) (post_in h2)
theorem cb_all {cuts : List Int} {a n : Nat} (h1 : 1 ≤ n) (h2 : a + n ≤ 32768) : allW true (cbS cuts a n) := cov_all (cb_cov h1 h2) (by
  intro s hs
  unfold postS at hs
  rw [List.mem_singleton] at hs
  subst hs; rfl)
theorem cb_sum {cuts : List Int} {a n : Nat} (h1 : 1 ≤ n) (h2 : a + n ≤ 32768) : sumS (cbS cuts a n) = n := by
  rw [cov_sum (cb_cov h1 h2)]
  simp only [postS, sumS, r32 (show n ≤ 4000000000 by omega)]; omega
theorem cb_wr {cuts : List Int} {a n : Nat} (h1 : 1 ≤ n) (h2 : a + n ≤ 32768) : wrS (cbS cuts a n) = n := by
  have h := sum_rw (cbS cuts a n)
  have hr := sum_rd (cbS cuts a n)
  rw [filter_allN (w := false) (cb_all h1 h2)] at hr
  rw [cb_sum h1 h2] at h
  simp only [sumS] at hr; omega
theorem cb_tot {cuts : List Int} {a n : Nat} (h1 : 1 ≤ n) (h2 : a + n ≤ 32768) : (totS (cbS cuts a n)).2 = UInt64.ofNat n := by
  unfold totS; rw [if_pos (cb_good h1 h2), cb_wr h1 h2]
theorem cb_gat {x : List UInt8} (hx : Xx 32768 x) {cuts : List Int} {a n : Nat} (h1 : 1 ≤ n) (h2 : a + n ≤ 32768) : gatF x (cbS cuts a n) = rdF x a n := by
  have hl : x.length = 32768 := hx.2.2
  rw [cov_gat x (cb_cov h1 h2) (by rw [hl]; exact post_in h2) (by omega)]
  unfold postS
  rw [XO, gatF_nil, List.append_nil]
  dsimp only
  rw [r32 (by omega), r64 (by omega)]
theorem cb_scat {x : List UInt8} (hx : Xx 32768 x) {cuts : List Int} {a n : Nat} (h1 : 1 ≤ n) (h2 : a + n ≤ 32768) (xs : List UInt8) (hxs : xs.length ≤ 100000) : XU ⟨rg 32768, [x]⟩ (cbS cuts a n) xs = some (((min xs.length n : Nat) : Int), (0 : Int), [wrF x a (xs.take n)]) := by
  have hl : x.length = 32768 := hx.2.2
  rw [rscatter1 hx _ xs (by omega) (cb_good h1 h2) (cb_in h1 h2), cb_wr h1 h2, filter_allW (cb_all h1 h2), cov_scat (cb_cov h1 h2) x xs (by rw [hl]; exact post_in h2) (by omega)]
  unfold postS scatF scatF
  dsimp only
  rw [r32 (by omega), r64 (by omega)]
def goR (mg : Bool) (W : Nat) : Nat → Nat → List Nat → Option Nat
  | _, _, [] => none
  | i, s, r :: rs => if i = 0 ∧ r < 12 then none else if W ≤ s + r then some (i + 1) else if mg = true then goR mg W (i + 1) (s + r) rs else none
def outR : Option Nat → Int × Bool
  | none => (0, false)
  | some k => ((k : Int), true)
theorem goR_le {mg : Bool} {W : Nat} : ∀ {rs : List Nat} {i s k : Nat}, goR mg W i s rs = some k → i < k ∧ k ≤ i + rs.length ∧ W ≤ s + sumN (rs.take (k - i)) ∧ (i = 0 → ∀ r l, rs = r :: l → 12 ≤ r) ∧ (mg = false → k = i + 1)
  | [], i, s, k, h => by simp [goR] at h
  | r :: rs, i, s, k, h => by
    simp only [goR] at h
    split at h
    · cases h
    · rename_i h0
      have h00 : i = 0 → ∀ r' l, r :: rs = r' :: l → 12 ≤ r' := by
        intro q r' l e
        cases e
        rcases Nat.lt_or_ge r 12 with z | z
        · exact absurd ⟨q, z⟩ h0
        · exact z
      split at h
      · rename_i h2
        simp at h; subst h
        rw [show i + 1 - i = 1 by omega]
        simp only [List.take_succ_cons, List.take_zero, sumN, List.length_cons]
        exact ⟨by omega, by omega, by omega, h00, fun _ => trivial⟩
      · split at h
        · rename_i hm
          obtain ⟨h1, h2, h3, _, _⟩ := goR_le h
          rw [show k - i = (k - (i + 1)) + 1 by omega, List.take_succ_cons]
          simp only [sumN, List.length_cons]
          exact ⟨by omega, by omega, by omega, h00, fun q => by rw [q] at hm; cases hm⟩
        · cases h
theorem rhas15 (f : UInt64) : Kj f 15 = some (XH f (15 : UInt64).toNat &&& 1 == 1) := by
  have := rhasB_eq f (k := 15) (by decide)
  rw [show ((15 : Nat) : Int) = 15 from rfl, show (u64 (15 : Int)).toNat = (15 : UInt64).toNat from by decide] at this
  rw [this]
  congr 2
  apply UInt64.toNat_inj.1
  rw [UInt64.toNat_mod, UInt64.toNat_and, show (1 : UInt64).toNat = 2 ^ 1 - 1 from rfl, Nat.and_two_pow_sub_one_eq_mod]; rfl
theorem rneedsL (feats : UInt64) (cuts : List Int) (bufs : List (List Seg)) (np2 : Int) (W : Nat) (hb : bufs.length ≤ 1000) (hW : u64 (maxi np2 12) = UInt64.ofNat W) (hW2 : W < 18446744073709551616) :
    ∀ (S : List Nat) (nf i s a : Nat), bufs.drop i = Xw cuts a S → okN S → a + sumN S ≤ 32768 → S.length < nf → i ≤ 1000 → s ≤ 32768 * i →
      XD feats bufs np2 nf (UInt64.ofNat s) (i : Int) = some (outR (goR (XH feats (15 : UInt64).toNat &&& 1 == 1) W i s S))
  | S, 0, i, s, a, _, _, _, h, _, _ => absurd h (Nat.not_lt_zero _)
  | [], nf + 1, i, s, a, hd, _, _, _, _, _ => by
    have : bufs.length ≤ i := by
      have := congrArg List.length hd
      rw [List.length_drop] at this; simp [Xw] at this; omega
    unfold XD YI
    rw [bN (by simp only [len]; omega)]; rfl
  | n :: S, nf + 1, i, s, a, hd, hok, hs, hn, hi, hss => by
    obtain ⟨hn1, hok2⟩ := okN_c hok
    simp only [sumN, List.length_cons] at hs hn
    have hlt : i < bufs.length := by
      have := congrArg List.length hd
      rw [List.length_drop, Xt] at this; simp at this; omega
    have hd2 := hd
    rw [YF hlt] at hd2
    simp only [Xw, List.cons.injEq] at hd2
    obtain ⟨hbi, hrest⟩ := hd2
    have hn0 : (UInt64.ofNat n).toNat = n := r64 (by omega)
    have ih := rneedsL feats cuts bufs np2 W hb hW hW2 S nf (i + 1) (s + n) (a + n) hrest hok2 (by omega) (by omega) (by have := hlt; omega) (by omega)
    have hJ : (br (decide (UInt64.ofNat s + UInt64.ofNat n ≥ UInt64.ofNat W)) (some (((i + 1 : Nat) : Int), true)) (ob (Kj feats 15) fun has1 => br (!has1) (some ((0 : Int), false)) (XD feats bufs np2 nf (UInt64.ofNat s + UInt64.ofNat n) ((i + 1 : Nat) : Int)))) =
        some (outR (if W ≤ s + n then some (i + 1) else if (XH feats (15 : UInt64).toNat &&& 1 == 1) = true then goR (XH feats (15 : UInt64).toNat &&& 1 == 1) W (i + 1) (s + n) S else none)) := by
      rw [← UInt64.ofNat_add, rhas15]
      by_cases h2 : W ≤ s + n
      · rw [if_pos h2, bP]
        · rfl
        · rw [GE.ge, UInt64.le_iff_toNat_le, UInt64.toNat_ofNat', UInt64.toNat_ofNat']; omega
      · rw [if_neg h2, bN (by rw [GE.ge, UInt64.le_iff_toNat_le, UInt64.toNat_ofNat', UInt64.toNat_ofNat']; omega), ih, obS]
        cases XH feats (15 : UInt64).toNat &&& 1 == 1 with
        | true => rw [notT, brF, if_pos rfl]
        | false => rw [notF, brT, if_neg (by decide)]; rfl
    unfold XD YI goR
    rw [bP (by simp only [len]; omega), oS (ZF (getq hlt)), hbi, oS (refTotal _), cb_tot hn1.1 (by omega), bF (fun q => by have := congrArg UInt64.toNat q; rw [hn0] at this; simp at this; omega), hW, Zt (by omega), hJ]
    by_cases h1 : i = 0
    · subst h1
      rw [bE (show ((0 : Nat) : Int) = 0 from rfl)]
      by_cases h2 : n < 12
      · rw [if_pos (show 0 = 0 ∧ n < 12 from ⟨rfl, h2⟩), bP (by rw [UInt64.lt_iff_toNat_lt, hn0]; exact h2)]; rfl
      · rw [if_neg (show ¬ (0 = 0 ∧ n < 12) from fun q => h2 q.2), bN (by rw [UInt64.lt_iff_toNat_lt, hn0]; exact h2)]
    · rw [bF (by omega), if_neg (show ¬ (i = 0 ∧ n < 12) from fun q => h1 q.1)]
theorem rneeds_eq (feats : UInt64) (cuts : List Int) (S : List Nat) (a : Nat) (np2 : Int) (W : Nat) (hW : maxi np2 12 = (W : Int)) (hW2 : W < 18446744073709551616) (hok : okN S) (hs : a + sumN S ≤ 32768) (hl : S.length ≤ 1000) :
    ref_Needs25 feats (Xw cuts a S) np2 = some (outR (goR (XH feats (15 : UInt64).toNat &&& 1 == 1) W 0 0 S)) := by
  have := rneedsL feats cuts (Xw cuts a S) np2 W (by rw [Xt]; exact hl) (by rw [hW, u64_of]) hW2 S fuel 0 0 a rfl hok hs (by rw [fuelS]; omega) (by omega) (by omega)
  exact this
def fillR : Nat → List Nat → List Nat
  | _, [] => []
  | k, n :: l => min k n :: fillR (k - min k n) l
theorem fillR_len : ∀ (k : Nat) (l : List Nat), (fillR k l).length = l.length
  | _, [] => rfl
  | k, n :: l => by simp only [fillR, List.length_cons, fillR_len]
theorem delR3 (L : dumbwaiterref02_Mem) (hL : L.L = rg 32768) (cuts : List Int) (bufs : List (List Seg)) (k : Nat) (hk : k ≤ 1000) :
    ∀ (S : List Nat) (nf i a : Nat) (x rest : List UInt8) (out : List UInt32), Xx 32768 x → bufs.drop i = Xw cuts a S → okN S → a + sumN S ≤ 32768 → S.length < nf → i ≤ k → k - i ≤ S.length → rest.length ≤ 100000 → out.length = i →
      XN L bufs ((k : Int), true) nf [x] rest out (i : Int) = some (out ++ (fillR rest.length (S.take (k - i))).map UInt32.ofNat, 0, [wrF x a (rest.take (sumN (S.take (k - i))))])
  | S, 0, i, a, x, rest, out, _, _, _, _, h, _, _, _, _ => absurd h (Nat.not_lt_zero _)
  | S, nf + 1, i, a, x, rest, out, hx, hd, hok, hs, hn, hik, hkl, hr, ho => by
    unfold XN YP
    by_cases h : i < k
    · cases S with
      | nil => simp at hkl; omega
      | cons n S =>
        obtain ⟨hn1, hok2⟩ := okN_c hok
        simp only [sumN, List.length_cons] at hs hn hkl
        have hlt : i < bufs.length := by
          have := congrArg List.length hd
          rw [List.length_drop, Xt] at this; simp at this; omega
        have hd2 := hd
        rw [YF hlt] at hd2
        simp only [Xw, List.cons.injEq] at hd2
        obtain ⟨hbi, hrest⟩ := hd2
        have hxl : x.length = 32768 := hx.2.2
        rw [bP (show ((i : Int) < ((k : Int), true).1) by dsimp only; omega), oS (ZF (getq hlt)), hbi, hL, oS (cb_scat hx hn1.1 (by omega) rest hr)]
        dsimp only
        rw [Kn (by simp only [List.length_cons, List.length_nil]; omega), cD3 (by simp only [len]; omega), YN, Int.toNat_natCast, u32_of, Zt (by omega)]
        have hw : Xx 32768 (wrF x a (rest.take n)) := wrF_ok hx (by rw [List.length_take]; show _ ≤ 32768; omega)
        have ih := delR3 L hL cuts bufs k hk S nf (i + 1) (a + n) (wrF x a (rest.take n)) (rest.drop (min rest.length n)) (out ++ [UInt32.ofNat (min rest.length n)]) hw hrest hok2 (by omega) (by omega) (by omega) (by omega) (by rw [List.length_drop]; omega) (by rw [List.length_append, ho]; rfl)
        rw [ih, show k - i = (k - (i + 1)) + 1 by omega, List.take_succ_cons]
        simp only [fillR, sumN, List.map_cons, List.append_assoc, List.singleton_append, List.length_drop]
        refine congrArg (fun t => some (out ++ UInt32.ofNat (min rest.length n) :: (fillR (rest.length - min rest.length n) (S.take (k - (i + 1)))).map UInt32.ofNat, (0 : Int), [t])) ?_
        generalize hm : sumN (S.take (k - (i + 1))) = m
        have hmS : m ≤ sumN S := by
          rw [← hm]
          have := sumN_app (S.take (k - (i + 1))) (S.drop (k - (i + 1)))
          rw [List.take_append_drop] at this; omega
        rcases Nat.lt_or_ge rest.length n with q | q
        · rw [Nat.min_eq_left (by omega), List.drop_of_length_le (by omega), List.take_nil, wrF_nil, List.take_of_length_le (by omega), List.take_of_length_le (by omega)]
        · have eL : (rest.take n).length = n := by rw [List.length_take]; omega
          have := wrF_two (x := x) (a := a) (xs := rest.take n) (ys := (rest.drop n).take m) (by rw [eL, List.length_take]; omega)
          rw [eL] at this
          rw [Nat.min_eq_right (by omega), this, List.take_add]
    · rw [bN (show ¬ ((i : Int) < ((k : Int), true).1) by dsimp only; omega), show k - i = 0 by omega, List.take_zero]
      simp [fillR, sumN, wrF_nil]
theorem delR1 (L : dumbwaiterref02_Mem) {x : List UInt8} (hx : Xx 32768 x) (hL : L = ⟨rg 32768, [x]⟩) (feats : UInt64) (cuts : List Int) (bufs : List (List Seg)) (k : Nat) (hk : k ≤ 1000) (b1 : List UInt8 × Int) (R : Option (List UInt32 × Int × List (List UInt8)))
    (hJ : ∀ q : UInt8, ZN L bufs b1 ((k : Int), true) (Hdr.mk q 0 0 (u16 (k : Int))) = R ∨ True) :
    ∀ (S : List Nat) (nf i a : Nat), bufs.drop i = Xw cuts a S → okN S → a + sumN S ≤ 32768 → S.length < nf → i ≤ k → k - i ≤ S.length →
      ∃ q : UInt8, Xr L feats bufs b1 ((k : Int), true) nf (i : Int) = ZN L bufs b1 ((k : Int), true) (Hdr.mk q 0 0 (u16 (k : Int)))
  | S, 0, i, a, _, _, _, h, _, _ => absurd h (Nat.not_lt_zero _)
  | S, nf + 1, i, a, hd, hok, hs, hn, hik, hkl => by
    unfold Xr YQ
    by_cases h : i < k
    · cases S with
      | nil => simp at hkl; omega
      | cons n S =>
        obtain ⟨hn1, hok2⟩ := okN_c hok
        simp only [sumN, List.length_cons] at hs hn hkl
        have hlt : i < bufs.length := by
          have := congrArg List.length hd
          rw [List.length_drop, Xt] at this; simp at this; omega
        have hd2 := hd
        rw [YF hlt] at hd2
        simp only [Xw, List.cons.injEq] at hd2
        obtain ⟨hbi, hrest⟩ := hd2
        have hin : ref_In05 L (cbS cuts a n) = some 0 := by
          rw [hL, refIn_eq _ (flat_mem hx)]
          exact congrArg some (inE1_zero.2 ⟨cb_good hn1.1 (by omega), cb_in hn1.1 (by omega)⟩)
        rw [bP (show ((i : Int) < ((k : Int), true).1) by dsimp only; omega), oS (ZF (getq hlt)), hbi, oS hin, nE rfl, Zt (by omega)]
        exact delR1 L hx hL feats cuts bufs k hk b1 R hJ S nf (i + 1) (a + n) hrest hok2 (by omega) (by omega) (by omega) (by omega)
    · rw [bN (show ¬ ((i : Int) < ((k : Int), true).1) by dsimp only; omega)]
      have := rhasB_eq feats (k := 1) (by decide)
      rw [show ((1 : Nat) : Int) = 1 from rfl] at this
      rw [oS this]
      cases (XH feats (u64 (1 : Int)).toNat % 2 == 1) with
      | true => exact ⟨2, by rw [brT]⟩
      | false => exact ⟨0, by rw [brF]⟩
theorem rdeliver {x : List UInt8} (hx : Xx 32768 x) (feats : UInt64) (cuts : List Int) (a : Nat) (S : List Nat) (hok : okN S) (hs : a + sumN S ≤ 32768) (hl : S.length ≤ 1000) (f : Frame) :
    ∃ r, Yz ⟨rg 32768, [x]⟩ feats (Xw cuts a S) f = some r ∧ ((r.2.1 ≠ 0 ∧ r.2.2 = [x]) ∨
      (∃ (k : Nat) (q : UInt8), okF f ∧ goR (XH feats (15 : UInt64).toNat &&& 1 == 1) (12 + (ZA f).length) 0 0 S = some k ∧
        r = ((fillR (12 + (ZA f).length) (S.take k)).map UInt32.ofNat, 0, [wrF x a (YL (Hdr.mk q 0 0 (UInt16.ofNat k)) ++ ZA f)]))) := by
  unfold Yz
  rw [refBytes_eq]
  by_cases hf : okF f
  · have hb := bytesF_ge hf
    have hW : maxi (wi ((12 : Int) + len (ZA f))) 12 = ((12 + (ZA f).length : Nat) : Int) := by
      simp only [len]
      rw [wi_in (by omega) (by omega)]; unfold maxi; split <;> omega
    rw [oS (bytes_ok hf), nE rfl]
    dsimp only
    rw [oS (rneeds_eq feats cuts S a _ _ hW (by omega) hok hs hl)]
    cases hg : goR (XH feats (15 : UInt64).toNat &&& 1 == 1) (12 + (ZA f).length) 0 0 S with
    | none => exact ⟨([], 7, [x]), by rw [show (outR none) = ((0 : Int), false) from rfl, notF, brT], Or.inl ⟨(by decide : (7 : Int) ≠ 0), rfl⟩⟩
    | some k =>
      obtain ⟨g1, g2, g3, g4, g5⟩ := goR_le hg
      rw [show (outR (some k)) = ((k : Int), true) from rfl, notT, brF]
      obtain ⟨q, hq⟩ := delR1 ⟨rg 32768, [x]⟩ hx rfl feats cuts (Xw cuts a S) k (by omega) (ZA f, 0) none (fun _ => Or.inr trivial) S fuel 0 a rfl hok hs (by rw [fuelS]; omega) (by omega) (by omega)
      have hq0 : Xr ⟨rg 32768, [x]⟩ feats (Xw cuts a S) (ZA f, 0) ((k : Int), true) fuel 0 = ZN ⟨rg 32768, [x]⟩ (Xw cuts a S) (ZA f, 0) ((k : Int), true) (Hdr.mk q 0 0 (u16 (k : Int))) := hq
      rw [hq0]
      refine ⟨_, ?_, Or.inr ⟨k, q, hf, rfl, rfl⟩⟩
      unfold ZN
      have h3 := delR3 ⟨rg 32768, [x]⟩ rfl cuts (Xw cuts a S) k (by omega) S fuel 0 a x (YL (Hdr.mk q 0 0 (UInt16.ofNat k)) ++ ZA f) [] hx rfl hok hs (by rw [fuelS]; omega) (by omega) (by omega) (by rw [List.length_append, show (YL (Hdr.mk q 0 0 (UInt16.ofNat k))).length = 12 from rfl]; omega) rfl
      have hl2 : (YL (Hdr.mk q 0 0 (UInt16.ofNat k)) ++ ZA f).length = 12 + (ZA f).length := by rw [List.length_append]; rfl
      rw [hl2, List.nil_append, Nat.sub_zero, List.take_of_length_le (l := YL (Hdr.mk q 0 0 (UInt16.ofNat k)) ++ ZA f) (by rw [hl2]; rw [Nat.sub_zero] at g3; omega)] at h3
      rw [u16_of, oS (refHdrOf_eq _), Kn (by rw [show (YL (Hdr.mk q 0 0 (UInt16.ofNat k))).length = 12 from rfl]; dsimp only; omega)]
      exact h3
  · rw [bytes_bad hf]
    exact ⟨([], 2, [x]), by rw [obS, nF (by decide)], Or.inl ⟨(by decide : (2 : Int) ≠ 0), rfl⟩⟩
end Go.Proofs.Ytgcbcnpbnonnjaa

/- Buffers that are cut: what Cut makes, and that it covers the buffer. No condition. -/
import Derived.Test.YtgcbcnpbnonnjaaPuFlat
namespace Go.Proofs.Ytgcbcnpbnonnjaa
def cutG (most : Nat) : List Int → List Seg → List Seg → List Seg
  | [], out, R => out ++ R
  | c :: cs, out, R => if c ≤ 0 ∨ sumS R ≤ (u64 c).toNat then cutG most cs out R
    else if most < out.length + (takeS (u64 c).toNat R).length + (dropS (u64 c).toNat R).length then out ++ R
    else cutG most cs (out ++ takeS (u64 c).toNat R) (dropS (u64 c).toNat R)
theorem sumS_app : ∀ a b : List Seg, sumS (a ++ b) = sumS a + sumS b
  | [], b => by simp [sumS]
  | x :: a, b => by simp only [List.cons_append, sumS, sumS_app a b]; omega
theorem take_appS : ∀ (a b : List Seg) (n : Nat), posS a → takeS (sumS a + n) (a ++ b) = a ++ takeS n b
  | [], b, n, _ => by simp [sumS]
  | x :: a, b, n, h => by
    have hx := h x (List.mem_cons_self ..)
    simp only [sumS, List.cons_append, takeS]
    rw [if_neg (by omega), if_neg (by omega), show x.Len.toNat + sumS a + n - x.Len.toNat = sumS a + n by omega, take_appS a b n (fun s hs => h s (List.mem_cons_of_mem _ hs))]
theorem drop_appS : ∀ (a b : List Seg) (n : Nat), posS a → dropS (sumS a + n) (a ++ b) = dropS n b
  | [], b, n, _ => by simp [sumS]
  | x :: a, b, n, h => by
    have hx := h x (List.mem_cons_self ..)
    simp only [sumS, List.cons_append, dropS]
    rw [if_neg (by omega), if_neg (by omega), show x.Len.toNat + sumS a + n - x.Len.toNat = sumS a + n by omega, drop_appS a b n (fun s hs => h s (List.mem_cons_of_mem _ hs))]
theorem td_len : ∀ (n : Nat) (R : List Seg), R.length ≤ (takeS n R).length + (dropS n R).length ∧ (takeS n R).length + (dropS n R).length ≤ R.length + 1
  | n, [] => by simp [takeS, dropS]
  | n, x :: r => by
    simp only [takeS, dropS]
    by_cases h0 : n = 0
    · simp only [h0, if_pos, List.length_nil, List.length_cons]; omega
    · by_cases h1 : n < x.Len.toNat
      · simp only [if_neg h0, if_pos h1, List.length_cons, List.length_nil]; omega
      · have := td_len (n - x.Len.toNat) r
        simp only [if_neg h0, if_neg h1, List.length_cons]; omega
theorem posS_app {a b : List Seg} : posS (a ++ b) ↔ posS a ∧ posS b := by
  unfold posS
  constructor
  · intro h; exact ⟨fun s hs => h s (List.mem_append_left _ hs), fun s hs => h s (List.mem_append_right _ hs)⟩
  · rintro ⟨h1, h2⟩ s hs
    rcases List.mem_append.1 hs with q | q
    · exact h1 s q
    · exact h2 s q
/-! covering: the same bytes, in order, of the same kind -/
inductive Cov : List Seg → List Seg → Prop
  | nil : Cov [] []
  | whole (x : Seg) (c l : List Seg) : Cov c l → Cov (x :: c) (x :: l)
  | part (x y : Seg) (c l : List Seg) : x.At = y.At → x.Write = y.Write → 0 < x.Len.toNat → x.Len.toNat < y.Len.toNat → Cov c (tlS y x.Len.toNat :: l) → Cov (x :: c) (y :: l)
theorem cov_refl : ∀ l : List Seg, Cov l l
  | [] => .nil
  | x :: l => .whole x l l (cov_refl l)
theorem cov_append {a b c d : List Seg} (h1 : Cov a b) (h2 : Cov c d) : Cov (a ++ c) (b ++ d) := by
  induction h1 with
  | nil => exact h2
  | whole x c l _ ih => exact .whole x _ _ ih
  | part x y c l e1 e2 e3 e4 _ ih => exact .part x y _ _ e1 e2 e3 e4 ih
theorem hd_tl {y : Seg} {n k : Nat} (h1 : k ≤ n) (h2 : n < y.Len.toNat) : hdS (tlS y k) (n - k) = tlS (hdS y n) k := by
  have := hd_len h2
  simp only [hdS, tlS] at this ⊢
  rw [this]
theorem cov_mergeG {Z L : List Seg} (h : Cov Z L) : ∀ (a : List Seg) (y : Seg) (n : Nat) (l : List Seg), L = a ++ hdS y n :: tlS y n :: l → 0 < n → n < y.Len.toNat → Cov Z (a ++ y :: l) := by
  induction h with
  | nil => intro a y n l e _ _; cases a <;> cases e
  | whole x c l0 h0 ih =>
    intro a y n l e h1 h2
    cases a with
    | nil =>
      simp only [List.nil_append, List.cons.injEq] at e ⊢
      obtain ⟨rfl, rfl⟩ := e
      have hl := hd_len h2
      exact .part _ _ _ _ rfl rfl (by rw [hl]; exact h1) (by rw [hl]; exact h2) (by rw [hl]; exact h0)
    | cons z a =>
      simp only [List.cons_append, List.cons.injEq] at e ⊢
      obtain ⟨rfl, e2⟩ := e
      exact .whole _ _ _ (ih a y n l e2 h1 h2)
  | part x y0 c l0 e1 e2 e3 e4 h0 ih =>
    intro a y n l e h1 h2
    cases a with
    | nil =>
      simp only [List.nil_append, List.cons.injEq] at e ⊢
      obtain ⟨rfl, rfl⟩ := e
      rw [hd_len h2] at e4
      have q := ih [] (tlS y x.Len.toNat) (n - x.Len.toNat) l (by
        rw [List.nil_append, hd_tl (by omega) h2, tl_tl (by omega), show x.Len.toNat + (n - x.Len.toNat) = n by omega]) (by omega) (by rw [tl_len]; omega)
      exact .part _ _ _ _ e1 e2 e3 (by omega) q
    | cons z a =>
      simp only [List.cons_append, List.cons.injEq] at e ⊢
      obtain ⟨rfl, e5⟩ := e
      exact .part _ _ _ _ e1 e2 e3 e4 (ih (tlS y0 x.Len.toNat :: a) y n l (by rw [e5]; rfl) h1 h2)
theorem cov_td {Z : List Seg} : ∀ (R out : List Seg) (n : Nat), Cov Z (out ++ takeS n R ++ dropS n R) → Cov Z (out ++ R)
  | [], out, n, h => by simpa [takeS, dropS] using h
  | x :: r, out, n, h => by
    simp only [takeS, dropS] at h
    by_cases h0 : n = 0
    · simp only [h0, if_pos, List.append_nil] at h; exact h
    · by_cases h1 : n < x.Len.toNat
      · simp only [if_neg h0, if_pos h1, List.append_assoc, List.singleton_append] at h
        exact cov_mergeG h out x n r rfl (by omega) h1
      · simp only [if_neg h0, if_neg h1] at h
        have := cov_td r (out ++ [x]) (n - x.Len.toNat) (by simpa using h)
        simpa using this
theorem cov_cutG (most : Nat) : ∀ (cs : List Int) (out R : List Seg), Cov (cutG most cs out R) (out ++ R)
  | [], out, R => cov_refl _
  | c :: cs, out, R => by
    unfold cutG
    split
    · exact cov_cutG most cs out R
    · split
      · exact cov_refl _
      · have := cov_cutG most cs (out ++ takeS (u64 c).toNat R) (dropS (u64 c).toNat R)
        exact cov_td R out _ this
theorem cutG_len (most : Nat) : ∀ (cs : List Int) (out R : List Seg), out.length + R.length ≤ most → (cutG most cs out R).length ≤ most
  | [], out, R, h => by simpa [cutG] using h
  | c :: cs, out, R, h => by
    unfold cutG
    split
    · exact cutG_len most cs out R h
    · split
      · simpa using h
      · refine cutG_len most cs _ _ ?_
        rw [List.length_append]; omega
theorem cov_sum {c l : List Seg} (h : Cov c l) : sumS c = sumS l := by
  induction h with
  | nil => rfl
  | whole x c l _ ih => simp only [sumS, ih]
  | part x y c l e1 e2 e3 e4 _ ih => simp only [sumS, ih, tl_len]; omega
theorem cov_ok {c l : List Seg} (h : Cov c l) : ∀ w : Bool, okS w l = true → okS w c = true := by
  induction h with
  | nil => intro w h; exact h
  | whole x c l _ ih =>
    intro w h
    unfold okS at h ⊢
    rw [Bool.and_eq_true] at h ⊢
    exact ⟨h.1, ih _ h.2⟩
  | part x y c l e1 e2 e3 e4 _ ih =>
    intro w h
    unfold okS at h ⊢
    rw [Bool.and_eq_true, decide_eq_true_eq] at h ⊢
    obtain ⟨⟨a1, a2, a3⟩, b⟩ := h
    refine ⟨⟨e3, by rw [e1]; omega, by rw [e2]; exact a3⟩, ih _ ?_⟩
    unfold okS
    rw [Bool.and_eq_true, decide_eq_true_eq]
    refine ⟨⟨by rw [tl_len]; omega, ?_, fun q => by rw [e2] at q; exact q⟩, b⟩
    rw [tl_len, tl_at e4 a2]; omega
theorem cov_good {c l : List Seg} (h : Cov c l) (hg : XE l) (hl : c.length ≤ 64) : XE c := ⟨hl, cov_ok h _ hg.2.1, by rw [cov_sum h]; exact hg.2.2⟩
theorem cov_all {w : Bool} {c l : List Seg} (h : Cov c l) : allW w l → allW w c := by
  induction h with
  | nil => exact id
  | whole x c l _ ih =>
    intro h s hs
    rcases List.mem_cons.1 hs with q | q
    · exact h s (by rw [q]; exact List.mem_cons_self ..)
    · exact ih (fun t ht => h t (List.mem_cons_of_mem _ ht)) s q
  | part x y c l e1 e2 e3 e4 _ ih =>
    intro h s hs
    have hy := h y (List.mem_cons_self ..)
    rcases List.mem_cons.1 hs with q | q
    · rw [q, e2]; exact hy
    · refine ih (fun t ht => ?_) s q
      rcases List.mem_cons.1 ht with z | z
      · rw [z]; exact hy
      · exact h t (List.mem_cons_of_mem _ z)
theorem drop_pos : ∀ (n : Nat) (R : List Seg), posS R → posS (dropS n R)
  | n, [], h => h
  | n, x :: r, h => by
    have h2 : posS r := fun s hs => h s (List.mem_cons_of_mem _ hs)
    unfold dropS
    by_cases h0 : n = 0
    · rw [if_pos h0]; exact h
    · rw [if_neg h0]
      by_cases h1 : n < x.Len.toNat
      · rw [if_pos h1]
        intro s hs
        rcases List.mem_cons.1 hs with q | q
        · rw [q, tl_len]; omega
        · exact h2 s q
      · rw [if_neg h1]; exact drop_pos _ r h2
theorem ok_td : ∀ (w : Bool) (R : List Seg) (n : Nat), okS w R = true → okS w (takeS n R ++ dropS n R) = true
  | w, [], n, h => h
  | w, x :: r, n, h => by
    have h' := h
    unfold okS at h
    rw [Bool.and_eq_true, decide_eq_true_eq] at h
    obtain ⟨⟨a1, a2, a3⟩, b⟩ := h
    unfold takeS dropS
    by_cases h0 : n = 0
    · rw [if_pos h0, if_pos h0]; exact h'
    · rw [if_neg h0, if_neg h0]
      by_cases h1 : n < x.Len.toNat
      · rw [if_pos h1, if_pos h1, List.singleton_append]
        unfold okS okS
        simp only [Bool.and_eq_true, decide_eq_true_eq]
        refine ⟨⟨by rw [hd_len h1]; omega, by rw [hd_len h1]; show x.At.toNat + _ ≤ _; omega, a3⟩, ⟨by rw [tl_len]; omega, by rw [tl_len, tl_at h1 a2]; omega, fun q => q⟩, b⟩
      · rw [if_neg h1, if_neg h1, List.cons_append]
        unfold okS
        rw [Bool.and_eq_true, decide_eq_true_eq]
        exact ⟨⟨a1, a2, a3⟩, ok_td _ r _ b⟩
theorem ok_pre {R X : List Seg} : ∀ (out : List Seg), (∀ w : Bool, okS w R = true → okS w X = true) → ∀ w : Bool, okS w (out ++ R) = true → okS w (out ++ X) = true
  | [], h, w, q => h w q
  | x :: out, h, w, q => by
    rw [List.cons_append] at q ⊢
    unfold okS at q ⊢
    rw [Bool.and_eq_true] at q ⊢
    exact ⟨q.1, ok_pre out h _ q.2⟩
/-! the program's way -/
theorem splitL (cuts : List Int) (hc : cuts.length ≤ 1000000) (total : UInt64 × UInt64) (A most : Nat) (hA : total.1 + total.2 = UInt64.ofNat A) (hA2 : A < 4294967296) (hm : most ≤ 64) : ∀ (nf i : Nat) (out R : List Seg) (more : Nat), i ≤ cuts.length → cuts.length - i < nf → XE (out ++ R) → sumS out + sumS R = A → out.length + R.length + more = most →
    Xl cuts total nf (out ++ R) (more : Int) (UInt64.ofNat (sumS out)) (i : Int) = some (cutG most (cuts.drop i) out R)
  | 0, i, out, R, more, _, h, _, _, _ => absurd h (Nat.not_lt_zero _)
  | nf + 1, i, out, R, more, hi, hn, hg, hs, hmo => by
    unfold Xl Ko
    by_cases h : i < cuts.length
    · have g := ZF (getq h)
      rw [YF h, bP (by simp only [len]; omega), oS g, Zt (by omega)]
      have ih := fun (o R' : List Seg) (m : Nat) (a1 : XE (o ++ R')) (a2 : sumS o + sumS R' = A) (a3 : o.length + R'.length + m = most) => splitL cuts hc total A most hA hA2 hm nf (i + 1) o R' m (by omega) (by omega) a1 a2 a3
      generalize cuts[i] = c at *
      have hpos := posS_app.1 (okS_pos hg.2.1)
      by_cases h0 : c ≤ 0
      · rw [bP h0, ih out R more hg hs hmo]; simp only [cutG, if_pos (Or.inl h0 : c ≤ 0 ∨ sumS R ≤ (u64 c).toNat)]
      · rw [bN h0, oS g, hA, sub_ofNat (by omega) (by omega), show A - sumS out = sumS R by omega]
        have hnat : (UInt64.ofNat (sumS R)).toNat = sumS R := by rw [UInt64.toNat_ofNat']; omega
        by_cases h1 : sumS R ≤ (u64 c).toNat
        · rw [bP (by rw [GE.ge, le64, hnat]; exact h1), ih out R more hg hs hmo]; simp only [cutG, if_pos (Or.inr h1 : c ≤ 0 ∨ sumS R ≤ (u64 c).toNat)]
        · rw [bN (by rw [GE.ge, le64, hnat]; exact h1), oS g]
          have e1 : UInt64.ofNat (sumS out) + u64 c = UInt64.ofNat (sumS out + (u64 c).toNat) := by rw [UInt64.ofNat_add, UInt64.ofNat_toNat]
          have hcut : cutG most (c :: cuts.drop (i + 1)) out R = if most < out.length + (takeS (u64 c).toNat R).length + (dropS (u64 c).toNat R).length then out ++ R
              else cutG most (cuts.drop (i + 1)) (out ++ takeS (u64 c).toNat R) (dropS (u64 c).toNat R) := by
            conv => lhs; unfold cutG
            rw [if_neg (by omega)]
          rw [hcut]
          generalize (u64 c).toNat = n at *
          have en : (UInt64.ofNat (sumS out + n)).toNat = sumS out + n := by rw [UInt64.toNat_ofNat']; omega
          have eA : (UInt64.ofNat A).toNat = A := by rw [UInt64.toNat_ofNat']; omega
          have c1 : seg_Cut (out ++ R) 0 (UInt64.ofNat (sumS out + n)) = some (out ++ takeS n R) := by
            rw [segCut_eq, en]
            unfold cutS
            rw [if_pos hg, show (0 : UInt64).toNat = 0 from rfl, drop0, take_appS _ _ _ hpos.1]
          have c2 : seg_Cut (out ++ R) (UInt64.ofNat (sumS out + n)) (UInt64.ofNat A) = some (dropS n R) := by
            rw [segCut_eq, en, eA]
            unfold cutS
            rw [if_pos hg, drop_appS _ _ _ hpos.1, take_all]
            · intro s hs'
              have := cov_refl R
              exact drop_pos n R hpos.2 s hs'
            · rw [sum_drop]; omega
          have hl := td_len n R
          have hg2 : out.length + (takeS n R).length + (dropS n R).length ≤ 64 → XE ((out ++ takeS n R) ++ dropS n R) := fun q => by
            refine ⟨by simpa [Nat.add_assoc] using q, ?_, ?_⟩
            · rw [List.append_assoc]; exact ok_pre out (fun w h => ok_td w R n h) false hg.2.1
            · rw [sumS_app, sumS_app, sum_take, sum_drop]; have := hg.2.2; rw [sumS_app] at this; omega
          have hs2 : sumS (out ++ takeS n R) = sumS out + n := by rw [sumS_app, sum_take]; omega
          have hlen : (out ++ R).length = out.length + R.length := List.length_append ..
          have h64 := hg.1
          rw [e1, oS c1, oS c2, Kn (by simp only [List.length_append]; omega)]
          unfold Yj
          rw [e1, Zt (by omega)]
          by_cases h2 : out.length + (takeS n R).length + (dropS n R).length > out.length + R.length
          · rw [bP (by simp only [len, List.length_append]; omega)]
            by_cases h3 : more = 0
            · subst h3
              rw [bE (show ((0 : Nat) : Int) = 0 from rfl), if_pos (by omega)]
            · rw [bF (by omega), if_neg (by omega), show wi ((more : Int) - 1) = ((more - 1 : Nat) : Int) from by rw [wi_in (by omega) (by omega)]; omega]
              have := ih (out ++ takeS n R) (dropS n R) (more - 1) (hg2 (by omega)) (by rw [hs2, sum_drop]; omega) (by rw [List.length_append]; omega)
              rw [hs2] at this; exact this
          · rw [bN (by simp only [len, List.length_append]; omega), if_neg (by omega)]
            have := ih (out ++ takeS n R) (dropS n R) more (hg2 (by omega)) (by rw [hs2, sum_drop]; omega) (by rw [List.length_append]; omega)
            rw [hs2] at this; exact this
    · rw [bN (by simp only [len]; omega), List.drop_of_length_le (by omega)]; rfl
def cutQ (l : List Seg) (cuts : List Int) : List Seg :=
  cutG (64 - (l.filter (fun s => s.Write == true)).length) cuts [] (l.filter (fun s => s.Write == false)) ++
    cutG (64 - (cutG (64 - (l.filter (fun s => s.Write == true)).length) cuts [] (l.filter (fun s => s.Write == false))).length) cuts [] (l.filter (fun s => s.Write == true))
theorem filter_lens (l : List Seg) : (l.filter (fun s => s.Write == false)).length + (l.filter (fun s => s.Write == true)).length = l.length := by
  induction l with
  | nil => rfl
  | cons x l ih => cases h : x.Write <;> simp [List.filter_cons, h] <;> simp at ih <;> omega
theorem split_eq {l : List Seg} (hg : XE l) (cuts : List Int) (hc : cuts.length ≤ 1000000) (more : Nat) (hm : l.length + more ≤ 64) : Kb l cuts (more : Int) = some (cutG (l.length + more) cuts [] l) := by
  unfold Kb
  have hs := sum_rw l
  have hlt := hg.2.2
  have ht : totS l = (UInt64.ofNat (rdS l), UInt64.ofNat (wrS l)) := by unfold totS; rw [if_pos hg]
  rw [oS (segTotal l), ht]
  have := splitL cuts hc (UInt64.ofNat (rdS l), UInt64.ofNat (wrS l)) (sumS l) (l.length + more) (by rw [hs, UInt64.ofNat_add]) hlt hm fuel 0 [] l more (by omega) (by rw [fuelS]; omega) hg (by simp [sumS]) (by simp)
  simpa [sumS] using this
theorem bcut_eq (l : List Seg) (cuts : List Int) (hc : cuts.length ≤ 1000000) : blkdrv_Cut l cuts = some (if XE l then cutQ l cuts else []) := by
  unfold blkdrv_Cut
  rw [oS (segCheck l)]
  by_cases hg : XE l
  · have h64 := hg.1
    have hl := filter_lens l
    have gr := good_filter (w := false) hg
    have gw := good_filter (w := true) hg
    rw [nE (errS_good hg), oS (part_eq hg false), oS (part_eq hg true), if_pos hg]
    unfold cutQ
    generalize l.filter (fun s => s.Write == false) = r at *
    generalize l.filter (fun s => s.Write == true) = w at *
    have e1 : wi ((64 : Int) - len l) = ((64 - l.length : Nat) : Int) := by simp only [len]; rw [wi_in (by omega) (by omega)]; omega
    have s1 := split_eq gr cuts hc (64 - l.length) (by omega)
    rw [show r.length + (64 - l.length) = 64 - w.length by omega] at s1
    rw [e1, oS s1]
    have la := cutG_len (64 - w.length) cuts [] r (by simp only [List.length_nil]; omega)
    generalize cutG (64 - w.length) cuts [] r = a at *
    have e2 : wi (wi ((64 : Int) - len a) - len w) = ((64 - a.length - w.length : Nat) : Int) := by
      simp only [len]; rw [wi_in (by rw [wi_in (by omega) (by omega)]; omega) (by rw [wi_in (by omega) (by omega)]; omega), wi_in (by omega) (by omega)]; omega
    have s2 := split_eq gw cuts hc (64 - a.length - w.length) (by omega)
    rw [show w.length + (64 - a.length - w.length) = 64 - a.length by omega] at s2
    have lb := cutG_len (64 - a.length) cuts [] w (by simp only [List.length_nil]; omega)
    rw [e2, oS s2, Kn (by omega)]
  · rw [nF (errS_bad hg), if_neg hg]
theorem cov_cutQ {l : List Seg} (hg : XE l) (cuts : List Int) : Cov (cutQ l cuts) l := by
  have h := cov_append (cov_cutG (64 - (l.filter (fun s => s.Write == true)).length) cuts [] (l.filter (fun s => s.Write == false)))
    (cov_cutG (64 - (cutG (64 - (l.filter (fun s => s.Write == true)).length) cuts [] (l.filter (fun s => s.Write == false))).length) cuts [] (l.filter (fun s => s.Write == true)))
  rw [List.nil_append, List.nil_append, part_both hg.2.1] at h
  exact h
theorem cutQ_len {l : List Seg} (hg : XE l) (cuts : List Int) : (cutQ l cuts).length ≤ 64 := by
  have h64 := hg.1
  have hl := filter_lens l
  unfold cutQ
  generalize l.filter (fun s => s.Write == false) = r at *
  generalize l.filter (fun s => s.Write == true) = w at *
  have la := cutG_len (64 - w.length) cuts [] r (by simp only [List.length_nil]; omega)
  generalize cutG (64 - w.length) cuts [] r = a at *
  have lb := cutG_len (64 - a.length) cuts [] w (by simp only [List.length_nil]; omega)
  rw [List.length_append]; omega
theorem cutQ_good {l : List Seg} (hg : XE l) (cuts : List Int) : XE (cutQ l cuts) := cov_good (cov_cutQ hg cuts) hg (cutQ_len hg cuts)
end Go.Proofs.Ytgcbcnpbnonnjaa

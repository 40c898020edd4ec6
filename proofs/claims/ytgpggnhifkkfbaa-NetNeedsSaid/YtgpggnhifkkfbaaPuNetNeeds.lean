/- The law NetNeeds in plain words: it answers true. No condition. -/
import Derived.Test.YtgpggnhifkkfbaaPuSeg
namespace Go.Proofs.Ytgpggnhifkkfbaa
theorem lives25 : law25zlives = some true := by decide +kernel
/-- how many bytes may be written -/
def rmN (l : List Seg) : Nat := if goodS l then wrS l else 0
theorem rmN_lt (l : List Seg) : rmN l < 4294967296 := by
  unfold rmN
  split
  · rename_i h; have := h.2.2; have := sum_rw l; omega
  · decide
theorem tot2 (l : List Seg) : (totS l).2 = UInt64.ofNat (rmN l) := by
  unfold totS rmN
  split <;> rfl
theorem room_eq (l : List Seg) : net_room l = some (UInt64.ofNat (rmN l)) := by
  unfold net_room
  rw [oS (segTotal l), tot2]
/-- into how many buffers bytes go -/
def go (mg : Bool) (W : Nat) : Nat → Nat → List Nat → Option Nat
  | _, _, [] => none
  | i, s, r :: rs => if r = 0 ∨ (i = 0 ∧ r < 12) ∨ (0 < i ∧ mg = false) then none else if W ≤ s + r then some (i + 1) else go mg W (i + 1) (s + r) rs
def outN : Option Nat → Int × Bool
  | none => (0, false)
  | some k => ((k : Int), true)
def sumN : List Nat → Nat
  | [] => 0
  | x :: r => x + sumN r
theorem go_le {mg : Bool} {W : Nat} : ∀ {rs : List Nat} {i s k : Nat}, go mg W i s rs = some k → i < k ∧ k ≤ i + rs.length
  | [], i, s, k, h => by simp [go] at h
  | r :: rs, i, s, k, h => by
    simp only [go] at h
    split at h
    · cases h
    · split at h
      · simp at h; subst h; simp
      · have := go_le h; simp only [List.length_cons]; omega
theorem go_sum {mg : Bool} {W : Nat} : ∀ {rs : List Nat} {i s k : Nat}, go mg W i s rs = some k → W ≤ s + sumN (rs.take (k - i)) ∧ (s < W → s + sumN (rs.take (k - 1 - i)) < W)
  | [], i, s, k, h => by simp [go] at h
  | r :: rs, i, s, k, h => by
    have hk := go_le h
    simp only [go] at h
    split at h
    · cases h
    · split at h
      · rename_i h2
        simp at h; subst h
        rw [show i + 1 - i = 1 by omega, show i + 1 - 1 - i = 0 by omega]
        simp only [List.take_succ_cons, List.take_zero, sumN]; omega
      · rename_i h2
        have h3 := go_le h
        have h4 := go_sum h
        rw [show k - i = (k - (i + 1)) + 1 by omega, show k - 1 - i = (k - 1 - (i + 1)) + 1 by omega, List.take_succ_cons, List.take_succ_cons]
        simp only [sumN]
        refine ⟨by omega, fun _ => ?_⟩
        have := h4.2 (by omega); omega
theorem go_app {mg : Bool} {W : Nat} {x : List Nat} : ∀ {rs : List Nat} {i s k : Nat}, go mg W i s rs = some k → go mg W i s (rs ++ x) = some k
  | [], i, s, k, h => by simp [go] at h
  | r :: rs, i, s, k, h => by
    simp only [go, List.cons_append] at h ⊢
    split at h
    · cases h
    · rename_i h1
      rw [if_neg h1]
      split at h
      · rename_i h2; rw [if_pos h2]; exact h
      · rename_i h2; rw [if_neg h2]; exact go_app h
theorem go_less {mg : Bool} {W W' : Nat} (hw : W' ≤ W) : ∀ {rs : List Nat} {i s k : Nat}, go mg W i s rs = some k → ∃ k', go mg W' i s rs = some k' ∧ k' ≤ k
  | [], i, s, k, h => by simp [go] at h
  | r :: rs, i, s, k, h => by
    have hk := go_le h
    simp only [go] at h ⊢
    split at h
    · cases h
    · rename_i h1
      rw [if_neg h1]
      by_cases h2 : W' ≤ s + r
      · rw [if_pos h2]; exact ⟨_, rfl, by omega⟩
      · rw [if_neg h2]
        split at h
        · omega
        · exact go_less hw h
theorem go_one {W s k : Nat} {rs : List Nat} (h : go false W 0 s rs = some k) : k = 1 := by
  cases rs with
  | nil => simp [go] at h
  | cons r rs =>
    simp only [go] at h
    split at h
    · cases h
    · split at h
      · simp at h; exact h.symm
      · cases rs with
        | nil => simp [go] at h
        | cons r2 rs => simp [go] at h
theorem needsL (bufs : List (List Seg)) (np2 : Int) (mg : Bool) (W : Nat) (hb : bufs.length ≤ 1000) (hW : u64 (maxi np2 12) = UInt64.ofNat W) (hW2 : W < 18446744073709551616) :
    ∀ (nf i s : Nat), i ≤ bufs.length → bufs.length - i < nf → s ≤ 4294967296 * i → net_NeedsL1 bufs np2 mg nf (UInt64.ofNat s) (i : Int) = some (outN (go mg W i s ((bufs.drop i).map rmN)))
  | 0, i, s, _, h, _ => by omega
  | nf + 1, i, s, hi, hn, hs => by
    unfold net_NeedsL1 net_NeedsL1B
    by_cases h : i < bufs.length
    · have hd : bufs.drop i = bufs[i] :: bufs.drop (i + 1) := drop_ix h
      have hr := rmN_lt bufs[i]
      have hn0 : (UInt64.ofNat (rmN bufs[i])).toNat = rmN bufs[i] := by rw [UInt64.toNat_ofNat']; omega
      rw [hd, List.map_cons, bP (by simp only [len]; omega), oS (ix_nat (getq h)), oS (room_eq _)]
      have hJ : ∀ q : Bool, net_NeedsJ2 np2 (UInt64.ofNat s) (i : Int) (net_NeedsL1 bufs np2 mg nf) (UInt64.ofNat (rmN bufs[i])) q = some (outN (if q = true then none else if W ≤ s + rmN bufs[i] then some (i + 1) else go mg W (i + 1) (s + rmN bufs[i]) ((bufs.drop (i + 1)).map rmN))) := by
        intro q
        unfold net_NeedsJ2
        cases q with
        | true => rw [bT rfl]; rfl
        | false =>
          have ih := needsL bufs np2 mg W hb hW hW2 nf (i + 1) (s + rmN bufs[i]) (by omega) (by omega) (by omega)
          rw [bFl rfl, hW, ← UInt64.ofNat_add, wi_succ (by omega), if_neg (by decide)]
          by_cases h2 : W ≤ s + rmN bufs[i]
          · rw [if_pos h2, bP]
            · rfl
            · rw [GE.ge, UInt64.le_iff_toNat_le, UInt64.toNat_ofNat', UInt64.toNat_ofNat']; omega
          · rw [if_neg h2, bN, ih]
            rw [GE.ge, UInt64.le_iff_toNat_le, UInt64.toNat_ofNat', UInt64.toNat_ofNat']; omega
      simp only [hJ, go]
      by_cases h0 : rmN bufs[i] = 0
      · have e0 : (UInt64.ofNat (rmN bufs[i]) == 0) = true := by rw [h0]; rfl
        rw [e0, bT rfl, if_pos rfl, if_pos (Or.inl h0)]
      · have e0 : UInt64.ofNat (rmN bufs[i]) ≠ 0 := fun q => h0 (by have := congrArg UInt64.toNat q; rw [hn0] at this; simpa using this)
        rw [bF e0]
        by_cases h1 : i = 0
        · subst h1
          rw [bE (show ((0 : Nat) : Int) = 0 from rfl)]
          by_cases h2 : rmN bufs[0] < 12
          · have e2 : UInt64.ofNat (rmN bufs[0]) < 12 := by rw [UInt64.lt_iff_toNat_lt, hn0]; exact h2
            rw [bP e2, if_pos (by simpa using e2), if_pos (Or.inr (Or.inl ⟨rfl, h2⟩))]
          · have e2 : ¬ UInt64.ofNat (rmN bufs[0]) < 12 := by rw [UInt64.lt_iff_toNat_lt, hn0]; exact h2
            have hno : ¬ (rmN bufs[0] = 0 ∨ (0 = 0 ∧ rmN bufs[0] < 12) ∨ (0 < 0 ∧ mg = false)) := by
              rintro (q | q | q)
              · exact h0 q
              · exact h2 q.2
              · exact absurd q.1 (by omega)
            rw [bN e2, bN (by simp), if_neg (by simp), if_neg hno]
        · rw [bF (by omega), bP (by omega)]
          cases mg with
          | true =>
            have hno : ¬ (rmN bufs[i] = 0 ∨ (i = 0 ∧ rmN bufs[i] < 12) ∨ (0 < i ∧ true = false)) := by
              rintro (q | q | q)
              · exact h0 q
              · exact h1 q.1
              · exact absurd q.2 (by simp)
            rw [if_neg (by simp), if_neg hno]
          | false => rw [if_pos (by simp), if_pos (Or.inr (Or.inr ⟨by omega, rfl⟩))]
    · rw [bN (by simp only [len]; omega), List.drop_of_length_le (by omega)]; rfl
theorem lightL (l : List (List Seg)) (hl : l.length ≤ 1000) : ∀ (nf i : Nat), i ≤ l.length → l.length - i < nf → ∃ b, kit_LightBufsL1 l 20 nf (i : Int) = some b ∧ (b = true → ∀ y ∈ l.drop i, y.length ≤ 20)
  | 0, i, _, h => by omega
  | nf + 1, i, hi, hn => by
    unfold kit_LightBufsL1 kit_LightBufsL1B
    by_cases h : i < l.length
    · have hd : l.drop i = l[i] :: l.drop (i + 1) := drop_ix h
      rw [hd, bP (by simp only [len]; omega), oS (ix_nat (getq h))]
      by_cases h2 : len l[i] > 20
      · rw [bP h2]; exact ⟨false, rfl, fun q => by cases q⟩
      · rw [bN h2, wi_succ (by omega)]
        obtain ⟨b, h3, h4⟩ := lightL l hl nf (i + 1) (by omega) (by omega)
        refine ⟨b, h3, fun q y hy => ?_⟩
        rcases List.mem_cons.1 hy with e | e
        · subst e; simp only [len] at h2; omega
        · exact h4 q y e
    · rw [bN (by simp only [len]; omega), List.drop_of_length_le (by omega)]
      exact ⟨true, rfl, fun _ y hy => by cases hy⟩
theorem light_eq (l : List (List Seg)) : ∃ b, kit_LightBufs l 20 20 = some b ∧ (b = true → l.length ≤ 20 ∧ ∀ y ∈ l, y.length ≤ 20) := by
  unfold kit_LightBufs
  by_cases h : len l > 20
  · rw [bP h]; exact ⟨false, rfl, fun q => by cases q⟩
  · rw [bN h]
    simp only [len] at h
    obtain ⟨b, h1, h2⟩ := lightL l (by omega) fuel 0 (by omega) (by unfold fuel; omega)
    exact ⟨b, h1, fun q => ⟨by omega, by simpa using h2 q⟩⟩
theorem segs_eq (l : List Seg) (h : l.length ≤ 1000000) : kit_Segs l = some l := by
  unfold kit_Segs; rw [cFits (by simp; omega)]
theorem bufsL (l : List (List Seg)) (hl : l.length ≤ 1000) (hy : ∀ y ∈ l, y.length ≤ 1000) : ∀ (nf i : Nat), i ≤ l.length → l.length - i < nf → kit_BufsL1 l nf (l.take i) (i : Int) = some l
  | 0, i, _, h => by omega
  | nf + 1, i, hi, hn => by
    unfold kit_BufsL1 kit_BufsL1B
    by_cases h : i < l.length
    · rw [bP (by simp only [len]; omega), oS (ix_nat (getq h)), oS (segs_eq _ (by have := hy l[i] (List.getElem_mem h); omega)), cFits (by simp; omega), wi_succ (by omega)]
      have e : l.take i ++ [l[i]] = l.take (i + 1) := by rw [List.take_succ_eq_append_getElem h]
      rw [e]; exact bufsL l hl hy nf (i + 1) (by omega) (by omega)
    · rw [bN (by simp only [len]; omega), List.take_of_length_le (by omega)]
theorem bufs_eq (l : List (List Seg)) (hl : l.length ≤ 1000) (hy : ∀ y ∈ l, y.length ≤ 1000) : kit_Bufs l = some l := by
  have := bufsL l hl hy fuel 0 (by omega) (by unfold fuel; omega)
  rw [List.take_zero] at this
  exact this
theorem has_eq (f : UInt64) : feat_Has f 15 = some (shr64 f (15 : UInt64).toNat &&& 1 == 1) := by
  unfold feat_Has
  rw [bP (by decide), bP (by decide), cP (by decide)]; rfl
theorem needs_eq (f : UInt64) (bufs : List (List Seg)) (n : Int) (W : Nat) (hb : bufs.length ≤ 1000) (hW : maxi n 12 = (W : Int)) (hW2 : W < 18446744073709551616) : net_Needs f bufs n = some (outN (go (shr64 f (15 : UInt64).toNat &&& 1 == 1) W 0 0 (bufs.map rmN))) := by
  unfold net_Needs
  rw [oS (has_eq f)]
  have := needsL bufs n (shr64 f (15 : UInt64).toNat &&& 1 == 1) W hb (by rw [hW, u64_of]) hW2 fuel 0 0 (by omega) (by unfold fuel; omega) (by omega)
  simpa using this
theorem sum_take (rs : List Nat) (i : Nat) (h : i < rs.length) : sumN (rs.take (i + 1)) = sumN (rs.take i) + rs[i] := by
  rw [List.take_succ_eq_append_getElem h]
  have : ∀ a b : List Nat, sumN (a ++ b) = sumN a + sumN b := by
    intro a b
    induction a with
    | nil => simp [sumN]
    | cons x a ih => simp only [List.cons_append, sumN, ih]; omega
  rw [this]; simp [sumN]
theorem sum_take_le (rs : List Nat) (h : ∀ x ∈ rs, x < 4294967296) : ∀ i, sumN (rs.take i) ≤ 4294967296 * i := by
  intro i
  induction i with
  | zero => simp [sumN]
  | succ i ih =>
    by_cases hi : i < rs.length
    · rw [sum_take rs i hi]; have := h rs[i] (List.getElem_mem hi); omega
    · rw [List.take_of_length_le (by omega)]; rw [List.take_of_length_le (by omega)] at ih; omega
theorem t_law25zNetNeeds (l : List (List Seg)) (feats : UInt64) (np2 less : Int) (more : List Seg) : law25zNetNeeds l feats np2 less more = some true := by
  unfold law25zNetNeeds
  rw [oS lives25, notT, notF, chkT]
  obtain ⟨lb, hlb, hlt⟩ := light_eq l
  rw [oS hlb]
  cases lb with
  | false => rw [notF, brT]
  | true =>
  obtain ⟨hl, hy⟩ := hlt rfl
  rw [notT, brF]
  by_cases h1 : len more > 20
  · rw [bP h1]
  rw [bN h1]
  by_cases h2 : np2 > 1099511627776
  · rw [bP h2]
  rw [bN h2]
  by_cases h3 : less < 0
  · rw [bP h3]
  rw [bN h3]
  by_cases h4 : np2 < -1099511627776
  · rw [bP h4]
  rw [bN h4]
  simp only [len] at h1
  have hbl := bufs_eq l (by omega) (fun y q => by have := hy y q; omega)
  obtain ⟨W, hW⟩ : ∃ W : Nat, maxi np2 12 = (W : Int) := ⟨(maxi np2 12).toNat, by rw [Int.toNat_of_nonneg]; unfold maxi; split <;> omega⟩
  have hWb : 12 ≤ W ∧ W ≤ 1099511627776 := by unfold maxi at hW; split at hW <;> omega
  have hWn : np2 ≤ (W : Int) := by unfold maxi at hW; split at hW <;> omega
  have e1 := needs_eq feats l np2 W (by omega) hW (by omega)
  have e2 := needs_eq feats (l ++ [more]) np2 W (by simp; omega) hW (by omega)
  rw [oS hbl, oS e1, oS hbl, oS (segs_eq more (by omega)), cFits (by simp; omega), oS e2]
  generalize hmg : (shr64 feats (15 : UInt64).toNat &&& 1 == 1) = mg at *
  cases hg : go mg W 0 0 (l.map rmN) with
  | none => rw [show outN none = (0, false) from rfl, notF, brT, cE rfl]
  | some k =>
  have hg2 : go mg W 0 0 ((l ++ [more]).map rmN) = some k := by rw [List.map_append]; exact go_app hg
  rw [hg2, show outN (some k) = ((k : Int), true) from rfl, notT, brF]
  have hk := go_le hg
  have hs := go_sum hg
  simp only [List.length_map, Nat.zero_add, Nat.sub_zero] at hk hs
  have hs2 := hs.2 (by omega)
  have hlt : ∀ x ∈ l.map rmN, x < 4294967296 := fun x hx => by obtain ⟨y, _, rfl⟩ := List.mem_map.1 hx; exact rmN_lt y
  -- the loop
  have loop : ∀ (nf i : Nat), i ≤ k → k - i < nf → law25zNetNeedsL1 l feats np2 less ((k : Int), true) ((k : Int), true) nf (UInt64.ofNat (sumN ((l.map rmN).take i))) (i : Int) = some true := by
    intro nf
    induction nf with
    | zero => intro i _ h; omega
    | succ nf ih =>
      intro i hi hn
      unfold law25zNetNeedsL1 law25zNetNeedsL1B
      have hsl := sum_take_le _ hlt i
      have eW : u64 (maxi np2 12) = UInt64.ofNat W := by rw [hW, u64_of]
      by_cases h : i < k
      · have hil : i < l.length := by omega
        have step : UInt64.ofNat (sumN ((l.map rmN).take i)) + (totS l[i]).2 = UInt64.ofNat (sumN ((l.map rmN).take (i + 1))) := by
          rw [sum_take _ i (by simpa using hil), UInt64.ofNat_add, tot2]; simp
        rw [bP (by omega), oS (ix_nat (getq hil)), oS (refTotal _), step, wi_succ (by omega), wi_in (by omega) (by omega)]
        by_cases h5 : i + 1 = k
        · rw [bE (by omega), cN]
          · exact ih (i + 1) (by omega) (by omega)
          · rw [eW, GE.ge, UInt64.le_iff_toNat_le, UInt64.toNat_ofNat', UInt64.toNat_ofNat']
            have : i = k - 1 := by omega
            rw [← this] at hs2; omega
        · rw [bF (by omega)]; exact ih (i + 1) (by omega) (by omega)
      · have hik : i = k := by omega
        subst hik
        have hW' : ∃ W' : Nat, maxi (wi (np2 - mini less 1099511627776)) 12 = (W' : Int) ∧ W' ≤ W := by
          have hm : 0 ≤ mini less 1099511627776 ∧ mini less 1099511627776 ≤ 1099511627776 := by unfold mini; split <;> omega
          rw [wi_in (by omega) (by omega)]
          refine ⟨(maxi (np2 - mini less 1099511627776) 12).toNat, ?_, ?_⟩ <;> (unfold maxi; split <;> omega)
        obtain ⟨W', hW1, hW2⟩ := hW'
        have e3 := needs_eq feats l (wi (np2 - mini less 1099511627776)) W' (by omega) hW1 (by omega)
        rw [hmg] at e3
        obtain ⟨k', hk1, hk2⟩ := go_less hW2 hg
        rw [hk1] at e3
        rw [bN (by omega), oS hbl, oS e3, cP (by omega), cP (by simp only [len]; omega), cP, cT rfl, cE rfl, cT (show (outN (some k')).2 = true from rfl), cP (by simp only [outN]; omega)]
        · rw [hmg]
          cases mg with
          | true => rw [brT]
          | false => rw [brF, go_one hg]; rfl
        · rw [eW, GE.ge, UInt64.le_iff_toNat_le, UInt64.toNat_ofNat', UInt64.toNat_ofNat']; omega
  have := loop fuel 0 (by omega) (by unfold fuel; omega)
  rw [List.take_zero] at this
  exact this
end Go.Proofs.Ytgpggnhifkkfbaa

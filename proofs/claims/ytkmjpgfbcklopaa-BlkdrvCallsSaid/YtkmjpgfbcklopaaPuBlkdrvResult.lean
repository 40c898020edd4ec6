/- What came of a request. No condition. -/
import Derived.Test.YtkmjpgfbcklopaaPuBlkdrvLay
namespace Go.Proofs.Ytkmjpgfbcklopaa
/-- read, not written -/
def offS (s : Seg) : Seg := ⟨s.At, s.Len, false⟩
/-- the result, out of memory x -/
def resQ (x : List UInt8) (l : List Seg) (w : UInt32) : List UInt8 × UInt8 × Int :=
  if inE (rg 16384) l ≠ 0 then ([], 0, inE (rg 16384) l)
  else if wrS l = 0 then ([], 0, 2)
  else if w.toNat = 0 ∨ wrS l < w.toNat then ([], 0, 4)
  else match (gatF x (l.filter (fun s => s.Write == true)))[wrS l - 1]? with
    | none => ([], 0, 0)
    | some y => if y = 0 then ((gatF x (l.filter (fun s => s.Write == true))).take (w.toNat - 1), 0, 0) else ([], y, 0)
theorem off_ok : ∀ {l : List Seg} (w : Bool), okS w l = true → okS false (l.map offS) = true
  | [], _, _ => rfl
  | x :: l, w, h => by
    unfold okS at h
    rw [Bool.and_eq_true, decide_eq_true_eq] at h
    rw [List.map_cons]
    unfold okS
    rw [Bool.and_eq_true, decide_eq_true_eq]
    exact ⟨⟨h.1.1, h.1.2.1, fun q => by cases q⟩, off_ok _ h.2⟩
theorem off_sum (l : List Seg) : sumS (l.map offS) = sumS l := by
  induction l with
  | nil => rfl
  | cons x l ih => simp only [List.map_cons, sumS, ih]; rfl
theorem off_good {l : List Seg} (h : goodS l) : goodS (l.map offS) := ⟨by rw [List.length_map]; exact h.1, off_ok _ h.2.1, by rw [off_sum]; exact h.2.2⟩
theorem off_filter (l : List Seg) : (l.map offS).filter (fun s => s.Write == false) = l.map offS := by
  rw [List.filter_eq_self]
  intro s hs
  obtain ⟨y, _, rfl⟩ := List.mem_map.1 hs
  rfl
theorem off_gat (x : List UInt8) (l : List Seg) : gatF x (l.map offS) = gatF x l := by
  induction l with
  | nil => rfl
  | cons s l ih => rw [List.map_cons, gatF_cons, gatF_cons, ih]; rfl
theorem off_in {n : Nat} {l : List Seg} (h : inF n l) : inF n (l.map offS) := by
  intro s hs
  obtain ⟨y, hy, rfl⟩ := List.mem_map.1 hs
  exact h y hy
theorem set_off {p : List Seg} {i : Nat} (h : i < p.length) : ((p.take i).map offS ++ p.drop i).set i (offS p[i]) = (p.take (i + 1)).map offS ++ p.drop (i + 1) := by
  have hl : ((p.take i).map offS).length = i := by rw [List.length_map, List.length_take]; omega
  rw [drop_ix h, List.set_append_right _ _ (by omega), hl, Nat.sub_self, List.set_cons_zero, List.take_succ_eq_append_getElem h, List.map_append, List.append_assoc]
  rfl
theorem off_at {p : List Seg} {i : Nat} (h : i < p.length) : ((p.take i).map offS ++ p.drop i)[i]? = some p[i] := by
  have hl : ((p.take i).map offS).length = i := by rw [List.length_map, List.length_take]; omega
  rw [drop_ix h, List.getElem?_append_right (by omega), hl, Nat.sub_self]; rfl
/-- written bytes, within the buffer -/
theorem wr_len {x : List UInt8} (hx : flatOk 16384 x) {l : List Seg} (h : inE (rg 16384) l = 0) : (gatF x (l.filter (fun s => s.Write == true))).length = wrS l := by
  obtain ⟨hg, hi⟩ := inE1_zero.1 h
  rw [gatF_len (by rw [hx.2.2]; exact inF_filter hi), sum_wr]
theorem resultL {x : List UInt8} (hx : flatOk 16384 x) (l : List Seg) (h : inE (rg 16384) l = 0) (w : UInt32) (tot : UInt64 × UInt64) (ht : tot.2 = UInt64.ofNat (wrS l)) (hw0 : wrS l ≠ 0) (hw1 : w.toNat ≠ 0) (hw2 : w.toNat ≤ wrS l) :
    ∀ (nf i : Nat), i ≤ (l.filter (fun s => s.Write == true)).length → (l.filter (fun s => s.Write == true)).length - i < nf →
      blkdrv_ResultL1 ⟨rg 16384, [x]⟩ w (l.filter (fun s => s.Write == true)) tot nf (((l.filter (fun s => s.Write == true)).take i).map offS ++ (l.filter (fun s => s.Write == true)).drop i) (i : Int) = some (resQ x l w)
  | 0, i, _, q => absurd q (Nat.not_lt_zero _)
  | nf + 1, i, hi, hn => by
    have hlen := wr_len hx h
    obtain ⟨hg, hin⟩ := inE1_zero.1 h
    have gp := good_filter (w := true) hg
    have ip := inF_filter (p := fun s => s.Write == true) hin
    have ih := resultL hx l h w tot ht hw0 hw1 hw2 nf (i + 1)
    have hb := sum_rw l
    have hlt := hg.2.2
    generalize hpp : l.filter (fun s => s.Write == true) = p at *
    have h64 := gp.1
    unfold blkdrv_ResultL1 blkdrv_ResultL1B
    by_cases hlt2 : i < p.length
    · have e : Seg.mk p[i].At p[i].Len false = offS p[i] := rfl
      rw [bP (by simp only [len]; omega), oS (ix_nat (off_at hlt2)), Int.toNat_natCast, e, set_off hlt2, wi_succ (by omega)]
      exact ih (by omega) (by omega)
    · rw [bN (by simp only [len]; omega), List.take_of_length_le (by omega), List.drop_of_length_le (by omega), List.append_nil]
      rw [oS (gather1 hx _ (off_good gp) (off_in ip)), off_filter, off_gat, nE rfl]
      dsimp only
      have e1 : ((tot.2 - 1).toNat : Int) = ((wrS l - 1 : Nat) : Int) := by
        rw [ht, sub64 (by rw [UInt64.toNat_ofNat']; simp only [UInt64.reduceToNat]; omega), UInt64.toNat_ofNat']
        simp only [UInt64.reduceToNat]
        rw [Nat.mod_eq_of_lt (by omega)]
      have e2 : ((w - 1).toNat : Int) = ((w.toNat - 1 : Nat) : Int) := by
        rw [UInt32.toNat_sub_of_le _ _ (by rw [UInt32.le_iff_toNat_le]; simp only [UInt32.reduceToNat]; omega)]; rfl
      rw [e1, e2]
      have hgq : wrS l - 1 < (gatF x p).length := by omega
      rw [oS (ix_nat (getq hgq))]
      unfold resQ
      rw [if_neg (by simp [h]), if_neg hw0, if_neg (by omega), hpp, getq hgq]
      dsimp only
      by_cases hy : (gatF x p)[wrS l - 1] = 0
      · rw [nE hy, cD' (by simp only [len]; omega), sub_to, Int.toNat_natCast, if_pos hy, hy]
      · rw [nF hy, if_neg hy]
theorem result_eq {x : List UInt8} (hx : flatOk 16384 x) (l : List Seg) (w : UInt32) : blkdrv_Result ⟨rg 16384, [x]⟩ l w = some (resQ x l w) := by
  unfold blkdrv_Result
  rw [oS (segIn_eq _ (flat_mem hx) l)]
  by_cases h : inE (rg 16384) l = 0
  · obtain ⟨hg, hin⟩ := inE1_zero.1 h
    have hb := sum_rw l
    have hlt := hg.2.2
    have gp := good_filter (w := true) hg
    have ht : (totS (l.filter (fun s => s.Write == true))).2 = UInt64.ofNat (wrS l) := by
      unfold totS; rw [if_pos gp]
      have h1 := sum_rw (l.filter (fun s => s.Write == true))
      have h2 := sum_wr l
      have h3 : rdS (l.filter (fun s => s.Write == true)) = 0 := by
        have := sum_rd (l.filter (fun s => s.Write == true))
        rw [filter_allN (w := false) (allW_filter true l)] at this
        exact this.symm
      dsimp only; congr 1; omega
    have en : (UInt64.ofNat (wrS l)).toNat = wrS l := by rw [UInt64.toNat_ofNat']; omega
    rw [nE h, oS (part_eq hg true), oS (segTotal _), ht]
    by_cases h0 : wrS l = 0
    · rw [bE (by rw [h0]; rfl)]
      unfold resQ; rw [if_neg (by simp [h]), if_pos h0]
    · rw [bF (fun q => h0 (by have := congrArg UInt64.toNat q; rw [en] at this; simpa using this))]
      by_cases h1 : w = 0
      · rw [bE h1]
        unfold resQ; rw [if_neg (by simp [h]), if_neg h0, if_pos (Or.inl (by rw [h1]; rfl))]
      · have h1' : w.toNat ≠ 0 := fun q => h1 (UInt32.toNat_inj.1 (by simpa using q))
        rw [bF h1]
        by_cases h2 : wrS l < w.toNat
        · rw [bP (by rw [GT.gt, lt64, en, UInt32.toNat_toUInt64]; exact h2)]
          unfold resQ; rw [if_neg (by simp [h]), if_neg h0, if_pos (Or.inr h2)]
        · rw [bN (by rw [GT.gt, lt64, en, UInt32.toNat_toUInt64]; exact h2)]
          have := resultL hx l h w _ ht h0 h1' (by omega) fuel 0 (by omega) (by rw [fuelS]; have := gp.1; omega)
          rw [List.take_zero, List.drop_zero] at this
          exact this
  · rw [nF h]
    unfold resQ; rw [if_pos h]
theorem rresultL {x : List UInt8} (hx : flatOk 16384 x) (l : List Seg) (h : inE (rg 16384) l = 0) (w : UInt32) (hw0 : wrS l ≠ 0) (hw1 : w.toNat ≠ 0) (hw2 : w.toNat ≤ wrS l) :
    ∀ (nf i : Nat), i ≤ (l.filter (fun s => s.Write == true)).length → (l.filter (fun s => s.Write == true)).length - i < nf →
      ref_Result22L1 ⟨rg 16384, [x]⟩ w nf (gatF x ((l.filter (fun s => s.Write == true)).take i)) (l.filter (fun s => s.Write == true)) (i : Int) = some (resQ x l w)
  | 0, i, _, q => absurd q (Nat.not_lt_zero _)
  | nf + 1, i, hi, hn => by
    have hlen := wr_len hx h
    obtain ⟨hg, hin⟩ := inE1_zero.1 h
    have gp := good_filter (w := true) hg
    have ip := inF_filter (p := fun s => s.Write == true) hin
    have ih := rresultL hx l h w hw0 hw1 hw2 nf (i + 1)
    have hb := sum_rw l
    have hlt := hg.2.2
    generalize hpp : l.filter (fun s => s.Write == true) = p at *
    have h64 := gp.1
    unfold ref_Result22L1 ref_Result22L1B
    by_cases hlt2 : i < p.length
    · have g := ix_nat (getq hlt2)
      have hps := okS_pos gp.2.1 p[i] (List.getElem_mem hlt2)
      have hpi := ip p[i] (List.getElem_mem hlt2)
      have hrd : ref_Mem_Read02 ⟨rg 16384, [x]⟩ p[i].At (i32 p[i].Len) = some (rdF x p[i].At.toNat p[i].Len.toNat, 0) := by
        have hLb := p[i].Len.toNat_lt
        rw [show i32 p[i].Len = ((p[i].Len.toNat : Nat) : Int) from rfl, rread_eq _ (flat_mem hx) _ _ (by omega), if_neg (by omega), if_neg (by omega), Int.toNat_natCast, read1, if_pos ⟨hps, hpi⟩]
      have hl1 : (rdF x p[i].At.toNat p[i].Len.toNat).length = p[i].Len.toNat := rdF_len (by rw [hx.2.2]; exact hpi)
      have hcum : (gatF x (p.take i)).length + p[i].Len.toNat ≤ 4294967296 * 70 := by
        rw [gatF_len (fun s hs => by rw [hx.2.2]; exact ip s (List.mem_of_mem_take hs))]
        have h1 := sumS_le (p.take i)
        have h2 : (p.take i).length ≤ 64 := by rw [List.length_take]; omega
        have h3 := p[i].Len.toNat_lt
        omega
      rw [bP (by simp only [len]; omega), oS g, oS g, oS hrd]
      dsimp only
      rw [cFits (by rw [hl1]; omega), wi_succ (by omega)]
      have e : gatF x (p.take i) ++ rdF x p[i].At.toNat p[i].Len.toNat = gatF x (p.take (i + 1)) := by
        rw [List.take_succ_eq_append_getElem hlt2, gatF_app, gatF_cons, gatF_nil, List.append_nil]
      rw [e]
      exact ih (by omega) (by omega)
    · rw [bN (by simp only [len]; omega), List.take_of_length_le (by omega)]
      have e1 : wi (len (gatF x p) - 1) = ((wrS l - 1 : Nat) : Int) := by simp only [len]; rw [wi_in (by omega) (by omega)]; omega
      have e2 : ((w - 1).toNat : Int) = ((w.toNat - 1 : Nat) : Int) := by
        rw [UInt32.toNat_sub_of_le _ _ (by rw [UInt32.le_iff_toNat_le]; simp only [UInt32.reduceToNat]; omega)]; rfl
      rw [e1, e2]
      have hgq : wrS l - 1 < (gatF x p).length := by omega
      rw [oS (ix_nat (getq hgq))]
      unfold resQ
      rw [if_neg (by simp [h]), if_neg hw0, if_neg (by omega), hpp, getq hgq]
      dsimp only
      by_cases hy : (gatF x p)[wrS l - 1] = 0
      · rw [nE hy, cD' (by simp only [len]; omega), sub_to, Int.toNat_natCast, if_pos hy, hy]
      · rw [nF hy, if_neg hy]
theorem rresult_eq {x : List UInt8} (hx : flatOk 16384 x) (l : List Seg) (w : UInt32) : ref_Result22 ⟨rg 16384, [x]⟩ l w = some (resQ x l w) := by
  unfold ref_Result22
  rw [oS (refIn_eq _ (flat_mem hx) l)]
  by_cases h : inE (rg 16384) l = 0
  · obtain ⟨hg, hin⟩ := inE1_zero.1 h
    have hb := sum_rw l
    have hlt := hg.2.2
    have gp := good_filter (w := true) hg
    have ht : (totS l).2 = UInt64.ofNat (wrS l) := by unfold totS; rw [if_pos hg]
    have en : (UInt64.ofNat (wrS l)).toNat = wrS l := by rw [UInt64.toNat_ofNat']; omega
    have hp : ref_Part05 l true = some (l.filter (fun s => s.Write == true)) := by rw [rpart_eq]; unfold partS; rw [if_pos hg]
    rw [nE h, oS (refTotal _), ht]
    by_cases h0 : wrS l = 0
    · rw [bE (by rw [h0]; rfl)]
      unfold resQ; rw [if_neg (by simp [h]), if_pos h0]
    · rw [bF (fun q => h0 (by have := congrArg UInt64.toNat q; rw [en] at this; simpa using this))]
      by_cases h1 : w = 0
      · rw [bE h1]
        unfold resQ; rw [if_neg (by simp [h]), if_neg h0, if_pos (Or.inl (by rw [h1]; rfl))]
      · have h1' : w.toNat ≠ 0 := fun q => h1 (UInt32.toNat_inj.1 (by simpa using q))
        rw [bF h1]
        by_cases h2 : wrS l < w.toNat
        · rw [bP (by rw [GT.gt, lt64, en, UInt32.toNat_toUInt64]; exact h2)]
          unfold resQ; rw [if_neg (by simp [h]), if_neg h0, if_pos (Or.inr h2)]
        · rw [bN (by rw [GT.gt, lt64, en, UInt32.toNat_toUInt64]; exact h2), oS hp]
          have := rresultL hx l h w h0 h1' (by omega) fuel 0 (by omega) (by rw [fuelS]; have := gp.1; omega)
          rw [List.take_zero] at this
          exact this
  · rw [nF h]
    unfold resQ; rw [if_pos h]
end Go.Proofs.Ytkmjpgfbcklopaa

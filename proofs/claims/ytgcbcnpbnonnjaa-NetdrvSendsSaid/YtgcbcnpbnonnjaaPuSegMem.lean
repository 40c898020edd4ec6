/- Buffers in a memory, in plain words. No condition. -/
import Derived.Test.YtgcbcnpbnonnjaaPuGmem
import Derived.Test.YtgcbcnpbnonnjaaPuCut
namespace Go.Proofs.Ytgcbcnpbnonnjaa
def hasS (l : List Region) (s : Seg) : Bool := (YG l s.At.toNat s.Len.toNat).isSome
def inE (l : List Region) (ss : List Seg) : Int := if errS ss = 0 then (bif ss.all (hasS l) then 0 else 5) else errS ss
theorem segInL (m : gmem_Mem) (hm : memOk m.l m.b) (l : List Seg) (hl : l.length ≤ 64) : ∀ (nf i : Nat), i ≤ l.length → l.length - i < nf → seg_InL1 m l nf (i : Int) = some (bif (l.drop i).all (hasS m.l) then 0 else 5)
  | 0, i, _, h => by omega
  | nf + 1, i, hi, hn => by
    unfold seg_InL1 seg_InL1B
    by_cases h : i < l.length
    · have hd : l.drop i = l[i] :: l.drop (i + 1) := drop_ix h
      rw [bP (by simp only [len]; omega), oS (ZQ (getq h)), oS (has_eq m hm _ _), hd, List.all_cons, UInt32.toNat_toUInt64]
      have ih := segInL m hm l hl nf (i + 1) (by omega) (by omega)
      cases q : (YG m.l l[i].At.toNat l[i].Len.toNat).isSome with
      | true => rw [bFl (show (!true) = false from rfl), ZZ (by omega), ih, show hasS m.l l[i] = true from q, Bool.true_and]
      | false => rw [bT (show (!false) = true from rfl), show hasS m.l l[i] = false from q, Bool.false_and]; rfl
    · rw [bN (by simp only [len]; omega), List.drop_of_length_le (by omega)]; rfl
theorem segIn_eq (m : gmem_Mem) (hm : memOk m.l m.b) (l : List Seg) : seg_In m l = some (inE m.l l) := by
  unfold seg_In
  have h0 : XA m (0 : UInt64) (0 : Int) = some ([], 0) := by rw [read_eqM m hm _ _ (by omega)]; rfl
  rw [oS h0, nE rfl, oS (segCheck l)]
  unfold inE
  by_cases h : errS l = 0
  · rw [nE h, if_pos h]
    have hl := (errS_zero.1 h).1
    have := segInL m hm l hl fuel 0 (by omega) (by unfold fuel; omega)
    exact this
  · rw [nF h, if_neg h]
theorem refInL (m : dumbwaiterref02_Mem) (hm : memOk m.L m.B) (l : List Seg) (hl : l.length ≤ 64) : ∀ (nf i : Nat), i ≤ l.length → l.length - i < nf → Yr m l nf 0 (i : Int) = some (bif (l.drop i).all (hasS m.L) then 0 else 5)
  | 0, i, _, h => by omega
  | nf + 1, i, hi, hn => by
    unfold Yr ref_In05L1B
    by_cases h : i < l.length
    · have hd : l.drop i = l[i] :: l.drop (i + 1) := drop_ix h
      have gi := ZQ (getq h)
      rw [bP (by simp only [len]; omega), bE rfl]
      simp only [oS gi]
      rw [oS (rhas_eq m hm _ _), hd, List.all_cons, UInt32.toNat_toUInt64]
      have ih := refInL m hm l hl nf (i + 1) (by omega) (by omega)
      cases q : (YG m.L l[i].At.toNat l[i].Len.toNat).isSome with
      | true => rw [bFl (show (!true) = false from rfl), ZZ (by omega), ih, show hasS m.L l[i] = true from q, Bool.true_and]
      | false =>
        rw [bT (show (!false) = true from rfl), show hasS m.L l[i] = false from q, Bool.false_and, ZZ (by omega)]
        have five : ∀ nf2 j, 0 < nf2 → Yr m l nf2 5 j = some 5 := fun nf2 j hp => by
          cases nf2 with
          | zero => omega
          | succ k =>
            unfold Yr ref_In05L1B
            by_cases z : j < len l
            · rw [bP z, bF (by decide)]
            · rw [bN z]
        rw [five nf _ (by omega)]; rfl
    · rw [bN (by simp only [len]; omega), List.drop_of_length_le (by omega)]; rfl
theorem refIn_eq (m : dumbwaiterref02_Mem) (hm : memOk m.L m.B) (l : List Seg) : ref_In05 m l = some (inE m.L l) := by
  unfold ref_In05
  rw [oS (refCheck l)]
  unfold inE
  by_cases h : errS l = 0
  · rw [if_pos h, h]
    have hl := (errS_zero.1 h).1
    exact refInL m hm l hl fuel 0 (by omega) (by unfold fuel; omega)
  · rw [if_neg h, fuelS]
    unfold Yr ref_In05L1B
    by_cases z : (0 : Int) < len l
    · rw [bP z, bF h]
    · rw [bN z]
def rdSeg (l : List Region) (b : List (List UInt8)) (s : Seg) : List UInt8 := (readR l b s.At.toNat s.Len.toNat).getD []
def gatS (l : List Region) (b : List (List UInt8)) (ss : List Seg) : List UInt8 := (ss.map (rdSeg l b)).flatten
theorem readR_len {l : List Region} {b : List (List UInt8)} {a n : Nat} {x : List UInt8} (hm : memOk l b) (h : readR l b a n = some x) : x.length = n := by
  unfold readR at h
  cases hf : YG l a n with
  | none => rw [hf] at h; cases h
  | some i =>
    obtain ⟨hi, q0, q1, q2⟩ := findR_in hf
    have hb : i < b.length := by rw [hm.2.1]; exact hi
    have hr := hm.2.2 i _ _ (getq hi) (getq hb)
    rw [hf] at h
    simp only [getq hi, getq hb, Option.some.injEq] at h
    subst h; simp; omega
theorem readR_has {l : List Region} {b : List (List UInt8)} {s : Seg} (hm : memOk l b) (h : hasS l s = true) : readR l b s.At.toNat s.Len.toNat = some (rdSeg l b s) ∧ (rdSeg l b s).length = s.Len.toNat := by
  have : ∃ x, readR l b s.At.toNat s.Len.toNat = some x := by
    unfold hasS at h
    unfold readR
    cases hf : YG l s.At.toNat s.Len.toNat with
    | none => rw [hf] at h; cases h
    | some i =>
      obtain ⟨hi, q0, q1, q2⟩ := findR_in hf
      have hb : i < b.length := by rw [hm.2.1]; exact hi
      simp only [getq hi, getq hb]; exact ⟨_, rfl⟩
  obtain ⟨x, hx⟩ := this
  have e : rdSeg l b s = x := by unfold rdSeg; rw [hx]; rfl
  rw [e]; exact ⟨hx, readR_len hm hx⟩
theorem gat_len {l : List Region} {b : List (List UInt8)} (hm : memOk l b) : ∀ (ss : List Seg), ss.all (hasS l) = true → (gatS l b ss).length = sumS ss
  | [], _ => rfl
  | s :: r, h => by
    simp only [List.all_cons, Bool.and_eq_true] at h
    have h1 := (readR_has hm h.1).2
    have h2 := gat_len hm r h.2
    simp only [gatS, List.map_cons, List.flatten_cons, List.length_append, sumS] at h2 ⊢; omega
theorem gatherL (m : gmem_Mem) (hm : memOk m.l m.b) (p : List Seg) (hl : p.length ≤ 64) (hp : posS p) (hh : p.all (hasS m.l) = true) (hs : sumS p < 4294967296) : ∀ (nf i : Nat), i ≤ p.length → p.length - i < nf → YJ m p nf ((p.take i).map (rdSeg m.l m.b)) p (i : Int) = some (gatS m.l m.b p, 0)
  | 0, i, _, h => by omega
  | nf + 1, i, hi, hn => by
    unfold YJ seg_GatherL1B
    by_cases h : i < p.length
    · have hpi := hp p[i] (List.getElem_mem h)
      have hL := p[i].Len.toNat_lt
      have hhi : hasS m.l p[i] = true := List.all_eq_true.1 hh _ (List.getElem_mem h)
      have hr : XA m p[i].At (i32 p[i].Len) = some (rdSeg m.l m.b p[i], 0) := by
        rw [show i32 p[i].Len = ((p[i].Len.toNat : Nat) : Int) from rfl, read_eqM m hm _ _ (by omega), if_neg (by omega), if_neg (by omega), Int.toNat_natCast, (readR_has hm hhi).1]
      rw [bP (by simp only [len]; omega), oS (ZQ (getq h)), oS hr, nE rfl, cFits (by simp; omega), ZZ (by omega)]
      have e : (p.take i).map (rdSeg m.l m.b) ++ [rdSeg m.l m.b p[i]] = (p.take (i + 1)).map (rdSeg m.l m.b) := by
        rw [List.take_add_one, getq h, List.map_append]; rfl
      rw [e]
      exact gatherL m hm p hl hp hh hs nf (i + 1) (by omega) (by omega)
    · have hg := gat_len hm p hh
      unfold gatS at hg
      rw [bN (by simp only [len]; omega), List.take_of_length_le (by omega), oS (concat_eq _ (by simp; omega) (by unfold lenR; omega))]
      rfl
theorem inE_zero {l : List Region} {ss : List Seg} (h : inE l ss = 0) : Yv ss ∧ ss.all (hasS l) = true := by
  unfold inE at h
  by_cases q : errS ss = 0
  · rw [if_pos q] at h
    refine ⟨errS_zero.1 q, ?_⟩
    cases e : ss.all (hasS l) with
    | true => rfl
    | false => rw [e] at h; cases h
  · rw [if_neg q] at h; exact absurd h q
theorem all_filter {p q : Seg → Bool} : ∀ {l : List Seg}, l.all p = true → (l.filter q).all p = true := fun {l} h => List.all_eq_true.2 fun x hx => List.all_eq_true.1 h x (List.mem_filter.1 hx).1
theorem sum_filter (q : Seg → Bool) : ∀ l : List Seg, sumS (l.filter q) ≤ sumS l
  | [] => Nat.le_refl _
  | s :: r => by
    have := sum_filter q r
    rw [List.filter_cons]
    split
    · simp only [sumS]; omega
    · simp only [sumS]; omega
theorem gather_eq (m : gmem_Mem) (hm : memOk m.l m.b) (l : List Seg) : seg_Gather m l = some (if inE m.l l = 0 then (gatS m.l m.b (l.filter (fun s => s.Write == false)), 0) else ([], inE m.l l)) := by
  unfold seg_Gather
  rw [oS (segIn_eq m hm l)]
  by_cases h : inE m.l l = 0
  · obtain ⟨hg, ha⟩ := inE_zero h
    have hfl : (l.filter (fun s => s.Write == false)).length ≤ l.length := List.length_filter_le _ _
    have hl := hg.1
    rw [nE h, if_pos h, oS (part_eq hg false)]
    have := gatherL m hm (l.filter (fun s => s.Write == false)) (by omega) (fun s hs => okS_pos hg.2.1 s (List.mem_filter.1 hs).1) (all_filter ha) (by have := sum_filter (fun s => s.Write == false) l; have := hg.2.2; omega) fuel 0 (by omega) (by unfold fuel; omega)
    exact this
  · rw [nF h, if_neg h]
theorem gat_cons (l : List Region) (b : List (List UInt8)) (s : Seg) (r : List Seg) : gatS l b (s :: r) = rdSeg l b s ++ gatS l b r := by simp [gatS]
theorem rgatherL (m : dumbwaiterref02_Mem) (hm : memOk m.L m.B) (p : List Seg) (hl : p.length ≤ 64) (hp : posS p) (hh : p.all (hasS m.L) = true) : ∀ (nf i : Nat) (out : List UInt8), i ≤ p.length → p.length - i < nf → out.length ≤ 4294967296 * i → ZO m p nf out (i : Int) = some (out ++ gatS m.L m.B ((p.drop i).filter (fun s => s.Write == false)), 0)
  | 0, i, out, _, h, _ => by omega
  | nf + 1, i, out, hi, hn, ho => by
    unfold ZO Kg
    by_cases h : i < p.length
    · have hd : p.drop i = p[i] :: p.drop (i + 1) := drop_ix h
      have hpi := hp p[i] (List.getElem_mem h)
      have hL := p[i].Len.toNat_lt
      have gi := ZQ (getq h)
      have hhi : hasS m.L p[i] = true := List.all_eq_true.1 hh _ (List.getElem_mem h)
      have hr : XV m p[i].At (i32 p[i].Len) = some (rdSeg m.L m.B p[i], 0) := by
        rw [show i32 p[i].Len = ((p[i].Len.toNat : Nat) : Int) from rfl, rread_eq m hm _ _ (by omega), if_neg (by omega), if_neg (by omega), Int.toNat_natCast, (readR_has hm hhi).1]
      have hlen := (readR_has hm hhi).2
      rw [bP (by simp only [len]; omega), hd]
      simp only [oS gi]
      cases hw : p[i].Write with
      | false =>
        rw [bT (show (!false) = true from rfl), oS hr, cFits (by dsimp only; omega)]
        unfold XD XW
        rw [ZZ (by omega), rgatherL m hm p hl hp hh nf (i + 1) _ (by omega) (by omega) (by simp only [List.length_append]; omega), List.filter_cons, if_pos (by rw [hw]; rfl), gat_cons, List.append_assoc]
      | true =>
        rw [bFl (show (!true) = false from rfl)]
        unfold XD XW
        rw [ZZ (by omega), rgatherL m hm p hl hp hh nf (i + 1) _ (by omega) (by omega) (by omega), List.filter_cons, if_neg (by rw [hw]; decide)]
    · rw [bN (by simp only [len]; omega), List.drop_of_length_le (by omega)]; simp [gatS]
theorem rgather_eq (m : dumbwaiterref02_Mem) (hm : memOk m.L m.B) (l : List Seg) : Xz m l = some (if inE m.L l = 0 then (gatS m.L m.B (l.filter (fun s => s.Write == false)), 0) else ([], inE m.L l)) := by
  unfold Xz
  rw [oS (refIn_eq m hm l)]
  by_cases h : inE m.L l = 0
  · obtain ⟨hg, ha⟩ := inE_zero h
    have hl := hg.1
    rw [nE h, if_pos h]
    have := rgatherL m hm l hl (okS_pos hg.2.1) ha fuel 0 [] (by omega) (by unfold fuel; omega) (by simp)
    rw [List.nil_append, List.drop_zero] at this
    exact this
  · rw [nF h, if_neg h]
end Go.Proofs.Ytgcbcnpbnonnjaa

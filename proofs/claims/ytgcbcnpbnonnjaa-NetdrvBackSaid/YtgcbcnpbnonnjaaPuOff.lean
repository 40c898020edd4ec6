/- Segments that were written, read. No condition. -/
import Derived.Test.YtgcbcnpbnonnjaaPuFlat
namespace Go.Proofs.Ytgcbcnpbnonnjaa
def offS (s : Seg) : Seg := ⟨s.At, s.Len, false⟩
theorem off_ok : ∀ {l : List Seg} (w : Bool), okS w l = true → okS false (l.map offS) = true
  | [], _, _ => rfl
  | x :: l, w, h => by
    unfold okS at h
    rw [Bool.and_eq_true, decide_eq_true_eq] at h
    rw [List.map_cons]
    unfold okS
    rw [Bool.and_eq_true, decide_eq_true_eq]
    exact ⟨⟨h.1.1, h.1.2.1, fun q => by cases q⟩, off_ok _ h.2⟩
theorem off_sum (l : List Seg) : sumS (l.map offS) = sumS l := by
  induction l with
  | nil => rfl
  | cons x l ih => simp only [List.map_cons, sumS, ih]; rfl
theorem off_good {l : List Seg} (h : XE l) : XE (l.map offS) := ⟨by rw [List.length_map]; exact h.1, off_ok _ h.2.1, by rw [off_sum]; exact h.2.2⟩
theorem off_gat (x : List UInt8) (l : List Seg) : gatF x (l.map offS) = gatF x l := by
  induction l with
  | nil => rfl
  | cons s l ih => rw [List.map_cons, XO, XO, ih]; rfl
theorem off_in {n : Nat} {l : List Seg} (h : inF n l) : inF n (l.map offS) := by
  intro s hs
  obtain ⟨y, hy, rfl⟩ := List.mem_map.1 hs
  exact h y hy
theorem set_off {p : List Seg} {i : Nat} (h : i < p.length) : ((p.take i).map offS ++ p.drop i).set i (offS p[i]) = (p.take (i + 1)).map offS ++ p.drop (i + 1) := by
  have hl : ((p.take i).map offS).length = i := by rw [List.length_map, List.length_take]; omega
  rw [YF h, List.set_append_right _ _ (by omega), hl, Nat.sub_self, List.set_cons_zero, List.take_succ_eq_append_getElem h, List.map_append, List.append_assoc]
  rfl
theorem off_at {p : List Seg} {i : Nat} (h : i < p.length) : ((p.take i).map offS ++ p.drop i)[i]? = some p[i] := by
  have hl : ((p.take i).map offS).length = i := by rw [List.length_map, List.length_take]; omega
  rw [YF h, List.getElem?_append_right (by omega), hl, Nat.sub_self]; rfl
end Go.Proofs.Ytgcbcnpbnonnjaa

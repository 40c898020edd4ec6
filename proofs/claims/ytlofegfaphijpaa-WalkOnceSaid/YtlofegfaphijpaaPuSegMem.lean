/- Buffers in a memory, in plain words. No condition. -/
import Derived.Test.YtlofegfaphijpaaPuGmem
import Derived.Test.YtlofegfaphijpaaPuCut
namespace Go.Proofs.Ytlofegfaphijpaa
def hasS (l : List Region) (s : Seg) : Bool := (findR l s.At.toNat s.Len.toNat).isSome
def inE (l : List Region) (ss : List Seg) : Int := if errS ss = 0 then (bif ss.all (hasS l) then 0 else 5) else errS ss
theorem segInL (m : gmem_Mem) (hm : memOk m.l m.b) (l : List Seg) (hl : l.length ≤ 64) : ∀ (nf i : Nat), i ≤ l.length → l.length - i < nf → seg_InL1 m l nf (i : Int) = some (bif (l.drop i).all (hasS m.l) then 0 else 5)
  | 0, i, _, h => by omega
  | nf + 1, i, hi, hn => by
    unfold seg_InL1 seg_InL1B
    by_cases h : i < l.length
    · have hd : l.drop i = l[i] :: l.drop (i + 1) := drop_ix h
      rw [bP (by simp only [len]; omega), oS (ix_nat (getq h)), oS (has_eq m hm _ _), hd, List.all_cons, UInt32.toNat_toUInt64]
      have ih := segInL m hm l hl nf (i + 1) (by omega) (by omega)
      cases q : (findR m.l l[i].At.toNat l[i].Len.toNat).isSome with
      | true => rw [bFl (show (!true) = false from rfl), wi_succ (by omega), ih, show hasS m.l l[i] = true from q, Bool.true_and]
      | false => rw [bT (show (!false) = true from rfl), show hasS m.l l[i] = false from q, Bool.false_and]; rfl
    · rw [bN (by simp only [len]; omega), List.drop_of_length_le (by omega)]; rfl
theorem segIn_eq (m : gmem_Mem) (hm : memOk m.l m.b) (l : List Seg) : seg_In m l = some (inE m.l l) := by
  unfold seg_In
  have h0 : gmem_Mem_Read m (0 : UInt64) (0 : Int) = some ([], 0) := by rw [read_eqM m hm _ _ (by omega)]; rfl
  rw [oS h0, nE rfl, oS (segCheck l)]
  unfold inE
  by_cases h : errS l = 0
  · rw [nE h, if_pos h]
    have hl := (errS_zero.1 h).1
    have := segInL m hm l hl fuel 0 (by omega) (by unfold fuel; omega)
    exact this
  · rw [nF h, if_neg h]
end Go.Proofs.Ytlofegfaphijpaa

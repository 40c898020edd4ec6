/- Descriptors, used elements, events and tables in plain words: what their functions reckon. No condition. -/
import Derived.Test.YtihcimjfabdafaaMo1
import Derived.Test.YtihcimjfabdafaaPuLib
namespace Go.Proofs.Ytihcimjfabdafaa

def bsD (d : Desc) : List UInt8 := [byt d.Addr 0, byt d.Addr 1, byt d.Addr 2, byt d.Addr 3, byt d.Addr 4, byt d.Addr 5, byt d.Addr 6, byt d.Addr 7, byt d.Len.toUInt64 0, byt d.Len.toUInt64 1, byt d.Len.toUInt64 2, byt d.Len.toUInt64 3, byt d.Flags.toUInt64 0, byt d.Flags.toUInt64 1, byt d.Next.toUInt64 0, byt d.Next.toUInt64 1]
def bsP (d : Packed) : List UInt8 := [byt d.Addr 0, byt d.Addr 1, byt d.Addr 2, byt d.Addr 3, byt d.Addr 4, byt d.Addr 5, byt d.Addr 6, byt d.Addr 7, byt d.Len.toUInt64 0, byt d.Len.toUInt64 1, byt d.Len.toUInt64 2, byt d.Len.toUInt64 3, byt d.ID.toUInt64 0, byt d.ID.toUInt64 1, byt d.Flags.toUInt64 0, byt d.Flags.toUInt64 1]
theorem bytesD (d : Desc) : desc_Bytes d = some (bsD d) := by kernel_rfl
theorem bytesP (d : Packed) : desc_PackedBytes d = some (bsP d) := by kernel_rfl
theorem bsD_len (d : Desc) : (bsD d).length = 16 := rfl

theorem tableL (l : List Desc) : ∀ (nf x : Nat) (b : List UInt8), x ≤ l.length → l.length - x < nf → l.length ≤ 1000000 → b.length = 16 * x → desc_TableL1 l nf b (x : Int) = some (b ++ (l.drop x).flatMap bsD)
  | 0, x, b, _, h, _, _ => by omega
  | nf + 1, x, b, hx, hn, hl, hb => by
    unfold desc_TableL1 desc_TableL1B
    by_cases h : x < l.length
    · have e : decide ((x : Int) < len l) = true := by simp [len]; exact h
      rw [e, br, cond_true, ix_get h, ob_s, bytesD, ob_s, fits_ok (by rw [bsD_len]; omega), chk_t, wi_succ (by omega)]
      rw [tableL l nf (x + 1) _ (by omega) (by omega) hl (by rw [List.length_append, bsD_len]; omega), drop_ix h, List.flatMap_cons, List.append_assoc]
    · have e : decide ((x : Int) < len l) = false := by simp [len]; omega
      have : l.length ≤ x := by omega
      rw [e, br, cond_false, List.drop_of_length_le this]; simp
theorem tableD (l : List Desc) (h : l.length ≤ 1000000) : desc_Table l = some (l.flatMap bsD) := by
  have := tableL l fuel 0 [] (by omega) (by unfold fuel; omega) h rfl
  unfold desc_Table
  simpa using this
/-! words -/
end Go.Proofs.Ytihcimjfabdafaa

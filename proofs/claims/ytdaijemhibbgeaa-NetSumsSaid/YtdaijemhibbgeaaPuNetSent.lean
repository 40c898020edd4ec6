/- Frames that are sent. No condition. -/
import Derived.Test.YtdaijemhibbgeaaPuNet
namespace Go.Proofs.Ytdaijemhibbgeaa
theorem bytesF_le {f : Frame} (h : okF f) : (bytesF f).length ≤ 1518 ∧ 14 ≤ (bytesF f).length := by
  rw [bytesF_len]; have := h.2.2.2
  have : (tagB f.Vlan).length ≤ 4 := by unfold tagB; split <;> simp
  omega
theorem readHdr_app (h : Hdr) (r : List UInt8) : frame_ReadHdr (bytesH h ++ r) = some (h, 0) := by
  unfold frame_ReadHdr
  rw [bN (by simp only [len, bytesH, List.length_append, List.length_cons, List.length_nil]; omega)]
  have e := readHdr_eq h
  unfold frame_ReadHdr at e
  rw [bN (by simp only [len, bytesH, List.length_cons, List.length_nil]; omega)] at e
  exact e
theorem fill_off (b : List UInt8) (h : Hdr) (hf : h.Flags &&& 1 = 0) (hb : b.length ≤ 100000) : frame_Fill b h = some (b, 0) := by
  unfold frame_Fill
  rw [bE hf, oS (cloneb_eq b (by omega))]
/-- no sum is asked for -/
theorem sent_plain {m : gmem_Mem} {feats : UInt64} {l : List Seg} {h : Hdr} {f : Frame} (hg : seg_Gather m l = some (bytesH h ++ bytesF f, 0)) (hf : okF f) (hq : h.Flags &&& 1 = 0 ∨ feats = 0) : net_Sent m feats l = some (f, 0) := by
  have hb := bytesF_le hf
  have hd : sub (bytesH h ++ bytesF f) (12 : Int) (len (bytesH h ++ bytesF f)) = bytesF f := by rw [sub_from]; exact List.drop_left' rfl
  unfold net_Sent
  rw [oS hg, nE rfl, oS (readHdr_app h _), nE rfl]
  dsimp only
  rw [cD (by simp only [len, bytesH, List.length_append, List.length_cons, List.length_nil]; omega), hd, oS (hasS_eq feats)]
  cases hs : (shr64 feats (0 : UInt64).toNat &&& 1 == 1) with
  | true =>
    rcases hq with q | q
    · rw [brT, oS (fill_off _ h q (by omega)), nE rfl, oS (read_back hf)]
    · subst q; exact absurd hs (by decide)
  | false => rw [brF, oS (read_back hf)]
/-- one region that was filled -/
theorem rdF_wr {x xs : List UInt8} {a : Nat} (h : a + xs.length ≤ x.length) : rdF (wrF x a xs) a xs.length = xs := by
  unfold rdF wrF
  rw [List.append_assoc, List.drop_left' (by simp; omega)]
  exact List.take_left' rfl
end Go.Proofs.Ytdaijemhibbgeaa

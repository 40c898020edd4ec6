/- The law NetConfigs in plain words: it answers true. No condition. -/
import Derived.Test.YtdaijemhibbgeaaPuNetSent
namespace Go.Proofs.Ytdaijemhibbgeaa
theorem confT (m : A6 UInt8) (up : Bool) : ∃ c, net_Config m up = some c ∧ c.length = 8 ∧ net_Mac c = some m ∧ net_Up c = some up ∧ net_Up (sub c 0 7) = some false ∧ net_Mac (sub c 0 7) = some (A6.mk 0 0 0 0 0 0) := by
  cases up with
  | true => exact ⟨[m.a0, m.a1, m.a2, m.a3, m.a4, m.a5, 1, 0], rfl, rfl, rfl, rfl, rfl, rfl⟩
  | false => exact ⟨[m.a0, m.a1, m.a2, m.a3, m.a4, m.a5, 0, 0], rfl, rfl, rfl, rfl, rfl, rfl⟩
theorem confG {x : List UInt8} (hx : flatOk 16384 x) (raw : List UInt8) (h1 : 20 ≤ raw.length) (h2 : raw.length ≤ 2000) :
    seg_Gather ⟨rg 16384, [wrF x 7 raw]⟩ [(Seg.mk (7 : UInt64) (5 : UInt32) false), (Seg.mk (12 : UInt64) (UInt32.ofNat (raw.length - 5)) false), (Seg.mk (9000 : UInt64) (3 : UInt32) true)] = some (raw, 0) := by
  have hn : (UInt32.ofNat (raw.length - 5)).toNat = raw.length - 5 := n32 (by omega)
  have hxl : x.length = 16384 := hx.2.2
  have hw : flatOk 16384 (wrF x 7 raw) := wrF_ok hx (by show _ ≤ 16384; omega)
  have c5 : (5 : UInt32).toNat = 5 := rfl
  have c7 : (7 : UInt64).toNat = 7 := rfl
  have c12 : (12 : UInt64).toNat = 12 := rfl
  have c9 : (9000 : UInt64).toNat = 9000 := rfl
  have c3 : (3 : UInt32).toNat = 3 := rfl
  rw [gather1 hw]
  · have e : [(Seg.mk (7 : UInt64) (5 : UInt32) false), (Seg.mk (12 : UInt64) (UInt32.ofNat (raw.length - 5)) false), (Seg.mk (9000 : UInt64) (3 : UInt32) true)].filter (fun s => s.Write == false) = [(Seg.mk (7 : UInt64) (5 : UInt32) false), (Seg.mk (12 : UInt64) (UInt32.ofNat (raw.length - 5)) false)] := rfl
    rw [e, gatF_cons, gatF_cons, gatF_nil, List.append_nil]
    dsimp only
    rw [hn, c5, c7, c12, show (12 : Nat) = 7 + 5 from rfl, rdF_add, show 5 + (raw.length - 5) = raw.length by omega, rdF_wr (by omega)]
  · refine ⟨by simp, ?_, ?_⟩
    · unfold okS okS okS okS
      simp only [hn, c5, c7, c12, c9, c3, Bool.and_true, Bool.and_eq_true, decide_eq_true_eq]
      refine ⟨⟨by omega, by omega, fun q => by cases q⟩, ⟨by omega, by omega, fun q => by cases q⟩, by omega, by omega, fun _ => trivial⟩
    · simp only [sumS, hn, c5, c3]; omega
  · intro s hs
    simp only [List.mem_cons, List.not_mem_nil, or_false] at hs
    rcases hs with e | e | e <;> subst e <;> dsimp only
    · decide
    · rw [hn, c12]; show _ ≤ 16384; omega
    · decide
theorem t_law25zNetConfigs (mac : A6 UInt8) (up : Bool) (f : Frame) (hp3 : Hdr) (feats : UInt64) : law25zNetConfigs mac up f hp3 feats = some true := by
  obtain ⟨c, c1, c2, c3, c4, c5, c6⟩ := confT mac up
  unfold law25zNetConfigs
  rw [oS lives25, notT, notF, chkT, oS c1, cnE (by simp only [len, c2]; rfl), oS c3, cnE rfl, oS c4, cnE rfl, cD (by simp only [len, c2]; omega), oS c5, notF, chkT, cD (by simp only [len, c2]; omega), oS c6, cnE rfl, refCheck_eq]
  by_cases hf : okF f
  · have hb := bytesF_le hf
    have hz : flatOk 16384 (z1 16384) := z1_ok (n := 16384) (by decide) (by decide)
    rw [oS (check_ok hf), nE rfl, refBytes_eq, oS (bytes_ok hf), oS (refHdrOf_eq _)]
    generalize hh : (Hdr.mk (hp3.Flags &&& ~~~(1 : UInt8)) hp3.Start hp3.Off hp3.Buffers) = h
    have hl : (bytesH h).length = 12 := rfl
    have hlen : (bytesH h ++ bytesF f).length = 12 + (bytesF f).length := by rw [List.length_append, hl]
    have hfl : h.Flags &&& 1 = 0 := by
      subst hh; dsimp only
      rw [UInt8.and_assoc, show (~~~(1 : UInt8)) &&& 1 = 0 from rfl, UInt8.and_zero]
    have hwr := write1_eq hz 7 (bytesH h ++ bytesF f) (by rw [hlen]; show 7 + _ ≤ 16384; omega)
    rw [show (7 : UInt64).toNat = 7 from rfl] at hwr
    have e5 : u32 (wi ((len (bytesH h ++ bytesF f)) - (5 : Int))) = UInt32.ofNat ((bytesH h ++ bytesF f).length - 5) := by
      rw [show len (bytesH h ++ bytesF f) = (((bytesH h ++ bytesF f).length : Nat) : Int) from rfl, wi_in (by omega) (by omega), ← u32_of, Int.natCast_sub (by omega)]; rfl
    have hg := confG hz (bytesH h ++ bytesF f) (by omega) (by omega)
    dsimp only
    rw [cFits (by omega), oS mem25, oS (new1_eq (n := 16384) (by decide) (by decide))]
    dsimp only
    rw [onS, cnE rfl, oS hwr]
    dsimp only
    rw [cnE rfl, e5, oS (sent_plain hg hf (Or.inl hfl)), cE rfl, oS (kitFrame_eq f f), beqI, chkT]
  · rw [oS (check_bad hf), nF (by decide)]
end Go.Proofs.Ytdaijemhibbgeaa

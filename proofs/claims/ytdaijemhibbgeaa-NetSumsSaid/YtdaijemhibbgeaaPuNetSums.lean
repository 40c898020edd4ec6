/- The law NetSums in plain words: it answers true. No condition. -/
import Derived.Test.YtdaijemhibbgeaaPuNetSent
namespace Go.Proofs.Ytdaijemhibbgeaa
theorem sumG {x : List UInt8} (hx : flatOk 16384 x) (raw : List UInt8) (h1 : 20 ≤ raw.length) (h2 : raw.length ≤ 2000) :
    seg_Gather ⟨rg 16384, [wrF x 50 raw]⟩ [(Seg.mk (50 : UInt64) (UInt32.ofNat raw.length) false)] = some (raw, 0) := by
  have hn : (UInt32.ofNat raw.length).toNat = raw.length := n32 (by omega)
  have hxl : x.length = 16384 := hx.2.2
  have hw : flatOk 16384 (wrF x 50 raw) := wrF_ok hx (by show _ ≤ 16384; omega)
  have c5 : (50 : UInt64).toNat = 50 := rfl
  rw [gather1 hw]
  · have e : [(Seg.mk (50 : UInt64) (UInt32.ofNat raw.length) false)].filter (fun s => s.Write == false) = [(Seg.mk (50 : UInt64) (UInt32.ofNat raw.length) false)] := rfl
    rw [e, gatF_cons, gatF_nil, List.append_nil]
    dsimp only
    rw [hn, c5, rdF_wr (by omega)]
  · refine ⟨by simp, ?_, ?_⟩
    · unfold okS okS
      simp only [hn, c5, Bool.and_true, decide_eq_true_eq]
      exact ⟨by omega, by omega, fun q => by cases q⟩
    · simp only [sumS, hn]; omega
  · intro s hs
    rw [List.mem_singleton] at hs
    subst hs
    dsimp only
    rw [hn, c5]; show _ ≤ 16384; omega
/-- a frame whose sum is asked for -/
theorem sent_sum {m : gmem_Mem} {l : List Seg} {f : Frame} {k : Nat} (hf : okF f) (hk : k + 2 ≤ f.Data.length)
    (hg : seg_Gather m l = some (bytesH (Hdr.mk 1 (UInt16.ofNat (14 + (tagB f.Vlan).length)) (UInt16.ofNat k) 0) ++ bytesF f, 0)) :
    net_Sent m 1 l = some ({ f with Data := (f.Data.set k (shr16 (cks (wsum f.Data)) (8 : UInt64).toNat).toUInt8).set (k + 1) (cks (wsum f.Data)).toUInt8 }, 0) := by
  have hb := bytesF_le hf
  have h4 := hf.2.2.2
  have ht : (tagB f.Vlan).length ≤ 4 := by unfold tagB; split <;> simp
  have hbl := bytesF_len f
  generalize hh : Hdr.mk 1 (UInt16.ofNat (14 + (tagB f.Vlan).length)) (UInt16.ofNat k) 0 = h at hg
  have hd : sub (bytesH h ++ bytesF f) (12 : Int) (len (bytesH h ++ bytesF f)) = bytesF f := by rw [sub_from]; exact List.drop_left' rfl
  have hpre : (l6 f.Dst ++ l6 f.Src ++ tagB f.Vlan ++ [hi8 f.Type_, f.Type_.toUInt8]).length = 14 + (tagB f.Vlan).length := by
    simp only [List.length_append, l6, List.length_cons, List.length_nil]; omega
  have hF : frame_Fill (bytesF f) h = some (bytesF { f with Data := (f.Data.set k (shr16 (cks (wsum f.Data)) (8 : UInt64).toNat).toUInt8).set (k + 1) (cks (wsum f.Data)).toUInt8 }, 0) := by
    rw [← hh, fill_eq _ _ _ (by omega) (by omega) (by omega) (by omega)]
    have e1 : (bytesF f).drop (14 + (tagB f.Vlan).length) = f.Data := by
      unfold bytesF; exact List.drop_left' hpre
    rw [e1]
    refine congrArg (fun t => some (t, (0 : Int))) ?_
    unfold bytesF
    rw [List.set_append_right _ _ (by rw [hpre]; omega), List.set_append_right _ _ (by rw [hpre]; omega), hpre, show 14 + (tagB f.Vlan).length + k - (14 + (tagB f.Vlan).length) = k by omega, show 14 + (tagB f.Vlan).length + k + 1 - (14 + (tagB f.Vlan).length) = k + 1 by omega]
  unfold net_Sent
  rw [oS hg, nE rfl, oS (readHdr_app h _), nE rfl]
  dsimp only
  rw [cD (by simp only [len, bytesH, List.length_append, List.length_cons, List.length_nil]; omega), hd, oS (hasS_eq 1)]
  rw [show (shr64 1 (0 : UInt64).toNat &&& 1 == 1) = true from rfl, brT, oS hF, nE rfl]
  dsimp only
  exact oS (k := fun read1 => some (read1.1, read1.2)) (read_back (f := { f with Data := (f.Data.set k (shr16 (cks (wsum f.Data)) (8 : UInt64).toNat).toUInt8).set (k + 1) (cks (wsum f.Data)).toUInt8 }) ⟨hf.1, hf.2.1, hf.2.2.1, by simpa using h4⟩)
theorem t_law25zNetSums (f : Frame) (off : Int) : law25zNetSums f off = some true := by
  unfold law25zNetSums
  rw [oS lives25, notT, notF, chkT, refCheck_eq]
  by_cases hf : okF f
  · have h4 := hf.2.2.2
    rw [oS (check_ok hf), nE rfl]
    by_cases h2 : len f.Data < 2
    · rw [bP h2]
    · rw [bN h2]
      simp only [len] at h2
      have q2 : quoi (len f.Data) (2 : Int) = ((f.Data.length / 2 : Nat) : Int) := quoi_nat f.Data.length 2 (by omega)
      have w2 : wi (((f.Data.length / 2 : Nat) : Int) * 2) = ((f.Data.length / 2 * 2 : Nat) : Int) := by rw [wi_in (by omega) (by omega)]; omega
      rw [q2, w2, cD (by simp only [len]; omega), sub_to, Int.toNat_natCast, oS (own_eq _ (by simp; omega))]
      clear q2 w2
      generalize hD0 : f.Data.take (f.Data.length / 2 * 2) = D0
      have hl0 : D0.length = f.Data.length / 2 * 2 := by rw [← hD0, List.length_take]; omega
      have q0 : quoi (len D0) (2 : Int) = ((D0.length / 2 : Nat) : Int) := quoi_nat D0.length 2 (by omega)
      obtain ⟨j, hj1, hj2⟩ := pick_eq off (D0.length / 2) (by omega) (by omega)
      have w3 : wi ((2 : Int) * (j : Int)) = ((2 * j : Nat) : Int) := by rw [wi_in (by omega) (by omega)]; omega
      have w4 : wi (((2 * j : Nat) : Int) + 1) = ((2 * j + 1 : Nat) : Int) := wi_succ (by omega)
      rw [q0, oS hj1]
      simp only [w3, w4, Int.toNat_natCast]
      clear q0 w3 w4 hj1
      rw [oS (ix_nat (getq (by omega))), oS (ix_nat (getq (by simp; omega)))]
      generalize hDd : (D0.set (2 * j) 0).set (2 * j + 1) 0 = Dd
      have hld : Dd.length = D0.length := by rw [← hDd]; simp
      have hz0 : Dd[2 * j]? = some 0 := by
        rw [← hDd, List.getElem?_set_ne (by omega), List.getElem?_set_self (by omega)]
      have hz1 : Dd[2 * j + 1]? = some 0 := by rw [← hDd, List.getElem?_set_self (by simp; omega)]
      have hg : okF (Frame.mk f.Dst f.Src f.Vlan f.Type_ Dd) := ⟨hf.1, hf.2.1, hf.2.2.1, by show Dd.length ≤ 1500; omega⟩
      generalize hgg : Frame.mk f.Dst f.Src f.Vlan f.Type_ Dd = g at *
      have hgD : g.Data = Dd := by rw [← hgg]
      have hb := bytesF_le hg
      have hbl := bytesF_len g
      rw [refBytes_eq, oS (bytes_ok hg)]
      dsimp only
      have ht : (tagB g.Vlan).length ≤ 4 := by unfold tagB; split <;> simp
      have e1 : u16 (wi (len (bytesF g) - len Dd)) = UInt16.ofNat (14 + (tagB g.Vlan).length) := by
        rw [← u16_of]
        refine congrArg u16 ?_
        rw [hgD] at hbl
        simp only [len]
        rw [wi_in (by omega) (by omega)]; omega
      rw [e1, u16_of, oS (refHdrOf_eq _)]
      clear e1
      generalize hh : Hdr.mk 1 (UInt16.ofNat (14 + (tagB g.Vlan).length)) (UInt16.ofNat (2 * j)) 0 = h
      have hl : (bytesH h).length = 12 := rfl
      have hlen : (bytesH h ++ bytesF g).length = 12 + (bytesF g).length := by rw [List.length_append, hl]
      have hz : flatOk 16384 (z1 16384) := z1_ok (n := 16384) (by decide) (by decide)
      have hwr := write1_eq hz 50 (bytesH h ++ bytesF g) (by rw [hlen]; show 50 + _ ≤ 16384; omega)
      rw [show (50 : UInt64).toNat = 50 from rfl] at hwr
      have hgt := sumG hz (bytesH h ++ bytesF g) (by omega) (by omega)
      rw [cFits (by omega), oS mem25, oS (new1_eq (n := 16384) (by decide) (by decide))]
      dsimp only
      rw [onS, cnE rfl, oS hwr]
      dsimp only
      have e5 : u32 (len (bytesH h ++ bytesF g)) = UInt32.ofNat (bytesH h ++ bytesF g).length := u32_of _
      rw [cnE rfl, e5]
      have s2 := sent_plain (feats := 0) hgt hg (Or.inr rfl)
      have s1 := sent_sum (m := ⟨rg 16384, [wrF (z1 16384) 50 (bytesH h ++ bytesF g)]⟩) (l := [(Seg.mk (50 : UInt64) (UInt32.ofNat (bytesH h ++ bytesF g).length) false)]) (k := 2 * j) hg (by rw [hgD]; omega) (by rw [hh]; exact hgt)
      rw [oS s1, oS s2]
      dsimp only
      rw [cnE rfl, cnE rfl, oS (kitFrame_eq g g), beqI, notT, notF, chkT, hgD]
      generalize hc : cks (wsum Dd) = c
      have hsum : wsum ((Dd.set (2 * j) (shr16 c (8 : UInt64).toNat).toUInt8).set (2 * j + 1) c.toUInt8) = wsum Dd + c.toNat := by
        rw [wsum_put Dd (2 * j) _ _ (by omega) (by omega) hz0 hz1, hi_lo16]
      have hs0 : ref_Sum23 ((Dd.set (2 * j) (shr16 c (8 : UInt64).toNat).toUInt8).set (2 * j + 1) c.toUInt8) = some 0 := by
        rw [refSum_eq _ (by simp; omega), hsum, ← hc, cks_zero (res_cks _)]
      rw [oS hs0, cnE rfl, oS (ix_nat (getq (by simp; omega))), oS (ix_nat (getq (by simp; omega)))]
      have hback : (((Dd.set (2 * j) (shr16 c (8 : UInt64).toNat).toUInt8).set (2 * j + 1) c.toUInt8).set (2 * j) 0).set (2 * j + 1) 0 = Dd := by
        apply List.ext_getElem?
        intro i
        by_cases h1 : i = 2 * j + 1
        · subst h1; rw [List.getElem?_set_self (by simp; omega), hz1]
        · rw [List.getElem?_set_ne (by omega)]
          by_cases h2 : i = 2 * j
          · subst h2; rw [List.getElem?_set_self (by simp; omega), hz0]
          · rw [List.getElem?_set_ne (by omega), List.getElem?_set_ne (by omega), List.getElem?_set_ne (by omega)]
      rw [hback]
      have eg : Frame.mk g.Dst g.Src g.Vlan g.Type_ Dd = g := by rw [← hgD]
      rw [eg, oS (kitFrame_eq g g), beqI, chkT]
  · rw [oS (check_bad hf), nF (by decide)]
end Go.Proofs.Ytdaijemhibbgeaa

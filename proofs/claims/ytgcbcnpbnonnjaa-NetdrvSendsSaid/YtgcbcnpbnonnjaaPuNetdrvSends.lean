/- The law NetdrvSends in plain words: it answers true. No condition. -/
import Derived.Test.YtgcbcnpbnonnjaaPuNetdrvLay
namespace Go.Proofs.Ytgcbcnpbnonnjaa
theorem lives26S : law26zlives = some true := by kernel_rfl
theorem mem26S : law26zmemory = some (rg 32768) := rfl
theorem t_law26zNetdrvSends (f : Frame) (atp1 : Int) (cuts : List Int) (off : Int) (feats : UInt64) : Yu f atp1 cuts off feats = some true := by
  unfold Yu
  rw [oS lives26S, notT, notF, chkT, refCheck_eq]
  by_cases hf : okF f
  · have h4 := hf.2.2.2
    rw [oS (check_ok hf), nE rfl]
    by_cases hc : len cuts > 70
    · rw [bP hc]
    · rw [bN hc]
      simp only [len] at hc
      have hz : flatOk 32768 (z1 32768) := z1_ok (n := 32768) (by decide) (by decide)
      have hzl : (z1 32768).length = 32768 := hz.2.2
      obtain ⟨a, ha1, ha2⟩ := pick_eq atp1 30000 (by decide) (by decide)
      rw [show ((30000 : Nat) : Int) = 30000 from rfl] at ha1
      have hb := bytesF_ge hf
      have hl1 : (Xi (Hdr.mk 0 0 0 0) ++ Zq f).length = 12 + (Zq f).length := by rw [List.length_append]; rfl
      rw [oS mem26S, oS (new1_eq (n := 32768) (by decide) (by decide))]
      dsimp only
      rw [onS, oS mem26S, oS (rnew1 (n := 32768) (by decide) (by decide))]
      dsimp only
      rw [onS, cnE rfl, cnE rfl, oS ha1, u64_of, oS (nlay_plain hz a f hf cuts (by omega) (by omega))]
      dsimp only
      have hx1 : flatOk 32768 (wrF (z1 32768) a (Xi (Hdr.mk 0 0 0 0) ++ Zq f)) := wrF_ok hz (by rw [hl1]; show _ ≤ 32768; omega)
      have hg1 := rgather_cut hx1 a (Xi (Hdr.mk 0 0 0 0) ++ Zq f).length (by omega) (by rw [hl1]; show _ ≤ 32768; omega) (by omega) cuts
      rw [rdF_wrF (by omega)] at hg1
      have hs1 := rsent_plain (feats := feats) hg1 hf rfl
      generalize hX1 : wrF (z1 32768) a (Xi (Hdr.mk 0 0 0 0) ++ Zq f) = x1 at *
      have hx1l : x1.length = 32768 := hx1.2.2
      have hw1 := rwrite1 hz 0 x1 (by rw [hx1l]; exact Nat.le_refl _)
      rw [show (0 : UInt64).toNat = 0 from rfl, wrF_all (by omega)] at hw1
      rw [cnE rfl, oS (image1_eq hx1), oS hw1]
      dsimp only
      rw [cnE rfl, oS hs1]
      dsimp only
      rw [cnE rfl, oS (kitFrame_eq f f), beqI, notT, notF, chkT]
      by_cases h2 : len f.Data < 2
      · rw [bP h2]
      · rw [bN h2]
        simp only [len] at h2
        have q2 : quoi (len f.Data) (2 : Int) = ((f.Data.length / 2 : Nat) : Int) := quoi_nat f.Data.length 2 (by omega)
        have w2 : wi (((f.Data.length / 2 : Nat) : Int) * 2) = ((f.Data.length / 2 * 2 : Nat) : Int) := by rw [YV (by omega) (by omega)]; omega
        rw [q2, w2, cD3 (by simp only [len]; omega), sub_to, Int.toNat_natCast, oS (own_eq _ (by simp; omega))]
        clear q2 w2
        generalize hD0 : f.Data.take (f.Data.length / 2 * 2) = D0
        have hl0 : D0.length = f.Data.length / 2 * 2 := by rw [← hD0, List.length_take]; omega
        have q0 : quoi (len D0) (2 : Int) = ((D0.length / 2 : Nat) : Int) := quoi_nat D0.length 2 (by omega)
        obtain ⟨j, hj1, hj2⟩ := pick_eq off (D0.length / 2) (by omega) (by omega)
        have w3 : wi ((2 : Int) * (j : Int)) = ((2 * j : Nat) : Int) := by rw [YV (by omega) (by omega)]; omega
        have w4 : wi (((2 * j : Nat) : Int) + 1) = ((2 * j + 1 : Nat) : Int) := ZZ (by omega)
        rw [q0, oS hj1]
        simp only [w3, w4, Int.toNat_natCast]
        clear q0 w3 w4 hj1
        rw [oS (ZQ (getq (by omega))), oS (ZQ (getq (by simp; omega)))]
        generalize hDd : (D0.set (2 * j) 0).set (2 * j + 1) 0 = Dd
        have hld : Dd.length = D0.length := by rw [← hDd]; simp
        have hz0 : Dd[2 * j]? = some 0 := by
          rw [← hDd, List.getElem?_set_ne (by omega), List.getElem?_set_self (by omega)]
        have hz1 : Dd[2 * j + 1]? = some 0 := by rw [← hDd, List.getElem?_set_self (by simp; omega)]
        have hg : okF (Frame.mk f.Dst f.Src f.Vlan f.Type_ Dd) := ⟨hf.1, hf.2.1, hf.2.2.1, by show Dd.length ≤ 1500; omega⟩
        generalize hgg : Frame.mk f.Dst f.Src f.Vlan f.Type_ Dd = g at *
        have hgD : g.Data = Dd := by rw [← hgg]
        have hb2 := bytesF_ge hg
        rw [oS (nlay_sum hx1 a g hg (2 * j) (by rw [hgD]; omega) cuts (by omega) (by omega))]
        generalize hh : Hdr.mk 1 (UInt16.ofNat (14 + (tagB g.Vlan).length)) (UInt16.ofNat (2 * j)) 0 = h
        have hl2 : (Xi h ++ Zq g).length = 12 + (Zq g).length := by rw [List.length_append]; rfl
        dsimp only
        have hx2 : flatOk 32768 (wrF x1 a (Xi h ++ Zq g)) := wrF_ok hx1 (by rw [hl2]; show _ ≤ 32768; omega)
        have hg2 := rgather_cut hx2 a (Xi h ++ Zq g).length (by omega) (by rw [hl2]; show _ ≤ 32768; omega) (by omega) cuts
        rw [rdF_wrF (by omega), ← hh] at hg2
        have hs2 := rsent_sum hg (by rw [hgD]; omega) hg2
        rw [hh] at hs2
        generalize hX2 : wrF x1 a (Xi h ++ Zq g) = x2 at *
        have hx2l : x2.length = 32768 := hx2.2.2
        have hw2 := rwrite1 hx1 0 x2 (by rw [hx2l]; exact Nat.le_refl _)
        rw [show (0 : UInt64).toNat = 0 from rfl, wrF_all (by omega)] at hw2
        rw [cnE rfl, oS (image1_eq hx2), oS hw2]
        dsimp only
        rw [cnE rfl, oS hs2]
        dsimp only
        rw [hgD]
        generalize hc : cks (wsum Dd) = c
        have hsum : wsum ((Dd.set (2 * j) (Zt c (8 : UInt64).toNat).toUInt8).set (2 * j + 1) c.toUInt8) = wsum Dd + c.toNat := by
          rw [wsum_put Dd (2 * j) _ _ (by omega) (by omega) hz0 hz1, hi_lo16]
        have hs0 : ref_Sum23 ((Dd.set (2 * j) (Zt c (8 : UInt64).toNat).toUInt8).set (2 * j + 1) c.toUInt8) = some 0 := by
          rw [refSum_eq _ (by simp; omega), hsum, ← hc, cks_zero (res_cks _)]
        rw [cE rfl, oS hs0, cE rfl, cE (by simp only [len, List.length_set])]
  · rw [oS (check_bad hf), nF (by decide)]
end Go.Proofs.Ytgcbcnpbnonnjaa

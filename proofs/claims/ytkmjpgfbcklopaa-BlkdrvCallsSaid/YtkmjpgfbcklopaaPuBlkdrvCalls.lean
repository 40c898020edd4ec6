/- The law BlkdrvCalls in plain words: it answers true. No condition. -/
import Derived.Test.YtkmjpgfbcklopaaPuBlkdrvRef
import Derived.Test.YtkmjpgfbcklopaaPuBlkdrvResult
namespace Go.Proofs.Ytkmjpgfbcklopaa
theorem lives22C : law22zlives = some true := by kernel_rfl
theorem mem22C : law22zmemory = some (rg 16384) := rfl
theorem ksegs22 (l : List Seg) (h : l.length ≤ 1000000) : kit_Segs l = some l := by unfold kit_Segs; rw [cFits (by simp; omega)]
theorem kreq22 (r : Req) (h1 : r.Data.length ≤ 1000000) (h2 : r.Ranges.length ≤ 1000) : kit_Req r = some r := by
  unfold kit_Req
  rw [oS (own_eq _ (by omega)), cFits (by simp; omega)]
theorem light22C (r : Req) : ∃ b, kit_LightReq r 6000 = some b ∧ (b = true → r.Data.length ≤ 6000 ∧ r.Ranges.length ≤ 40 ∧ r.Room ≤ 6000) := by
  unfold kit_LightReq
  by_cases h1 : len r.Data ≤ 6000
  · rw [bP h1]
    by_cases h2 : len r.Ranges ≤ 40
    · rw [bP h2]
      refine ⟨_, rfl, fun q => ?_⟩
      simp only [len] at h1 h2
      have := of_decide_eq_true q
      omega
    · rw [bN h2]; exact ⟨false, rfl, fun q => by cases q⟩
  · rw [bN h1]; exact ⟨false, rfl, fun q => by cases q⟩
theorem maxi_comm (a b : Int) : maxi a b = maxi b a := by unfold maxi; split <;> split <;> omega
theorem bconfigL (v : UInt64) : ∀ (nf x : Nat), x ≤ 8 → 8 - x < nf → blkdrv_ConfigL1 nf (wB v x) (x : Int) (shr64 v (8 * x)) = some (wB v 8)
  | 0, x, _, h => absurd h (Nat.not_lt_zero _)
  | nf + 1, x, hx, hf => by
    unfold blkdrv_ConfigL1 blkdrv_ConfigL1B
    by_cases h : x < 8
    · have hl := wB_len v x
      rw [bP (by omega), cFits (by rw [hl, List.length_singleton]; omega), wi_succ (by omega), shr_add]
      exact bconfigL v nf (x + 1) (by omega) (by omega)
    · rw [bN (by omega), show x = 8 by omega]
theorem bconfig_eq (n : Int) : blkdrv_Config n = some (wB (u64 (maxi n 0)) 8) := by
  have := bconfigL (u64 (maxi n 0)) fuel 0 (by omega) (by rw [fuelS]; omega)
  rw [show 8 * 0 = 0 from rfl, shr_zero] at this
  exact this
theorem rconfigL (n : Int) : ∀ (nf x : Nat), x ≤ 8 → 8 - x < nf → ref_Config22L1 n nf (wB (u64 (maxi 0 n)) x) (x : Int) = some (wB (u64 (maxi 0 n)) 8)
  | 0, x, _, h => absurd h (Nat.not_lt_zero _)
  | nf + 1, x, hx, hf => by
    unfold ref_Config22L1 ref_Config22L1B
    by_cases h : x < 8
    · have hl := wB_len (u64 (maxi 0 n)) x
      have e : (u64 (wi ((8 : Int) * (x : Int)))).toNat = 8 * x := by
        rw [show wi ((8 : Int) * (x : Int)) = ((8 * x : Nat) : Int) from by rw [wi_in (by omega) (by omega)]; omega, u64_of, UInt64.toNat_ofNat']; omega
      rw [bP (by omega), e, cFits (by rw [hl, List.length_singleton]; omega), wi_succ (by omega)]
      exact rconfigL n nf (x + 1) (by omega) (by omega)
    · rw [bN (by omega), show x = 8 by omega]
theorem rconfig_eq (n : Int) : ref_Config22 n = some (wB (u64 (maxi n 0)) 8) := by
  rw [maxi_comm n 0]
  exact rconfigL n fuel 0 (by omega) (by rw [fuelS]; omega)
theorem capL (c : List UInt8) (hc : 8 ≤ c.length) : ∀ (nf i : Nat) (x : UInt64), i ≤ 8 → i < nf → ∃ y, blkdrv_CapacityL1 c nf x ((i : Int) - 1) = some y ∧ ref_Capacity22L1 c nf x ((i : Int) - 1) = some y
  | 0, i, x, _, h => absurd h (Nat.not_lt_zero _)
  | nf + 1, i, x, hi, hn => by
    unfold blkdrv_CapacityL1 ref_Capacity22L1 blkdrv_CapacityL1B ref_Capacity22L1B
    cases i with
    | zero => exact ⟨x, by rw [bN (by omega)], by rw [bN (by omega)]⟩
    | succ i =>
      have e : (((i + 1 : Nat) : Int) - 1) = (i : Int) := by omega
      have e2 : wi ((i : Int) - 1) = (i : Int) - 1 := wi_in (by omega) (by omega)
      have g := ix_nat (getq (l := c) (i := i) (by omega))
      rw [e, bP (by omega), oS g, bP (by omega), bP (by simp only [len]; omega), oS g, e2]
      exact capL c hc nf i _ (by omega) (by omega)
theorem cap_eq (c : List UInt8) : ∃ y, blkdrv_Capacity c = some y ∧ ref_Capacity22 c = some y := by
  unfold blkdrv_Capacity ref_Capacity22
  by_cases h : len c < 8
  · refine ⟨0, by rw [bP h], ?_⟩
    rw [show fuel = 36893488147419103231 + 1 from rfl]
    unfold ref_Capacity22L1 ref_Capacity22L1B
    rw [bP (by decide), bN (by omega)]
  · rw [bN h]
    simp only [len] at h
    exact capL c (by omega) fuel 8 0 (by omega) (by rw [fuelS]; omega)
theorem callsT (l : List Seg) (w : UInt32) (raw : List UInt8) (n : Int) (x : List UInt8) (hx : flatOk 16384 x) (L2 : List Seg) (e1 e2 : Int) (hl : l.length ≤ 70) (hL : L2.length ≤ 70) (m1 : gmem_Mem) (m2 : dumbwaiterref02_Mem) (hm1 : m1.l = rg 16384) (hm2 : m2.L = rg 16384) (S : List Seg) :
    law22zBlkdrvCallsL1 l w raw n m1 m2 (S, e1, [x]) (L2, e2, [x]) fuel 0 = some true := by
  have hr := fun z => result_eq hx z w
  have hrr := fun z => rresult_eq hx z w
  obtain ⟨y, y1, y2⟩ := cap_eq raw
  have step : ∀ (K : Int → Option Bool) (i : Nat), i < 2 → K ((i + 1 : Nat) : Int) = some true → law22zBlkdrvCallsL1B l w raw n m1 m2 (S, e1, [x]) (L2, e2, [x]) K (i : Int) = some true := by
    intro K i hi hK
    have g : ∃ z, ix [l, L2] (i : Int) = some z ∧ z.length ≤ 70 := by
      rcases i with _ | _ | i
      · exact ⟨l, rfl, hl⟩
      · exact ⟨L2, rfl, hL⟩
      · omega
    obtain ⟨z, g1, g2⟩ := g
    unfold law22zBlkdrvCallsL1B
    dsimp only
    rw [bP (by simp only [len, List.length_cons, List.length_nil]; omega), oS g1, oS (ksegs22 z (by omega)), hm1, hm2, oS (hr z), oS (hrr z), cnE rfl, cnE rfl, cnE rfl, wi_succ (by omega), hK]
  have fin : ∀ (K : Int → Option Bool), law22zBlkdrvCallsL1B l w raw n m1 m2 (S, e1, [x]) (L2, e2, [x]) K 2 = some true := by
    intro K
    unfold law22zBlkdrvCallsL1B
    dsimp only
    rw [bN (by simp only [len, List.length_cons, List.length_nil]; omega), oS (bconfig_eq n), oS (rconfig_eq n), cE rfl, oS y1, oS y2, cE rfl]
  rw [show fuel = 36893488147419103229 + 3 from rfl]
  exact step _ 0 (by omega) (step _ 1 (by omega) (fin _))
theorem t_law22zBlkdrvCalls (rp0 : Req) (atp1 : UInt64) (cuts : List Int) (l : List Seg) (written : UInt32) (raw : List UInt8) (np6 : Int) : law22zBlkdrvCalls rp0 atp1 cuts l written raw np6 = some true := by
  unfold law22zBlkdrvCalls
  rw [oS lives22C, notT, notF, chkT]
  obtain ⟨b, hb, hlt⟩ := light22C rp0
  rw [oS hb]
  cases b with
  | false => rw [notF, brT]
  | true =>
    obtain ⟨h1, h2, h3⟩ := hlt rfl
    rw [notT, brF]
    by_cases hc : len cuts > 70
    · rw [bP hc]
    rw [bN hc]
    by_cases hl : len l > 70
    · rw [bP hl]
    rw [bN hl]
    by_cases hr : len raw > 6000
    · rw [bP hr]
    rw [bN hr]
    simp only [len] at hc hl hr
    have hz : flatOk 16384 (z1 16384) := z1_ok (n := 16384) (by decide) (by decide)
    have hwr := write1_eq hz 0 raw (by rw [show (0 : UInt64).toNat = 0 from rfl, show (16384 : UInt64).toNat = 16384 from rfl]; omega)
    have hx : flatOk 16384 (wrF (z1 16384) 0 raw) := wrF_ok hz (by show _ ≤ 16384; omega)
    have hrw : ref_Mem_Write02 ⟨rg 16384, [z1 16384]⟩ 0 raw = some (0, [wrF (z1 16384) 0 raw]) := by
      rw [rwrite_eq _ (flat_mem hz) _ _ (by omega)]
      by_cases h0 : raw = []
      · rw [if_pos h0, h0, wrF_nil]
      · have : 0 < raw.length := by cases raw with | nil => exact absurd rfl h0 | cons a b => simp
        rw [if_neg h0, write1, show (0 : UInt64).toNat = 0 from rfl, if_pos ⟨this, by show _ ≤ 16384; omega⟩]
    rw [show (0 : UInt64).toNat = 0 from rfl] at hwr
    have hn2 : ref_New02 (rg 16384) = some (some ⟨rg 16384, [z1 16384]⟩, 0) := by
      rw [rnew_ok (rg_good (by decide) (by decide)), zer1]; rfl
    rw [oS mem22C, oS (new1_eq (n := 16384) (by decide) (by decide))]
    dsimp only
    rw [onS, oS mem22C, oS hn2]
    dsimp only
    rw [onS, cnE rfl, cnE rfl, oS hwr, oS hrw, cnE rfl, oS (kreq22 rp0 (by omega) (by omega)), cFits (by simp; omega)]
    dsimp only
    have hcq := bcut_eq l cuts (by omega)
    have hcr := rcutQ_eq l cuts (by omega)
    have hqlen : (if goodS l then cutQ l cuts else []).length ≤ 64 := by
      by_cases hg : goodS l
      · rw [if_pos hg]; exact cutQ_len hg cuts
      · rw [if_neg hg]; simp
    -- what both lay down
    have key : ∃ (S : List Seg) (e : Int) (x : List UInt8), flatOk 16384 x ∧ S.length ≤ 64 ∧ blkdrv_Lay ⟨rg 16384, [wrF (z1 16384) 0 raw]⟩ atp1 rp0 cuts = some (S, e, [x]) ∧ ref_Lay22 ⟨rg 16384, [wrF (z1 16384) 0 raw]⟩ atp1 rp0 cuts = some (S, e, [x]) := by
      by_cases hq : okQ rp0
      · by_cases hf : 16384 < atp1.toNat + sizeQ rp0
        · exact ⟨[], 5, _, hx, by simp, lay_far hx atp1 rp0 cuts h1 h3 hq hf, rlay_far hx atp1 rp0 cuts h1 h3 hq hf⟩
        · have ea : atp1 = UInt64.ofNat atp1.toNat := (UInt64.ofNat_toNat).symm
          have l1 := lay_ok hx atp1.toNat rp0 cuts h1 h3 hq (by omega) (by omega)
          have l2 := rlay_ok hx atp1.toNat rp0 cuts h1 h3 hq (by omega) (by omega)
          rw [← ea] at l1 l2
          have hsz : sizeQ rp0 = (reqB rp0).length + rp0.Room.toNat + 1 := rfl
          have hbl := reqB_len rp0
          have hg := two_good (a := atp1.toNat) (n := (reqB rp0).length) (m := rp0.Room.toNat + 1) (by omega) (by omega) (by omega)
          refine ⟨_, _, _, ?_, ?_, l1, l2⟩
          · refine wrF_ok hx ?_
            rw [List.length_append, List.length_replicate]; show _ ≤ 16384; omega
          · exact cutQ_len hg cuts
      · exact ⟨[], 2, _, hx, by simp, lay_bad atp1 rp0 cuts h1 hq, rlay_bad atp1 rp0 cuts h1 h3 hq⟩
    obtain ⟨S, e, x, hx2, hS, k1, k2⟩ := key
    rw [oS k1, oS k2]
    dsimp only
    rw [oS (size_eq rp0 h1 h3), oS (rsize_eq rp0 h1 h3), oS (ksame_eq S S (by omega)), beqI, notT, notF, chkT, cnE rfl, cnE rfl, cnE rfl, oS (image1_eq hx2)]
    have him : ref_Mem_Image02 ⟨rg 16384, [x]⟩ = some x := by rw [rimage_eq _ (flat_mem hx2)]; simp
    rw [oS him, cnE rfl, oS (ksegs22 l (by omega)), oS hcq, oS hcr, oS (ksame_eq _ _ (by omega)), beqI, notT, notF, chkT]
    exact callsT l written raw np6 x hx2 S e e (by omega) (by omega) _ _ rfl rfl S
end Go.Proofs.Ytkmjpgfbcklopaa

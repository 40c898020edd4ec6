/- The law NetdrvCounts in plain words: it answers true. No condition. -/
import Derived.Test.YtgcbcnpbnonnjaaPuNetdrvOne
namespace Go.Proofs.Ytgcbcnpbnonnjaa
theorem lives26N : law26zlives = some true := by kernel_rfl
theorem mem26N : law26zmemory = some (rg 32768) := rfl
/-- one after the other -/
def colF (N : UInt64) (x : List UInt8) (feats : UInt64) : Nat → List (List Seg) → List UInt32 → List Frame → Int → List Frame × Int × Int
  | 0, _, _, out, n => (out, n, 0)
  | k + 1, bufs, written, out, n =>
    if bufs.length = 0 then (out, n, 0)
    else if (oneF N x feats bufs written).2.2 ≠ 0 then (out, n, (oneF N x feats bufs written).2.2)
    else colF N x feats k (bufs.drop (oneF N x feats bufs written).2.1.toNat) (written.drop (oneF N x feats bufs written).2.1.toNat) (out ++ [(oneF N x feats bufs written).1]) (n + (oneF N x feats bufs written).2.1)
theorem colL {N : UInt64} {x : List UInt8} (hx : flatOk N x) (feats : UInt64) : ∀ (nf k : Nat) (bufs : List (List Seg)) (written : List UInt32) (out : List Frame) (n : Int), bufs.length ≤ k → k < nf → bufs.length = written.length → k ≤ 1000 → out.length + k ≤ 1000 → 0 ≤ n → n + bufs.length ≤ 1000 →
    netdrv_CollectL1 ⟨rg N, [x]⟩ feats nf bufs written out n = some (colF N x feats k bufs written out n)
  | 0, k, bufs, written, out, n, _, h, _, _, _, _, _ => absurd h (Nat.not_lt_zero _)
  | nf + 1, k, bufs, written, out, n, hb, hk, he, hk2, ho, hn0, hn1 => by
    unfold netdrv_CollectL1 netdrv_CollectL1B
    by_cases h0 : bufs.length = 0
    · rw [bN (by simp only [len]; omega)]
      cases k with
      | zero => rfl
      | succ k => unfold colF; rw [if_pos h0]
    · cases k with
      | zero => omega
      | succ k =>
        rw [bP (by simp only [len]; omega), oS (one_eq hx feats bufs written (by omega) (by omega))]
        unfold colF
        rw [if_neg h0]
        by_cases h1 : (oneF N x feats bufs written).2.2 = 0
        · obtain ⟨c1, c2, c3⟩ := one_cnt h1
          generalize oneF N x feats bufs written = r at *
          rw [nE h1, if_neg (by simp [h1]), cFits (by simp only [List.length_cons, List.length_nil]; omega), cD2 (by simp only [len]; omega), cD2 (by simp only [len]; omega), sub_from, sub_from, show wi (n + r.2.1) = n + r.2.1 from wi_in (by omega) (by omega)]
          exact colL hx feats nf k _ _ _ _ (by rw [List.length_drop]; omega) (by omega) (by rw [List.length_drop, List.length_drop]; omega) (by omega) (by rw [List.length_append, List.length_singleton]; omega) (by omega) (by rw [List.length_drop]; omega)
        · rw [nF h1, if_pos h1]
theorem col_pre {N : UInt64} {x : List UInt8} {feats : UInt64} : ∀ (k : Nat) (bufs : List (List Seg)) (written : List UInt32) (out : List Frame) (n : Int), ∃ more, (colF N x feats k bufs written out n).1 = out ++ more
  | 0, bufs, written, out, n => ⟨[], by simp [colF]⟩
  | k + 1, bufs, written, out, n => by
    unfold colF
    split
    · exact ⟨[], by simp⟩
    · split
      · exact ⟨[], by simp⟩
      · obtain ⟨m, hm⟩ := col_pre (N := N) (x := x) (feats := feats) k (bufs.drop (oneF N x feats bufs written).2.1.toNat) (written.drop (oneF N x feats bufs written).2.1.toNat) (out ++ [(oneF N x feats bufs written).1]) (n + (oneF N x feats bufs written).2.1)
        exact ⟨_, by rw [hm, List.append_assoc]⟩
theorem kframe_refl (f : Frame) : kit_Frame f f = some true := by rw [kitFrame_eq]; simp
theorem ksegsN (l : List Seg) (h : l.length ≤ 1000000) : kit_Segs l = some l := by unfold kit_Segs; rw [cFits (by simp; omega)]
theorem kbufsL (l : List (List Seg)) (hl : l.length ≤ 1000) (hy : ∀ y ∈ l, y.length ≤ 1000) : ∀ (nf i : Nat), i ≤ l.length → l.length - i < nf → kit_BufsL1 l nf (l.take i) (i : Int) = some l
  | 0, i, _, h => by omega
  | nf + 1, i, hi, hn => by
    unfold kit_BufsL1 kit_BufsL1B
    by_cases h : i < l.length
    · rw [bP (by simp only [len]; omega), oS (ix_nat (getq h)), oS (ksegsN _ (by have := hy l[i] (List.getElem_mem h); omega)), cFits (by simp; omega), wi_succ (by omega)]
      have e : l.take i ++ [l[i]] = l.take (i + 1) := by rw [List.take_succ_eq_append_getElem h]
      rw [e]; exact kbufsL l hl hy nf (i + 1) (by omega) (by omega)
    · rw [bN (by simp only [len]; omega), List.take_of_length_le (by omega)]
theorem kbufs_eq (l : List (List Seg)) (hl : l.length ≤ 1000) (hy : ∀ y ∈ l, y.length ≤ 1000) : kit_Bufs l = some l := by
  have := kbufsL l hl hy fuel 0 (by omega) (by unfold fuel; omega)
  rw [List.take_zero] at this
  exact this
theorem klightL (l : List (List Seg)) (hl : l.length ≤ 1000) : ∀ (nf i : Nat), i ≤ l.length → l.length - i < nf → ∃ b, kit_LightBufsL1 l 20 nf (i : Int) = some b ∧ (b = true → ∀ y ∈ l.drop i, y.length ≤ 20)
  | 0, i, _, h => by omega
  | nf + 1, i, hi, hn => by
    unfold kit_LightBufsL1 kit_LightBufsL1B
    by_cases h : i < l.length
    · have hd : l.drop i = l[i] :: l.drop (i + 1) := drop_ix h
      rw [hd, bP (by simp only [len]; omega), oS (ix_nat (getq h))]
      by_cases h2 : len l[i] > 20
      · rw [bP h2]; exact ⟨false, rfl, fun q => by cases q⟩
      · rw [bN h2, wi_succ (by omega)]
        obtain ⟨b, h3, h4⟩ := klightL l hl nf (i + 1) (by omega) (by omega)
        refine ⟨b, h3, fun q y hy => ?_⟩
        rcases List.mem_cons.1 hy with e | e
        · subst e; simp only [len] at h2; omega
        · exact h4 q y e
    · rw [bN (by simp only [len]; omega), List.drop_of_length_le (by omega)]
      exact ⟨true, rfl, fun _ y hy => by cases hy⟩
theorem klight_eq (l : List (List Seg)) : ∃ b, kit_LightBufs l 20 20 = some b ∧ (b = true → l.length ≤ 20 ∧ ∀ y ∈ l, y.length ≤ 20) := by
  unfold kit_LightBufs
  by_cases h : len l > 20
  · rw [bP h]; exact ⟨false, rfl, fun q => by cases q⟩
  · rw [bN h]
    simp only [len] at h
    obtain ⟨b, h1, h2⟩ := klightL l (by omega) fuel 0 (by omega) (by unfold fuel; omega)
    exact ⟨b, h1, fun q => ⟨by omega, by simpa using h2 q⟩⟩
theorem countsL {x : List UInt8} (hx : flatOk 32768 x) (l : List (List Seg)) (written : List UInt32) (feats : UInt64) (mem : gmem_Mem) (hm : mem.l = rg 32768) (e : Int) (hl : l.length ≤ 20) (hy : ∀ y ∈ l, y.length ≤ 20) (he : l.length = written.length) (R : List Frame × Int × Int) :
    ∀ (nf k a i : Nat) (out : List Frame), a ≤ l.length → l.length - a ≤ k → k < nf → out.length = i → i ≤ a → R = colF 32768 x feats k (l.drop a) (written.drop a) out (a : Int) →
      law26zNetdrvCountsL1 l written feats mem (e, [x]) R nf (a : Int) (i : Int) = some true
  | 0, k, a, i, out, _, _, h, _, _, _ => absurd h (Nat.not_lt_zero _)
  | nf + 1, k, a, i, out, ha, hk, hn, ho, hia, hR => by
    unfold law26zNetdrvCountsL1 law26zNetdrvCountsL1B
    by_cases h : a < l.length
    · cases k with
      | zero => omega
      | succ k =>
        have hdl : (l.drop a).length = l.length - a := List.length_drop ..
        have hdw : (written.drop a).length = written.length - a := List.length_drop ..
        dsimp only
        rw [bP (by simp only [len]; omega), cD2 (by simp only [len]; omega), sub_from, sub_from, Int.toNat_natCast, oS (kbufs_eq _ (by omega) (fun y hy' => by have := hy y (List.mem_of_mem_drop hy'); omega)), cD2 (by simp only [len]; omega), cFits (by rw [hdw]; simp; omega), hm]
        rw [oS (one_eq hx feats (l.drop a) (written.drop a) (by omega) (by omega))]
        unfold colF at hR
        rw [if_neg (by omega)] at hR
        by_cases h1 : (oneF 32768 x feats (l.drop a) (written.drop a)).2.2 = 0
        · obtain ⟨c1, c2, c3⟩ := one_cnt h1
          rw [if_neg (by simp [h1])] at hR
          obtain ⟨more, hmore⟩ := col_pre (N := 32768) (x := x) (feats := feats) k ((l.drop a).drop (oneF 32768 x feats (l.drop a) (written.drop a)).2.1.toNat) ((written.drop a).drop (oneF 32768 x feats (l.drop a) (written.drop a)).2.1.toNat) (out ++ [(oneF 32768 x feats (l.drop a) (written.drop a)).1]) ((a : Int) + (oneF 32768 x feats (l.drop a) (written.drop a)).2.1)
          rw [← hR] at hmore
          generalize oneF 32768 x feats (l.drop a) (written.drop a) = r at *
          obtain ⟨c, hc⟩ : ∃ c : Nat, r.2.1 = (c : Int) := ⟨r.2.1.toNat, by omega⟩
          rw [hc, Int.toNat_natCast, List.drop_drop, List.drop_drop] at hR
          have hgi : R.1[i]? = some r.1 := by
            rw [hmore, List.append_assoc, List.getElem?_append_right (by omega), ho, Nat.sub_self]; rfl
          have hil : i < R.1.length := (List.getElem?_eq_some_iff.1 hgi).1
          rw [nE h1, cN (by omega), cN (by simp only [len]; omega), oS (ix_nat hgi), oS (kframe_refl _), notT, notF, chkT, hc]
          rw [show wi ((a : Int) + (c : Int)) = ((a + c : Nat) : Int) from by rw [wi_in (by omega) (by omega)]; omega, wi_succ (by omega)]
          exact countsL hx l written feats mem hm e hl hy he R nf k (a + c) (i + 1) (out ++ [r.1]) (by omega) (by omega) (by omega) (by rw [List.length_append, ho]; rfl) (by omega) (by rw [hR]; rfl)
        · rw [if_pos h1] at hR
          rw [nF h1, hR]
          dsimp only
          rw [cE rfl, cE rfl, cE (by simp only [len, ho])]
    · have hal : l.drop a = [] := List.drop_of_length_le (by omega)
      have hR2 : R = (out, (a : Int), 0) := by
        rw [hR, hal]
        cases k with
        | zero => rfl
        | succ k => unfold colF; rw [if_pos (show ([] : List (List Seg)).length = 0 from rfl)]
      rw [bN (by simp only [len]; omega), hR2]
      dsimp only
      rw [cE rfl, cE rfl, cE (by simp only [len, ho])]
theorem t_law26zNetdrvCounts (raw : List UInt8) (l : List (List Seg)) (written : List UInt32) (feats : UInt64) : law26zNetdrvCounts raw l written feats = some true := by
  unfold law26zNetdrvCounts
  rw [oS lives26N, notT, notF, chkT]
  by_cases hr : len raw > 6000
  · rw [bP hr]
  rw [bN hr]
  obtain ⟨b, hb, hlt⟩ := klight_eq l
  rw [oS hb]
  cases b with
  | false => rw [notF, brT]
  | true =>
    obtain ⟨hl, hy⟩ := hlt rfl
    rw [notT, brF]
    by_cases hw : len written > 20
    · rw [bP hw]
    rw [bN hw]
    simp only [len] at hr hw
    have hz : flatOk 32768 (z1 32768) := z1_ok (n := 32768) (by decide) (by decide)
    have hwr := write1_eq hz 0 raw (by rw [show (0 : UInt64).toNat = 0 from rfl, show (32768 : UInt64).toNat = 32768 from rfl]; omega)
    have hx : flatOk 32768 (wrF (z1 32768) 0 raw) := wrF_ok hz (by show _ ≤ 32768; omega)
    rw [show (0 : UInt64).toNat = 0 from rfl] at hwr
    rw [oS mem26N, oS (new1_eq (n := 32768) (by decide) (by decide))]
    dsimp only
    rw [onS, cnE rfl, oS hwr, cnE rfl, oS (kbufs_eq l (by omega) (fun y hy' => by have := hy y hy'; omega)), cFits (by simp; omega)]
    dsimp only
    by_cases he : l.length = written.length
    · have hcol : netdrv_Collect ⟨rg 32768, [wrF (z1 32768) 0 raw]⟩ feats l written = some (colF 32768 (wrF (z1 32768) 0 raw) feats 20 l written [] 0) := by
        unfold netdrv_Collect
        rw [nE (by simp only [len]; omega)]
        exact colL hx feats fuel 20 l written [] 0 hl (by rw [fuelS]; omega) he (by omega) (by simp) (by omega) (by omega)
      rw [oS hcol, nE (by simp only [len]; omega)]
      exact countsL hx l written feats _ rfl 0 hl hy he _ fuel 20 0 0 [] (Nat.zero_le _) (by omega) (by rw [fuelS]; omega) rfl (Nat.le_refl _) rfl
    · have hcol : netdrv_Collect ⟨rg 32768, [wrF (z1 32768) 0 raw]⟩ feats l written = some ([], 0, 2) := by
        unfold netdrv_Collect
        rw [nF (by simp only [len]; omega)]
      rw [oS hcol, nF (by simp only [len]; omega), cE rfl, cE rfl, cE (show len ([] : List Frame) = 0 from rfl)]
end Go.Proofs.Ytgcbcnpbnonnjaa

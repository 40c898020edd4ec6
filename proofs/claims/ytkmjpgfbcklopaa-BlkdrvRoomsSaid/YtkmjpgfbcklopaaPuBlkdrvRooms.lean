/- The law BlkdrvRooms in plain words: it answers true. No condition. -/
import Derived.Test.YtkmjpgfbcklopaaPuBlkdrvLay
namespace Go.Proofs.Ytkmjpgfbcklopaa
theorem lives22R : law22zlives = some true := by kernel_rfl
theorem mem22 : law22zmemory = some (rg 16384) := rfl
theorem fill_app {x a b : List UInt8} {i : Nat} : (x.take i ++ a ++ b) ++ x.drop (i + (a ++ b).length) = wrF x i (a ++ b) := by
  unfold wrF; simp [List.append_assoc]
theorem wrF_whole {x xs : List UInt8} (h : xs.length = x.length) : wrF x 0 xs = xs := by
  unfold wrF
  rw [List.take_zero, List.nil_append, List.drop_of_length_le (by omega), List.append_nil]
/-- segments from a place on to an end, written from E on -/
def runS (E : Nat) : Nat → List Seg → Nat → Prop
  | n, [], e => n = e
  | n, s :: c, e => s.At.toNat = n ∧ s.Write = decide (E ≤ n) ∧ (n < E → n + s.Len.toNat ≤ E) ∧ n + s.Len.toNat ≤ 100000000 ∧ runS E (n + s.Len.toNat) c e
theorem cov_run {E : Nat} {c l : List Seg} (h : Cov c l) : ∀ (n e : Nat), runS E n l e → runS E n c e := by
  induction h with
  | nil => intro n e h; exact h
  | whole x c l _ ih =>
    intro n e h
    obtain ⟨h1, h2, h3, h4, h5⟩ := h
    exact ⟨h1, h2, h3, h4, ih _ _ h5⟩
  | part x y c l e1 e2 e3 e4 _ ih =>
    intro n e h
    obtain ⟨h1, h2, h3, h4, h5⟩ := h
    refine ⟨by rw [e1]; exact h1, by rw [e2]; exact h2, fun q => by have := h3 q; omega, by omega, ih _ _ ⟨?_, ?_, ?_, ?_, ?_⟩⟩
    · rw [tl_at e4 (by omega)]; omega
    · show y.Write = _
      rw [h2, decide_eq_decide]
      constructor
      · intro q; omega
      · intro q
        rcases Nat.lt_or_ge n E with z | z
        · have := h3 z; omega
        · exact z
    · intro q; rw [tl_len]; have := h3 (by omega); omega
    · rw [tl_len]; omega
    · rw [tl_len, show n + x.Len.toNat + (y.Len.toNat - x.Len.toNat) = n + y.Len.toNat by omega]; exact h5
theorem two_run {a n m : Nat} (h1 : 0 < n) (h2 : 0 < m) (h : a + n + m ≤ 100000) : runS (a + n) a (twoS a n m) (a + n + m) := by
  have e1 := n32' (n := n) (by omega)
  have e2 := n32' (n := m) (by omega)
  have e3 := n64' (n := a) (by omega)
  have e4 := n64' (n := a + n) (by omega)
  refine ⟨e3, ?_, ?_, ?_, ?_, ?_, ?_, ?_, ?_⟩
  · show false = _; rw [decide_eq_false (by omega)]
  · intro _; dsimp only; omega
  · dsimp only; omega
  · dsimp only; rw [e4, e1]
  · show true = _; rw [decide_eq_true (by dsimp only; omega)]
  · intro q; dsimp only at q ⊢; omega
  · dsimp only; omega
  · show _ + _ + _ = _; dsimp only; omega
theorem roomsT (sz : Int × Int) (p : Int) (lay : List Seg × Int × List (List UInt8)) (by1 : List UInt8 × Int) (E e : Nat) (hl : lay.1.length ≤ 1000) (hE : u64 (wi (p + len by1.1)) = UInt64.ofNat E) (hE2 : E ≤ 100000000) (he : u64 (wi (p + sz.1)) = UInt64.ofNat e) : ∀ (nf i n : Nat), i ≤ lay.1.length → lay.1.length - i < nf → n ≤ 100000000 → runS E n (lay.1.drop i) e → law22zBlkdrvRoomsL2 sz p lay by1 nf (UInt64.ofNat n) (i : Int) = some true
  | 0, i, n, _, h, _, _ => absurd h (Nat.not_lt_zero _)
  | nf + 1, i, n, hi, hn, hnn, hr => by
    unfold law22zBlkdrvRoomsL2 law22zBlkdrvRoomsL2B
    by_cases h : i < lay.1.length
    · rw [drop_ix h] at hr
      obtain ⟨h1, h2, h3, h4, h5⟩ := hr
      have g := ix_nat (getq h)
      have eA : lay.1[i].At = UInt64.ofNat n := by rw [← h1, UInt64.ofNat_toNat]
      have eL : UInt64.ofNat n + lay.1[i].Len.toUInt64 = UInt64.ofNat (n + lay.1[i].Len.toNat) := by rw [add64]
      have eW : decide (UInt64.ofNat n ≥ UInt64.ofNat E) = decide (E ≤ n) := by
        rw [decide_eq_decide, GE.ge, le64, n64' (by omega), n64' (by omega)]
      rw [bP (by simp only [len]; omega)]
      simp only [g, obS, hE, eW, eL, wi_succ (show i < 9223372036854775807 by omega)]
      rw [cnE eA, cnE h2]
      exact roomsT sz p lay by1 E e hl hE hE2 he nf (i + 1) _ (by omega) (by omega) h4 h5
    · rw [bN (by simp only [len]; omega)]
      rw [List.drop_of_length_le (by omega)] at hr
      rw [he, cE (by rw [show n = e from hr])]
theorem kreq_eq (r : Req) (h1 : r.Data.length ≤ 1000000) (h2 : r.Ranges.length ≤ 1000) : kit_Req r = some r := by
  unfold kit_Req
  rw [oS (own_eq _ (by omega)), cFits (by simp; omega)]
theorem roomsFill (ap : Int) (cuts : List Int) (v : UInt8) (sz : Int × Int) (mem : gmem_Mem) (t : UInt32) (se : UInt64) (da : List UInt8) (ro : Int) (rs : List Range) : ∀ (nf i : Nat), i ≤ 16384 → 16384 - i < nf →
    ∃ K, law22zBlkdrvRoomsL1 ap cuts v sz mem nf t se da ro rs (List.replicate i v) (i : Int) = law22zBlkdrvRoomsL1B ap cuts v sz mem K t se da ro rs (List.replicate 16384 v) (16384 : Int)
  | 0, i, _, h => absurd h (Nat.not_lt_zero _)
  | nf + 1, i, hi, hn => by
    by_cases h : i < 16384
    · obtain ⟨K, ih⟩ := roomsFill ap cuts v sz mem t se da ro rs nf (i + 1) (by omega) (by omega)
      refine ⟨K, ?_⟩
      unfold law22zBlkdrvRoomsL1
      rw [← ih]
      conv => lhs; unfold law22zBlkdrvRoomsL1B
      rw [bP (by omega), cFits (by simp; omega), wi_succ (by omega), List.replicate_succ']
    · have : i = 16384 := by omega
      subst this
      exact ⟨_, rfl⟩
theorem roomsAll (ap : Int) (cuts : List Int) (v : UInt8) (r : Req) (h1 : r.Data.length ≤ 6000) (h2 : r.Ranges.length ≤ 40) (h3 : r.Room ≤ 6000) (hc : cuts.length ≤ 70) (K : UInt32 → UInt64 → List UInt8 → Int → List Range → List UInt8 → Int → Option Bool) :
    law22zBlkdrvRoomsL1B ap cuts v (if okQ r then ((sizeQ r : Nat) : Int) else 0, if okQ r then 0 else 2) ⟨rg 16384, [z1 16384]⟩ K r.Type_ r.Sector r.Data r.Room r.Ranges (List.replicate 16384 v) (16384 : Int) = some true := by
  have hx : flatOk 16384 (List.replicate 16384 v) := ⟨by decide, by decide, by rw [List.length_replicate]; rfl⟩
  have hwr := write1_eq (z1_ok (n := 16384) (by decide) (by decide)) 0 (List.replicate 16384 v) (by rw [List.length_replicate]; decide)
  rw [show (0 : UInt64).toNat = 0 from rfl, wrF_whole (by unfold z1; rw [List.length_replicate, List.length_replicate]; rfl)] at hwr
  obtain ⟨k, hk1, hk2⟩ := pick_eq ap 16384 (by decide) (by decide)
  replace hk1 : kit_Pick ap 16384 = some (k : Int) := hk1
  generalize hfill : List.replicate 16384 v = fill at *
  have hfl : fill.length = 16384 := hx.2.2
  have er : Req.mk r.Type_ r.Sector r.Data r.Room r.Ranges = r := rfl
  unfold law22zBlkdrvRoomsL1B
  rw [bN (by omega), oS hwr, cnE rfl, oS hk1, er, oS (kreq_eq r (by omega) (by omega)), u64_of]
  dsimp only
  by_cases hq : okQ r
  · obtain ⟨q1, q2, q3⟩ := hq
    have hq : okQ r := ⟨q1, q2, q3⟩
    have hl := reqB_len r
    have hsz : sizeQ r = (reqB r).length + r.Room.toNat + 1 := rfl
    simp only [if_pos hq]
    have w1 : wi ((k : Int) + ((sizeQ r : Nat) : Int)) = ((k + sizeQ r : Nat) : Int) := by rw [wi_in (by omega) (by omega)]; omega
    by_cases hf : 16384 < k + sizeQ r
    · rw [oS (lay_far hx (UInt64.ofNat k) r cuts h1 h3 hq (by rw [n64' (by omega)]; exact hf))]
      dsimp only
      rw [oS (image1_eq hx), nE rfl, w1, bP (by omega), cF (by decide), cE rfl]
    · have e4 : wi (r.Room + 1) = ((r.Room.toNat + 1 : Nat) : Int) := by rw [wi_in (by omega) (by omega)]; omega
      have hwl : (reqB r ++ List.replicate (r.Room.toNat + 1) (0 : UInt8)).length = sizeQ r := by rw [List.length_append, List.length_replicate]; omega
      have s0 : sub fill (0 : Int) (k : Int) = fill.take k := by rw [sub_to, Int.toNat_natCast]
      have s1 : sub fill ((k + sizeQ r : Nat) : Int) (len fill) = fill.drop (k + sizeQ r) := by rw [sub_from, Int.toNat_natCast]
      have wF : (fill.take k ++ reqB r ++ List.replicate (r.Room.toNat + 1) (0 : UInt8)) ++ fill.drop (k + sizeQ r) = wrF fill k (reqB r ++ List.replicate (r.Room.toNat + 1) 0) := by
        rw [← fill_app, hwl]
      rw [oS (lay_ok hx k r cuts h1 h3 hq (by omega) (by omega))]
      dsimp only
      rw [oS (image1_eq (wrF_ok hx (by rw [hwl]; show _ ≤ 16384; omega))), nE rfl, w1, bN (by omega), oS (refBytes21_eq r (by omega)), if_pos hq]
      dsimp only
      rw [e4, Int.toNat_natCast, s0, s1, cD' (by simp only [len]; omega), cD' (by simp only [List.length_take]; omega), cD' (by omega), cD' (by simp only [List.length_append, List.length_take, List.length_replicate]; omega), cD' (by simp only [len]; omega), cD' (by simp only [List.length_append, List.length_take, List.length_replicate, List.length_drop]; omega), cnE rfl, cnE rfl, cnE wF.symm]
      have hg := two_good (a := k) (n := (reqB r).length) (m := r.Room.toNat + 1) (by omega) (by omega) (by omega)
      have hrun := cov_run (cov_cutQ hg cuts) _ _ (two_run (a := k) (n := (reqB r).length) (m := r.Room.toNat + 1) (by omega) (by omega) (by omega))
      have hlc := cutQ_len hg cuts
      refine roomsT _ _ _ _ (k + (reqB r).length) (k + (reqB r).length + (r.Room.toNat + 1)) (by dsimp only; omega) ?_ (by omega) ?_ fuel 0 k (Nat.zero_le _) (by rw [fuelS]; dsimp only; omega) (by omega) hrun
      · dsimp only
        rw [show wi ((k : Int) + len (reqB r)) = ((k + (reqB r).length : Nat) : Int) from by simp only [len]; rw [wi_in (by omega) (by omega)]; omega, u64_of]
      · dsimp only
        rw [w1, u64_of, hsz, Nat.add_assoc, Nat.add_assoc]
  · simp only [if_neg hq]
    rw [oS (lay_bad _ r cuts h1 hq)]
    dsimp only
    rw [oS (image1_eq hx), nF (by decide), cF (by decide), cE rfl]
theorem light_eq22 (r : Req) : ∃ b, kit_LightReq r 6000 = some b ∧ (b = true → r.Data.length ≤ 6000 ∧ r.Ranges.length ≤ 40 ∧ r.Room ≤ 6000) := by
  unfold kit_LightReq
  by_cases h1 : len r.Data ≤ 6000
  · rw [bP h1]
    by_cases h2 : len r.Ranges ≤ 40
    · rw [bP h2]
      refine ⟨_, rfl, fun q => ?_⟩
      simp only [len] at h1 h2
      have := of_decide_eq_true q
      omega
    · rw [bN h2]; exact ⟨false, rfl, fun q => by cases q⟩
  · rw [bN h1]; exact ⟨false, rfl, fun q => by cases q⟩
theorem t_law22zBlkdrvRooms (rp0 : Req) (atp1 : Int) (cuts : List Int) (vp3 : UInt8) : law22zBlkdrvRooms rp0 atp1 cuts vp3 = some true := by
  unfold law22zBlkdrvRooms
  rw [oS lives22R, notT, notF, chkT]
  obtain ⟨b, hb, hlt⟩ := light_eq22 rp0
  rw [oS hb]
  cases b with
  | false => rw [notF, brT]
  | true =>
    obtain ⟨h1, h2, h3⟩ := hlt rfl
    rw [notT, brF]
    by_cases hc : len cuts > 70
    · rw [bP hc]
    · rw [bN hc, oS (size_eq rp0 h1 h3), oS mem22, oS (new1_eq (n := 16384) (by decide) (by decide))]
      simp only [len] at hc
      dsimp only
      rw [onS, cnE rfl]
      obtain ⟨K, hK⟩ := roomsFill atp1 cuts vp3 (if okQ rp0 then ((sizeQ rp0 : Nat) : Int) else 0, if okQ rp0 then 0 else 2) ⟨rg 16384, [z1 16384]⟩ rp0.Type_ rp0.Sector rp0.Data rp0.Room rp0.Ranges fuel 0 (by omega) (by rw [fuelS]; omega)
      exact hK.trans (roomsAll atp1 cuts vp3 rp0 h1 h2 h3 (by omega) K)
end Go.Proofs.Ytkmjpgfbcklopaa

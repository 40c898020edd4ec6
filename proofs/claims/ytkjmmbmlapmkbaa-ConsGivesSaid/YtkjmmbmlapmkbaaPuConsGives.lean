/- The law ConsGives in plain words. No condition. -/
import Derived.Test.YtkjmmbmlapmkbaaPuCons
namespace Go.Proofs.Ytkjmmbmlapmkbaa
theorem lives28 : law28zlives = some true := by kernel_rfl
def asI (l : List Nat) : List Int := l.map fun n : Nat => (n : Int)
theorem asI_len (l : List Nat) : (asI l).length = l.length := by simp [asI]
theorem asI_get {l : List Nat} {i : Nat} (h : i < l.length) : ix (asI l) (i : Int) = some ((l[i] : Nat) : Int) := ix_nat (by simp [asI, getq h])
theorem roomsL : ∀ (l : List Nat) (L : List Nat) (i a nf : Nat) (out : List (List Seg)), L.drop i = l → okL l → L.length ≤ 1000 → a + sumL l ≤ 100000 → l.length < nf → out.length = i →
    law28zroomsL1 (asI L) nf (UInt64.ofNat a) out (i : Int) = some (out ++ roomsF a l)
  | l, L, i, a, 0, out, _, _, _, _, h, _ => absurd h (Nat.not_lt_zero _)
  | [], L, i, a, nf + 1, out, hd, hok, hL, hs, hf, ho => by
    have := drop_end hd
    unfold law28zroomsL1 law28zroomsL1B
    rw [bN (by simp only [len, asI_len]; omega)]; simp [roomsF]
  | n :: l, L, i, a, nf + 1, out, hd, hok, hL, hs, hf, ho => by
    obtain ⟨d1, d2, d3⟩ := drop_get hd
    obtain ⟨hn, hok2⟩ := okL_c hok
    rw [sumL_c] at hs
    have g : ix (asI L) (i : Int) = some (n : Int) := by
      rw [asI_get d1]
      have : L[i] = n := by rw [getq d1] at d2; injection d2
      rw [this]
    unfold law28zroomsL1 law28zroomsL1B
    have e1 : u32 (n : Int) = UInt32.ofNat n := by unfold u32; rw [show ((n : Int) % 4294967296).toNat = n by omega]
    rw [bP (by simp only [len, asI_len]; omega), oS g, cFits (by simp; omega), oS g, u64_of, ← UInt64.ofNat_add, e1, wi_succ (by omega)]
    have ih := roomsL l L (i + 1) (a + n) nf (out ++ [bufR a n]) d3 hok2 hL (by omega) (by simp at hf; omega) (by simp [ho])
    rw [show out ++ [[⟨UInt64.ofNat a, UInt32.ofNat n, true⟩]] = out ++ [bufR a n] from rfl, ih]
    simp [roomsF]
theorem rooms_eq (L : List Nat) (hok : okL L) (hL : L.length ≤ 1000) (hs : sumL L ≤ 100000) : law28zrooms (asI L) = some (roomsF 0 L) := by
  unfold law28zrooms
  exact roomsL L L 0 0 fuel [] (by rw [List.drop_zero]) hok hL (by omega) (by rw [fuelS]; omega) rfl
/-- the sizes -/
theorem fillL (b : List UInt8) (sizes : List Int) (v : UInt8) (m : gmem_Mem) : ∀ (nf i : Nat), i ≤ 16384 → 16384 - i < nf →
    law28zConsGivesL1 b sizes v m nf (List.replicate i v) (i : Int) = (ob (gmem_Mem_Write m (0 : UInt64) (List.replicate 16384 v)) fun write1 => chk (!(write1.1 != (0 : Int))) <| law28zConsGivesL2 b sizes m write1 fuel (List.replicate 16384 v) [] (0 : Int))
  | 0, i, _, h => absurd h (Nat.not_lt_zero _)
  | nf + 1, i, hi, hf => by
    unfold law28zConsGivesL1 law28zConsGivesL1B
    by_cases h : i < 16384
    · rw [bP (by omega), cFits (by simp; omega), wi_succ (by omega), ← List.replicate_succ']
      exact fillL b sizes v m nf (i + 1) (by omega) (by omega)
    · have : i = 16384 := by omega
      subst this
      rw [bN (by omega)]
theorem okL_sum : ∀ l : List Nat, okL l → sumL l ≤ 700 * l.length
  | [], _ => Nat.le_refl _
  | n :: l, h => by
    obtain ⟨h1, h2⟩ := okL_c h
    have := okL_sum l h2
    rw [sumL_c, List.length_cons]; omega
theorem L4 (b l1 : List UInt8) (L : List Nat) (g : Stream × List UInt32 × Int × List (List UInt8)) (n1 : Int) (im : List UInt8) : ∀ (l : List Nat) (i a nf : Nat), L.drop i = l → L.length ≤ 1000 → a + sumL l ≤ 100000 → l.length < nf →
    law28zConsGivesL4 b l1 (asI L) g n1 im nf (a : Int) (i : Int) = (chk (n1 == (mini (len b) ((a + sumL l : Nat) : Int))) <|
  chk (decide (0 ≤ n1 ∧ n1 ≤ (len b) ∧ (len b) ≤ len b)) <|
  chk (g.1.Wait == (sub b n1 (len b))) <|
  chk (decide (0 ≤ (0 : Int) ∧ (0 : Int) ≤ n1 ∧ n1 ≤ len im)) <|
  chk (decide (0 ≤ (0 : Int) ∧ (0 : Int) ≤ n1 ∧ n1 ≤ len b)) <|
  chk ((sub im (0 : Int) n1) == (sub b (0 : Int) n1)) <|
  chk (decide (0 ≤ n1 ∧ n1 ≤ (len im) ∧ (len im) ≤ len im)) <|
  chk (decide (0 ≤ n1 ∧ n1 ≤ (len l1) ∧ (len l1) ≤ len l1)) <|
  chk ((sub im n1 (len im)) == (sub l1 n1 (len l1))) <|
  some true)
  | l, i, a, 0, _, _, _, h => absurd h (Nat.not_lt_zero _)
  | [], i, a, nf + 1, hd, hL, hs, hf => by
    have := drop_end hd
    unfold law28zConsGivesL4 law28zConsGivesL4B
    rw [bN (by simp only [len, asI_len]; omega)]; rfl
  | n :: l, i, a, nf + 1, hd, hL, hs, hf => by
    obtain ⟨d1, d2, d3⟩ := drop_get hd
    rw [sumL_c] at hs ⊢
    have g2 : ix (asI L) (i : Int) = some (n : Int) := by
      rw [asI_get d1]
      have : L[i] = n := by rw [getq d1] at d2; injection d2
      rw [this]
    have e : wi ((a : Int) + (n : Int)) = ((a + n : Nat) : Int) := by rw [wi_in (by omega) (by omega)]; omega
    unfold law28zConsGivesL4 law28zConsGivesL4B
    rw [bP (by simp only [len, asI_len]; omega), oS g2, e, wi_succ (by omega), L4 b l1 L g n1 im l (i + 1) (a + n) nf d3 hL (by omega) (by simp at hf; omega), Nat.add_assoc]
theorem stepN {n k : Nat} (hn : n ≤ 200000) (hk : k ≤ 200000) : wi ((n : Int) + i32 (UInt32.ofNat k)) = ((n + k : Nat) : Int) := by
  unfold i32; rw [n32 (by omega), wi_in (by omega) (by omega)]; omega
theorem L3 (b : List UInt8) (m : gmem_Mem) (l1 : List UInt8) (L : List Nat) (hokL : okL L) (hL : L.length ≤ 20) (g : Stream × List UInt32 × Int × List (List UInt8)) (hg : g.2.1.length ≤ 20) : ∀ (l : List Nat) (a i left n nf : Nat), (roomsF 0 L).drop i = roomsF a l → g.2.1.drop i = (outF left l).map UInt32.ofNat → okL l → a + sumL l ≤ 16384 → left ≤ 100000 → n + sumL l ≤ 100000 → l.length < nf →
    law28zConsGivesL3 b m l1 (asI L) g nf (n : Int) (i : Int) = (ob (gmem_Mem_Image (gmem_Mem.mk m.l g.2.2.2)) fun image1 => law28zConsGivesL4 b l1 (asI L) g ((n + min left (sumL l) : Nat) : Int) image1 fuel (0 : Int) (0 : Int))
  | l, a, i, left, n, 0, _, _, _, _, _, _, h => absurd h (Nat.not_lt_zero _)
  | l, a, i, left, n, nf + 1, hd, hq, hok, hs, hl, hn, hf => by
    have hsL := okL_sum L hokL
    unfold law28zConsGivesL3 law28zConsGivesL3B
    by_cases e : g.2.1.length ≤ i
    · have z : min left (sumL l) = 0 := by
        rw [List.drop_of_length_le e] at hq
        match l, hq, hok with
        | [], _, _ => simp [sumL]
        | k :: l, hq, _ =>
          by_cases h0 : left = 0
          · omega
          · unfold outF at hq; rw [if_neg h0] at hq; cases hq
      rw [bN (by simp only [len]; omega), z, Nat.add_zero]
    · match l, hd, hq, hok, hs, hn, hf with
      | [], hd, hq, hok, hs, hn, hf => exact absurd (drop_end (by simpa [outF] using hq)) e
      | k :: l, hd, hq, hok, hs, hn, hf =>
        have h0 : left ≠ 0 := fun q => by rw [q, out0] at hq; exact e (drop_end hq)
        have e3 : outF left (k :: l) = min left k :: outF (left - min left k) l := by
          conv => lhs; unfold outF
          rw [if_neg h0]
        rw [e3, List.map_cons] at hq
        obtain ⟨d1, d2, d3⟩ := drop_get hd
        obtain ⟨q1, q2, q3⟩ := drop_get hq
        obtain ⟨hk, hok2⟩ := okL_c hok
        rw [sumL_c] at hs hn ⊢
        have gi := ix_nat q2
        have t32 : (UInt32.ofNat (min left k)).toNat = min left k := n32 (by omega)
        have t64 : (UInt32.ofNat (min left k)).toUInt64 = UInt64.ofNat (min left k) := by
          apply UInt64.toNat_inj.1; rw [UInt32.toNat_toUInt64, t32, n64 (by omega)]
        have nz : UInt32.ofNat (min left k) ≠ 0 := fun q => by
          have := congrArg UInt32.toNat q; rw [t32] at this; simp at this; omega
        have ih := L3 b m l1 L hokL hL g hg l (a + k) (i + 1) (left - min left k) (n + min left k) nf d3 q3 hok2 (by omega) (by omega) (by omega) (by simp at hf; omega)
        have e2 : n + min left k + min (left - min left k) (sumL l) = n + min left (k + sumL l) := by omega
        rw [e2] at ih
        rw [bP (by simp only [len]; omega), oS (rooms_eq L hokL (by omega) (by omega)), oS (ix_nat d2), oS (refTotal _), buf_tot hk (by omega)]
        dsimp only
        rw [oS gi, t64, cnQ (decide_eq_false (by rw [GT.gt, lt64, n64 (by omega), n64 (by omega)]; omega)) rfl]
        have ew : wi (len g.2.1 - 1) = ((g.2.1.length - 1 : Nat) : Int) := by simp only [len]; rw [wi_in (by omega) (by omega)]; omega
        rw [ew, wi_succ (by omega)]
        by_cases c : i < g.2.1.length - 1
        · have full : min left k = k := by
            have hh := congrArg List.length q3
            rw [List.length_drop, List.length_map] at hh
            by_cases z : left ≤ k
            · rw [show left - min left k = 0 by omega, out0] at hh; simp at hh; omega
            · omega
          rw [bP (by omega), oS gi, t64, cnQ (bneF (by rw [full])) rfl, oS gi, cnF nz, oS gi, stepN (by omega) (by omega)]
          exact ih
        · rw [bN (by omega), oS gi, cnF nz, oS gi, stepN (by omega) (by omega)]
          exact ih
theorem sizesL (b : List UInt8) (hb : b.length ≤ 4096) (sizes : List Int) (hz : sizes.length ≤ 20) (v : UInt8) (x : List UInt8) (hx : flatOk 16384 x) (bb : List (List UInt8)) (e0 : Int) (hv : x = List.replicate 16384 v) : ∀ (nf i : Nat) (L : List Nat), i ≤ sizes.length → sizes.length - i < nf → L.length = i → okL L →
    law28zConsGivesL2 b sizes ⟨rg 16384, bb⟩ (e0, [x]) nf x (asI L) (i : Int) = some true
  | 0, i, L, _, h, _, _ => absurd h (Nat.not_lt_zero _)
  | nf + 1, i, L, hi, hf, hL, hok => by
    unfold law28zConsGivesL2 law28zConsGivesL2B
    by_cases h : i < sizes.length
    · obtain ⟨k, ek, hk⟩ := pick_eq sizes[i] 700 (by decide) (by decide)
      have e1 : wi (1 + (k : Int)) = ((1 + k : Nat) : Int) := by rw [wi_in (by omega) (by omega)]; omega
      have e2 : asI L ++ [((1 + k : Nat) : Int)] = asI (L ++ [1 + k]) := by simp [asI]
      rw [bP (by simp only [len]; omega), oS (ix_nat (getq h)), oS (show kit_Pick sizes[i] 700 = some (k : Int) from ek), cFits (by rw [asI_len]; simp; omega), e1, e2, wi_succ (by omega)]
      refine sizesL b hb sizes hz v x hx bb e0 hv nf (i + 1) (L ++ [1 + k]) (by omega) (by omega) (by simp [hL]) ?_
      intro n hn
      rcases List.mem_append.1 hn with q | q
      · exact hok n q
      · rw [List.mem_singleton] at q; omega
    · have hL20 : L.length ≤ 20 := by omega
      have hsL := okL_sum L hok
      have xl : x.length = 16384 := hx.2.2
      rw [bN (by simp only [len]; omega), oS (own_eq b (by omega)), oS (rooms_eq L hok (by omega) (by omega)), oS (give_eq hx b (by omega) 0 L hok (by omega) (by omega))]
      dsimp only
      have ol := out_len b.length L
      rw [cnE rfl]
      have r := L3 b ⟨rg 16384, bb⟩ x L hok hL20 (⟨b.drop (min b.length (sumL L))⟩, (outF b.length L).map UInt32.ofNat, 0, [wrF x 0 (b.take (min b.length (sumL L)))]) (by rw [List.length_map]; omega) L 0 0 b.length 0 fuel (by rw [List.drop_zero]) (by rw [List.drop_zero]) hok (by omega) (by omega) (by omega) (by rw [fuelS]; omega)
      refine Eq.trans r ?_
      have tl : (b.take (min b.length (sumL L))).length = min b.length (sumL L) := by simp
      have hx2 : flatOk 16384 (wrF x 0 (b.take (min b.length (sumL L)))) := wrF_ok hx (by rw [tl]; show _ ≤ 16384; omega)
      have il : (wrF x 0 (b.take (min b.length (sumL L)))).length = 16384 := hx2.2.2
      rw [oS (image1_eq hx2), Nat.zero_add]
      have r4 := L4 b x L (⟨b.drop (min b.length (sumL L))⟩, (outF b.length L).map UInt32.ofNat, 0, [wrF x 0 (b.take (min b.length (sumL L)))]) ((min b.length (sumL L) : Nat) : Int) (wrF x 0 (b.take (min b.length (sumL L)))) L 0 0 fuel (by rw [List.drop_zero]) (by omega) (by omega) (by rw [fuelS]; omega)
      refine Eq.trans r4 ?_
      rw [Nat.zero_add]
      have m1 : (((min b.length (sumL L) : Nat) : Int)) = mini (len b) ((sumL L : Nat) : Int) := by
        unfold mini len
        by_cases q : ((sumL L : Nat) : Int) < ((b.length : Nat) : Int)
        · rw [if_pos q]; omega
        · rw [if_neg q]; omega
      have w1 : wrF x 0 (b.take (min b.length (sumL L))) = b.take (min b.length (sumL L)) ++ x.drop (min b.length (sumL L)) := by unfold wrF; rw [tl]; simp
      generalize hf' : min b.length (sumL L) = f at *
      have s1 : sub b (f : Int) (len b) = b.drop f := by
        simp only [sub, len, Int.toNat_natCast]; exact List.take_of_length_le (by simp)
      have s2 : sub (wrF x 0 (b.take f)) (0 : Int) (f : Int) = b.take f := by
        rw [w1]; simp only [sub, Int.toNat_natCast, Int.toNat_zero, List.drop_zero, Nat.sub_zero]
        exact List.take_left' (by rw [tl])
      have s3 : sub b (0 : Int) (f : Int) = b.take f := by simp [sub]
      have s4 : sub (wrF x 0 (b.take f)) (f : Int) (len (wrF x 0 (b.take f))) = x.drop f := by
        simp only [sub, len, Int.toNat_natCast]
        rw [il, w1, List.drop_left' tl]; exact List.take_of_length_le (by simp; omega)
      have s5 : sub x (f : Int) (len x) = x.drop f := by
        simp only [sub, len, Int.toNat_natCast]; exact List.take_of_length_le (by simp)
      rw [cE m1, cD (by simp only [len]; omega), s1, cE rfl, cD (by simp only [len]; rw [il]; omega), cD (by simp only [len]; omega), s2, s3, cE rfl, cD (by simp only [len]; rw [il]; omega), cD (by simp only [len]; rw [xl]; omega), s4, s5, cE rfl]
theorem t_law28zConsGives (b : List UInt8) (sizes : List Int) (v : UInt8) : law28zConsGives b sizes v = some true := by
  unfold law28zConsGives
  have hn : (!true) = false := rfl
  rw [oS lives28, cNT hn]
  by_cases h1 : len b > 4096
  · rw [bP h1]
  rw [bN h1]
  by_cases h2 : len sizes > 20
  · rw [bP h2]
  simp only [len] at h1 h2
  rw [bN (by simp only [len]; omega), oS (show law28zmemory = some (rg 16384) from rfl), oS (new1_eq (by decide) (by decide))]
  dsimp only
  rw [onS, cnE rfl]
  have f := fillL b sizes v ⟨rg 16384, [z1 16384]⟩ fuel 0 (by omega) (by rw [fuelS]; omega)
  refine Eq.trans f ?_
  have zl : (z1 16384).length = 16384 := by unfold z1; rw [List.length_replicate]; rfl
  have hz := z1_ok (n := 16384) (by decide) (by decide)
  rw [oS (write1_eq hz 0 (List.replicate 16384 v) (by rw [List.length_replicate]; decide))]
  dsimp only
  have w : wrF (z1 16384) (0 : UInt64).toNat (List.replicate 16384 v) = List.replicate 16384 v := by
    unfold wrF
    rw [show (0 : UInt64).toNat = 0 from rfl, List.take_zero, List.nil_append, List.drop_of_length_le (by rw [zl, List.length_replicate]; exact Nat.le_refl _), List.append_nil]
  rw [cnE rfl, w]
  exact sizesL b (by omega) sizes (by omega) v (List.replicate 16384 v) ⟨by decide, by decide, by rw [List.length_replicate]; rfl⟩ _ 0 rfl fuel 0 [] (by omega) (by rw [fuelS]; omega) rfl (fun n h => by cases h)
end Go.Proofs.Ytkjmmbmlapmkbaa

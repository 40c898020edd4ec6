/- The law ConsWaits in plain words. No condition. -/
import Derived.Test.YtkjmmbmlapmkbaaPuCons2
namespace Go.Proofs.Ytkjmmbmlapmkbaa
/-- given in two steps: the same bytes in the same places -/
theorem two_steps {x b : List UInt8} {A B f f1 f2 : Nat} (hx : x.length = 16384) (hf : f = min b.length (A + B)) (h1 : f1 = min b.length A) (h2 : f2 = min (b.length - f1) B) (hs : A + B ≤ 16384) :
    f1 + f2 = f ∧ wrF (wrF x 0 (b.take f1)) A ((b.drop f1).take f2) = wrF x 0 (b.take f) := by
  have e : f1 + f2 = f := by omega
  refine ⟨e, ?_⟩
  have l1 : (b.take f1).length = f1 := by simp; omega
  have l2 : ((b.drop f1).take f2).length = f2 := by simp; omega
  by_cases c : A ≤ b.length
  · have : f1 = A := by omega
    have w := wrF_app (x := x) (xs := b.take f1) (ys := (b.drop f1).take f2) (a := 0) (by rw [l1, l2]; omega)
    rw [l1, Nat.zero_add] at w
    rw [← this, w, ← e, List.take_add]
  · have z : f2 = 0 := by omega
    rw [← e, z, List.take_zero, wrF_nil, Nat.add_zero]
theorem waitsL (b : List UInt8) (hb : b.length ≤ 4096) (sizes : List Int) (hz : sizes.length ≤ 20) (cut : Int) : ∀ (nf i : Nat) (L : List Nat), i ≤ sizes.length → sizes.length - i < nf → L.length = i → okL L →
    law28zConsWaitsL1 b sizes cut nf (asI L) (i : Int) = some true
  | 0, i, L, _, h, _, _ => absurd h (Nat.not_lt_zero _)
  | nf + 1, i, L, hi, hf, hL, hok => by
    unfold law28zConsWaitsL1 law28zConsWaitsL1B
    by_cases h : i < sizes.length
    · obtain ⟨k, ek, hk⟩ := pick_eq sizes[i] 700 (by decide) (by decide)
      have e1 : wi (1 + (k : Int)) = ((1 + k : Nat) : Int) := by rw [wi_in (by omega) (by omega)]; omega
      have e2 : asI L ++ [((1 + k : Nat) : Int)] = asI (L ++ [1 + k]) := by simp [asI]
      rw [bP (by simp only [len]; omega), oS (ix_nat (getq h)), oS (show kit_Pick sizes[i] 700 = some (k : Int) from ek), cFits (by rw [asI_len]; simp; omega), e1, e2, wi_succ (by omega)]
      refine waitsL b hb sizes hz cut nf (i + 1) (L ++ [1 + k]) (by omega) (by omega) (by simp [hL]) ?_
      intro n hn
      rcases List.mem_append.1 hn with q | q
      · exact hok n q
      · rw [List.mem_singleton] at q; omega
    · have hL20 : L.length ≤ 20 := by omega
      have hsL := okL_sum L hok
      obtain ⟨k, ek, hk⟩ := pick_eq cut (L.length + 1) (by omega) (by omega)
      have rl : (roomsF 0 L).length = L.length := rooms_len 0 L
      have ew : wi (len (roomsF 0 L) + 1) = ((L.length + 1 : Nat) : Int) := by simp only [len, rl]; exact wi_succ (by omega)
      have hx := z1_ok (n := 16384) (by decide) (by decide)
      have xl : (z1 16384).length = 16384 := hx.2.2
      have hspl := sum_split k L
      have s1 : sub (roomsF 0 L) (0 : Int) (k : Int) = roomsF 0 (L.take k) := by rw [← rooms_take]; simp [sub]
      have s2 : sub (roomsF 0 L) (k : Int) (len (roomsF 0 L)) = roomsF (sumL (L.take k)) (L.drop k) := by
        have := rooms_drop 0 k L
        rw [Nat.zero_add] at this
        rw [← this]; simp only [sub, len, Int.toNat_natCast]; exact List.take_of_length_le (by simp)
      rw [bN (by simp only [len]; omega), oS (rooms_eq L hok (by omega) (by omega)), ew, oS ek, oS (show law28zmemory = some (rg 16384) from rfl), oS (new1_eq (by decide) (by decide))]
      dsimp only
      rw [onS, oS (show law28zmemory = some (rg 16384) from rfl), oS (new1_eq (by decide) (by decide))]
      dsimp only
      clear ew
      have g1 := give_eq hx b (by omega) 0 L hok (by omega) (by omega)
      have g2 := give_eq hx b (by omega) 0 (L.take k) (okL_take hok k) (by omega) (by simp; omega)
      have l1 : (b.take (min b.length (sumL (L.take k)))).length = min b.length (sumL (L.take k)) := by simp
      have hx2 : flatOk 16384 (wrF (z1 16384) 0 (b.take (min b.length (sumL (L.take k))))) := wrF_ok hx (by rw [l1]; show _ ≤ 16384; omega)
      have g3 := give_eq hx2 (b.drop (min b.length (sumL (L.take k)))) (by simp; omega) (sumL (L.take k)) (L.drop k) (okL_drop hok k) (by omega) (by simp; omega)
      rw [onS, cnE rfl, cnE rfl, oS (own_eq b (by omega)), oS g1, oS (own_eq b (by omega)), cD (by simp only [len, rl]; omega), s1, oS g2, cD (by simp only [len, rl]; omega), s2]
      dsimp only
      rw [oS g3]
      dsimp only
      have ld : (b.drop (min b.length (sumL (L.take k)))).length = b.length - min b.length (sumL (L.take k)) := by simp
      rw [ld]
      obtain ⟨t1, t2⟩ := two_steps (x := z1 16384) (b := b) (A := sumL (L.take k)) (B := sumL (L.drop k)) xl rfl rfl rfl (by omega)
      rw [t2, hspl]
      have hx3 : flatOk 16384 (wrF (z1 16384) 0 (b.take (min b.length (sumL L)))) := wrF_ok hx (by simp only [List.length_take]; show _ ≤ 16384; omega)
      rw [hspl] at t1
      rw [cnE rfl, cnE rfl, cnE rfl, List.drop_drop, t1, cnE rfl, oS (image1_eq hx3), oS (image1_eq hx3), cnE rfl]
      have o1 := out_len b.length (L.take k)
      have o2 := out_len (b.length - min b.length (sumL (L.take k))) (L.drop k)
      have o3 := out_len b.length L
      rw [cFits (by simp; simp at o1; omega), cFits (by simp; simp at o1 o2; omega)]
      have e3 : (outF b.length (L.take k)).map UInt32.ofNat ++ (outF (b.length - min b.length (sumL (L.take k))) (L.drop k)).map UInt32.ofNat = (outF b.length L).map UInt32.ofNat := by
        rw [← List.map_append, ← out_app, List.take_append_drop]
      rw [e3, oS (words_eq _ (by rw [List.length_map]; omega)), bT rfl]
theorem t_law28zConsWaits (b : List UInt8) (sizes : List Int) (cut : Int) : law28zConsWaits b sizes cut = some true := by
  unfold law28zConsWaits
  have hn : (!true) = false := rfl
  rw [oS lives28, cNT hn]
  by_cases h1 : len b > 4096
  · rw [bP h1]
  rw [bN h1]
  by_cases h2 : len sizes > 20
  · rw [bP h2]
  simp only [len] at h1 h2
  rw [bN (by simp only [len]; omega)]
  exact waitsL b (by omega) sizes (by omega) cut fuel 0 [] (by omega) (by rw [fuelS]; omega) rfl (fun n h => by cases h)
end Go.Proofs.Ytkjmmbmlapmkbaa

/- The law BuildTells in plain words: it answers true. No condition. -/
import Derived.Test.YtihcimjfabdafaaPuBuildTables
import Derived.Test.YtihcimjfabdafaaPuDescCalls
namespace Go.Proofs.Ytihcimjfabdafaa
theorem remi_natB (a m : Nat) : remi (a : Int) (m : Int) = ((a % m : Nat) : Int) := by
  unfold remi; rw [Int.tmod_eq_emod_of_nonneg (by omega)]; rfl
theorem flat16_at {α : Type} (g : α → List UInt8) (hg : ∀ x, (g x).length = 16) : ∀ (L : List α) (i : Nat) (h : i < L.length), ((L.flatMap g).drop (16 * i)).take 16 = g L[i]
  | [], _, h => absurd h (Nat.not_lt_zero _)
  | x :: L, 0, _ => by
    rw [List.flatMap_cons, Nat.mul_zero, List.drop_zero]; exact List.take_left' (hg x)
  | x :: L, i + 1, h => by
    rw [List.flatMap_cons, show 16 * (i + 1) = 16 + 16 * i by omega, ← List.drop_drop, List.drop_left' (hg x)]
    exact flat16_at g hg L i (by simpa using h)
theorem rread_bsD (d : Desc) : ref_Read03 (bsD d) = some (d, 0) := by
  unfold bsD; rw [refReadD, wrd_byt, wrd4_byt, wrd2_byt, wrd2_byt]
theorem rread_bsP (d : Packed) : ref_ReadPacked03 (bsP d) = some (d, 0) := by
  unfold bsP; rw [refReadP, wrd_byt, wrd4_byt, wrd2_byt, wrd2_byt]
theorem rreadTL (L : List Desc) (hl : L.length ≤ 1000) : ∀ (nf i : Nat), i ≤ L.length → L.length - i < nf → ref_ReadTable03L1 (L.flatMap bsD) nf (L.take i) ((16 * i : Nat) : Int) = some (L, 0)
  | 0, i, _, h => absurd h (Nat.not_lt_zero _)
  | nf + 1, i, hi, hn => by
    have hlen := flat16_len bsD bsD_len L
    unfold ref_ReadTable03L1 ref_ReadTable03L1B
    have w : wi (((16 * i : Nat) : Int) + 16) = ((16 * (i + 1) : Nat) : Int) := by rw [wi_in (by omega) (by omega)]; omega
    by_cases h : i < L.length
    · rw [bP (by simp only [len]; omega), w, cDb (by simp only [len]; omega), sub_nat, show 16 * (i + 1) - 16 * i = 16 by omega, flat16_at bsD bsD_len L i h, oS (rread_bsD _), cFits (by simp; omega)]
      have e : L.take i ++ [L[i]] = L.take (i + 1) := by rw [List.take_succ_eq_append_getElem h]
      rw [e]
      exact rreadTL L hl nf (i + 1) (by omega) (by omega)
    · rw [bN (by simp only [len]; omega), List.take_of_length_le (by omega)]
theorem rread_tab (L : List Desc) (hl : L.length ≤ 1000) : ref_ReadTable03 (L.flatMap bsD) = some (L, 0) := by
  have hlen := flat16_len bsD bsD_len L
  have := rreadTL L hl fuel 0 (by omega) (by rw [fuelS]; omega)
  unfold ref_ReadTable03
  first
  | exact this
  | (rw [nE (by
      have : remi (len (L.flatMap bsD)) 16 = remi ((16 * L.length : Nat) : Int) ((16 : Nat) : Int) := by simp only [len, hlen]; rfl
      rw [this, remi_natB]; omega)]; exact this)
theorem flagsS (w m : Bool) : (flgS w m &&& 2 != 0) = w ∧ (flgS w m &&& 1 != 0) = m ∧ (flgS w m &&& 4 == 0) = true := by cases w <;> cases m <;> decide
theorem flagsP (w m r : Bool) : (mkd (flgS w m) r false &&& 2 != 0) = w ∧ (mkd (flgS w m) r false &&& 1 != 0) = m ∧ (mkd (flgS w m) r false &&& 4 == 0) = true ∧ ref_Avail03 (mkd (flgS w m) r false) r = some true := by
  cases w <;> cases m <;> cases r <;> exact ⟨by decide, by decide, by decide, by kernel_rfl⟩
theorem tells1 (l : List Seg) (i : Nat) (h : i < l.length) (hl : l.length ≤ 1000) (f : UInt16) (h2 : (f &&& 2 != 0) = (sgS l i).Write) (h1 : (f &&& 1 != 0) = decide (i + 1 < l.length)) (h4 : (f &&& 4 == 0) = true) : law09zBuildTells_1 (i : Int) f l = some true := by
  unfold law09zBuildTells_1
  have hs : ix l (i : Int) = some (sgS l i) := ixD _ h
  rw [oS hs, h2, beqI, brT, h1, wi_succ (by omega), show decide (((i + 1 : Nat) : Int) < len l) = decide (i + 1 < l.length) from decide_eq_decide.2 (by simp only [len]; omega), beqI, brT, h4]
theorem posN_at (k sz : Nat) (w : Bool) (hk : k < sz) : ∀ i, i ≤ sz → posN (sz : Int) ⟨(k : Int), w⟩ i = if k + i < sz then ⟨((k + i : Nat) : Int), w⟩ else ⟨((k + i - sz : Nat) : Int), !w⟩
  | 0, _ => by rw [if_pos (by omega)]; rfl
  | i + 1, h => by
    rw [posN, posN_at k sz w hk i (by omega)]
    by_cases h1 : k + i < sz
    · rw [if_pos h1]
      unfold goP
      dsimp only
      by_cases h2 : k + (i + 1) < sz
      · rw [if_pos h2, if_neg (by omega)]
        exact congrArg (fun t => Pos.mk t w) (by omega)
      · rw [if_neg h2, if_pos (by omega)]
        exact congrArg (fun t => Pos.mk t (!w)) (by omega)
    · rw [if_neg h1]
      unfold goP
      dsimp only
      rw [if_neg (show ¬ k + (i + 1) < sz by omega), if_neg (by omega)]
      exact congrArg (fun t => Pos.mk t (!w)) (by omega)
theorem tellsL3 (l : List Seg) (hl : l.length ≤ 64) (wrap : Bool) (p1 k3 k4 : Nat) (hp1 : p1 < 100) (hk3 : k3 < 64 + p1) (hk4 : k4 < 64 + p1) : ∀ (nf i : Nat), i ≤ l.length → l.length - i < nf →
    law09zBuildTellsL3 wrap (p1 : Int) (k4 : Int) nf l ⟨(k3 : Int), wrap⟩ (genL (putP ⟨(k3 : Int), wrap⟩ ((64 + p1 : Nat) : Int) (k4 : Int) l) 0 l.length) ((genL (ptS l) 0 l.length).flatMap bsP) (i : Int) = some true
  | 0, i, _, h => absurd h (Nat.not_lt_zero _)
  | nf + 1, i, hi, hn => by
    unfold law09zBuildTellsL3 law09zBuildTellsL3B
    by_cases h : i < l.length
    · have wS : wi ((64 : Int) + (p1 : Int)) = ((64 + p1 : Nat) : Int) := by rw [wi_in (by omega) (by omega)]; omega
      have w1 : wi ((k3 : Int) + (i : Int)) = ((k3 + i : Nat) : Int) := by rw [wi_in (by omega) (by omega)]; omega
      have w2 : wi ((16 : Int) * (i : Int)) = ((16 * i : Nat) : Int) := by rw [wi_in (by omega) (by omega)]; omega
      have w3 : wi (((16 * i : Nat) : Int) + 16) = ((16 * (i + 1) : Nat) : Int) := by rw [wi_in (by omega) (by omega)]; omega
      have hP : ix (genL (putP ⟨(k3 : Int), wrap⟩ ((64 + p1 : Nat) : Int) (k4 : Int) l) 0 l.length) (i : Int) = some (putP ⟨(k3 : Int), wrap⟩ ((64 + p1 : Nat) : Int) (k4 : Int) l i) := by
        have := genL_get (putP ⟨(k3 : Int), wrap⟩ ((64 + p1 : Nat) : Int) (k4 : Int) l) l.length 0 i h
        rw [Nat.zero_add] at this
        exact ix_nat this
      have hs : ix l (i : Int) = some (sgS l i) := ixD _ h
      have hpos := posN_at k3 (64 + p1) wrap hk3 i (by omega)
      have hlen := flat16_len bsP bsP_len (genL (ptS l) 0 l.length)
      rw [genL_len] at hlen
      have hat := flat16_at bsP bsP_len (genL (ptS l) 0 l.length) i (by rw [genL_len]; exact h)
      have hgi : (genL (ptS l) 0 l.length)[i]'(by rw [genL_len]; exact h) = ptS l i := by
        have := genL_get (ptS l) l.length 0 i h
        obtain ⟨_, q⟩ := List.getElem?_eq_some_iff.1 this
        rw [q, Nat.zero_add]
      rw [hgi] at hat
      have hAt : (posN ((64 + p1 : Nat) : Int) ⟨(k3 : Int), wrap⟩ i).At = remi ((k3 + i : Nat) : Int) ((64 + p1 : Nat) : Int) := by
        rw [hpos, remi_natB]
        by_cases q : k3 + i < 64 + p1
        · rw [if_pos q, Nat.mod_eq_of_lt q]
        · rw [if_neg q]
          dsimp only
          rw [Nat.mod_eq_sub_mod (by omega), Nat.mod_eq_of_lt (by omega)]
      have hWr : (posN ((64 + p1 : Nat) : Int) ⟨(k3 : Int), wrap⟩ i).Wrap = (wrap != decide (((k3 + i : Nat) : Int) ≥ ((64 + p1 : Nat) : Int))) := by
        rw [hpos]
        by_cases q : k3 + i < 64 + p1
        · rw [if_pos q, decide_eq_false (show ¬ ((k3 + i : Nat) : Int) ≥ ((64 + p1 : Nat) : Int) by omega)]; cases wrap <;> rfl
        · rw [if_neg q, decide_eq_true (show ((k3 + i : Nat) : Int) ≥ ((64 + p1 : Nat) : Int) by omega)]; cases wrap <;> rfl
      obtain ⟨f2, f1, f4, fa⟩ := flagsP (sgS l i).Write (decide (i + 1 < l.length)) (posN ((64 + p1 : Nat) : Int) ⟨(k3 : Int), wrap⟩ i).Wrap
      have ht := tells1 l i h (by omega) _ f2 f1 f4
      rw [bP (by simp only [len]; omega), oS hP, oS hP, wS]
      dsimp only [putP]
      rw [w1, ← hWr, hAt, cnF (by omega), cnE rfl, oS hs, cnE rfl, oS hs, cnE rfl, cnE (i16_u16 (by omega)), oS ht, notT, notF, chkT, oS fa, notT, notF, chkT]
      rw [w2, w3, cDb (by simp only [len]; omega), sub_nat, show 16 * (i + 1) - 16 * i = 16 by omega, hat, oS (rread_bsP _), oS hs]
      have hJ : ∀ q : UInt16, q = (if (sgS l i).Write = true then 2 else 0) → law09zBuildTellsJ4 l ⟨(k3 : Int), wrap⟩ (genL (putP ⟨(k3 : Int), wrap⟩ ((64 + p1 : Nat) : Int) (k4 : Int) l) 0 l.length) ((genL (ptS l) 0 l.length).flatMap bsP) (i : Int) (law09zBuildTellsL3 wrap (p1 : Int) (k4 : Int) nf) (ptS l i, 0) q = some true := by
        intro q hq
        unfold law09zBuildTellsJ4
        rw [oS hs, oS hs, hq, cnE (show ((ptS l i, (0 : Int)).1) = Packed.mk (sgS l i).At (sgS l i).Len 0 (if (sgS l i).Write = true then 2 else 0) from rfl), wi_succ (by omega)]
        exact tellsL3 l hl wrap p1 k3 k4 hp1 hk3 hk4 nf (i + 1) (by omega) (by omega)
      cases hw : (sgS l i).Write with
      | true => rw [brT]; exact hJ 2 (by rw [hw]; rfl)
      | false => rw [brF]; exact hJ 0 (by rw [hw]; rfl)
    · rw [bN (by simp only [len]; omega)]
theorem tellsL2 (l : List Seg) (he : errB l = 0) (ids : List Int) (hids : ids.length = l.length) (hr : ∀ i, i < l.length → ∃ k : Nat, ids.getD i 0 = (k : Int) ∧ k < 1000) (id atp3 : Int) (wrap : Bool) (p1 : Nat) (hp1 : p1 < 100) : ∀ (nf i : Nat), i ≤ l.length → l.length - i < nf →
    law09zBuildTellsL2 id atp3 wrap (p1 : Int) nf l ids (genL (putS ids l) 0 l.length) (tabS l) (i : Int) = some true
  | 0, i, _, h => absurd h (Nat.not_lt_zero _)
  | nf + 1, i, hi, hn => by
    have hl := (errB_zero.1 he).1.1
    unfold law09zBuildTellsL2 law09zBuildTellsL2B
    by_cases h : i < l.length
    · have hP : ix (genL (putS ids l) 0 l.length) (i : Int) = some (putS ids l i) := by
        have := genL_get (putS ids l) l.length 0 i h
        rw [Nat.zero_add] at this
        exact ix_nat this
      have hT : ix (tabS l) (i : Int) = some (dS (idsN l.length) l i) := by
        have := genL_get (dS (idsN l.length) l) l.length 0 i h
        rw [Nat.zero_add] at this
        exact ix_nat this
      have hs : ix l (i : Int) = some (sgS l i) := ixD _ h
      have hi1 : ix ids (i : Int) = some (ids.getD i 0) := ixD 0 (by omega)
      obtain ⟨f2, f1, f4⟩ := flagsS (sgS l i).Write (decide (i + 1 < l.length))
      have ht := tells1 l i h (by omega) _ f2 f1 f4
      have ih := tellsL2 l he ids hids hr id atp3 wrap p1 hp1 nf (i + 1) (by omega) (by omega)
      rw [bP (by simp only [len]; omega), oS hP, oS hP, oS hi1]
      rw [dS_ids] at hT
      dsimp only [putS, dS]
      rw [cnE rfl, oS hs, cnE rfl, oS hs, cnE rfl, oS ht, notT, notF, chkT, oS hT, cnE rfl, oS hT, cnE rfl, oS hT, cnE rfl, wi_succ (by omega)]
      by_cases h2 : i + 1 < l.length
      · obtain ⟨k, hk, hk2⟩ := hr (i + 1) h2
        have hi2 : ix ids ((i + 1 : Nat) : Int) = some (ids.getD (i + 1) 0) := ixD 0 (by omega)
        rw [bP (by simp only [len]; omega), oS hi2, if_pos h2, hk, cnE (i16_u16 (by omega)), oS hT]
        dsimp only
        rw [if_pos h2, cnE (i16_u16 (by omega)), bF (by simp only [len]; omega)]
        exact ih
      · rw [bN (by simp only [len]; omega), bE (by simp only [len]; omega), oS hT, if_neg h2]
        dsimp only
        rw [if_neg h2, cnE (show (0 : UInt16) + 0 = 0 by decide)]
        exact ih
    · have wS : wi ((64 : Int) + (p1 : Int)) = ((64 + p1 : Nat) : Int) := by rw [wi_in (by omega) (by omega)]; omega
      obtain ⟨k3, hk3, hk3b⟩ := pick_eq atp3 (64 + p1) (by omega) (by omega)
      obtain ⟨k4, hk4, hk4b⟩ := pick_eq id (64 + p1) (by omega) (by omega)
      have hpk : packedF ⟨(k3 : Int), wrap⟩ ((64 + p1 : Nat) : Int) (k4 : Int) l = (genL (putP ⟨(k3 : Int), wrap⟩ ((64 + p1 : Nat) : Int) (k4 : Int) l) 0 l.length, 0) := by
        unfold packedF
        rw [if_neg (by simp [he]), if_neg (by
          rintro (q | q | q | q)
          · exact q ⟨⟨by omega, by omega⟩, by dsimp only; omega, by dsimp only; omega⟩
          · omega
          · omega
          · omega)]
      have hpt : ptabF l = ((genL (ptS l) 0 l.length).flatMap bsP, 0) := by unfold ptabF; rw [if_neg (by simp [he])]
      have lb : len ((genL (ptS l) 0 l.length).flatMap bsP) = ((16 * l.length : Nat) : Int) := by
        simp only [len]; rw [flat16_len _ bsP_len, genL_len]
      have w16 : wi (16 * len l) = ((16 * l.length : Nat) : Int) := by simp only [len]; rw [wi_in (by omega) (by omega)]; omega
      rw [bN (by simp only [len]; omega), wS, oS hk3, oS hk4, oS (packed_eqB _ _ _ l (by omega)), oS (ptab_eq l), hpk, hpt]
      dsimp only
      rw [cnE rfl, cnE rfl, cnE (by simp only [len, genL_len]), lb, w16, cnE rfl]
      exact tellsL3 l (by omega) wrap p1 k3 k4 hp1 hk3b hk4b fuel 0 (by omega) (by rw [fuelS]; omega)
/-- the numbers -/
def idF (f0 i : Nat) : Int := (((f0 + 5 * i) % 1000 : Nat) : Int)
theorem idF_has (f0 x : Nat) : ∀ (k i : Nat), i + k ≤ x → x ≤ 150 → (genL (idF f0) i k).contains (idF f0 x) = false
  | 0, _, _, _ => rfl
  | k + 1, i, h, h2 => by
    simp only [genL, List.contains_cons, idF_has f0 x k (i + 1) (by omega) h2, Bool.or_false]
    refine beq_false_of_ne ?_
    unfold idF; omega
theorem idF_ap (f0 : Nat) : ∀ (k i : Nat), i + k ≤ 150 → apR (genL (idF f0) 0 i) (genL (idF f0) i k) = true
  | 0, _, _ => rfl
  | k + 1, i, h => by
    rw [genL, apR, idF_has f0 i i 0 (by omega) (by omega)]
    have := idF_ap f0 k (i + 1) (by omega)
    rw [genL_snoc, Nat.zero_add] at this
    rw [this]
    unfold inR idF
    rw [decide_eq_true (by omega), decide_eq_true (by omega)]; rfl
theorem tellsL1 (l : List Seg) (he : errB l = 0) (id atp3 first : Int) (wrap : Bool) (p1 f0 : Nat) (hp1 : p1 < 100) (hf : kit_Pick first ((64 + p1 : Nat) : Int) = some (f0 : Int)) (hf2 : f0 < 64 + p1) : ∀ (nf i : Nat), i ≤ l.length → l.length - i < nf →
    law09zBuildTellsL1 id atp3 first wrap (p1 : Int) nf l (genL (idF f0) 0 i) (i : Int) = some true
  | 0, i, _, h => absurd h (Nat.not_lt_zero _)
  | nf + 1, i, hi, hn => by
    have hl := (errB_zero.1 he).1.1
    have wS : wi ((64 : Int) + (p1 : Int)) = ((64 + p1 : Nat) : Int) := by rw [wi_in (by omega) (by omega)]; omega
    unfold law09zBuildTellsL1 law09zBuildTellsL1B
    by_cases h : i < l.length
    · have w1 : wi ((i : Int) * 5) = ((5 * i : Nat) : Int) := by rw [wi_in (by omega) (by omega)]; omega
      have w2 : wi ((f0 : Int) + ((5 * i : Nat) : Int)) = ((f0 + 5 * i : Nat) : Int) := by rw [wi_in (by omega) (by omega)]; omega
      have hr : remi ((f0 + 5 * i : Nat) : Int) 1000 = idF f0 i := remi_natB (f0 + 5 * i) 1000
      rw [bP (by simp only [len]; omega), wS, oS hf, w1, w2, hr, cFits (by rw [genL_len]; simp; omega), wi_succ (by omega)]
      have := tellsL1 l he id atp3 first wrap p1 f0 hp1 hf hf2 nf (i + 1) (by omega) (by omega)
      rw [genL_snoc, Nat.zero_add] at this
      exact this
    · have hil : i = l.length := by omega
      subst hil
      have hap := idF_ap f0 l.length 0 (by omega)
      rw [show genL (idF f0) 0 0 = [] from rfl] at hap
      have hsp : splitF (genL (idF f0) 0 l.length) l = (genL (putS (genL (idF f0) 0 l.length) l) 0 l.length, 0) := by
        unfold splitF
        rw [if_neg (by simp [he]), if_neg (show ¬ ((genL (idF f0) 0 l.length).length ≠ l.length ∨ apR [] (genL (idF f0) 0 l.length) = false) by
          rintro (q | q)
          · exact q (genL_len ..)
          · rw [hap] at q; cases q)]
      have htb : tabF l = ((tabS l).flatMap bsD, 0) := by unfold tabF; rw [if_neg (by simp [he])]
      have hnd : needF l false = (l.length : Int) := by unfold needF; rw [if_pos he]; rfl
      have htl : (tabS l).length = l.length := genL_len ..
      rw [bN (by simp only [len]; omega), oS (split_eqB _ l (by rw [genL_len]; omega)), oS (stab_eq l), hsp, htb, oS (rread_tab _ (by omega))]
      dsimp only
      rw [cnE rfl, cnE rfl, cnE rfl, cnE (by simp only [len, genL_len]), cnE (by simp only [len, htl]), oS (needs_eqB l false), hnd, cnE (show (l.length : Int) = len l from rfl)]
      refine tellsL2 l he (genL (idF f0) 0 l.length) (genL_len ..) (fun i h => ?_) id atp3 wrap p1 hp1 fuel 0 (by omega) (by rw [fuelS]; omega)
      have := genL_get (idF f0) l.length 0 i h
      refine ⟨(f0 + 5 * i) % 1000, ?_, by omega⟩
      rw [List.getD_eq_getElem?_getD, this, Nat.zero_add]; rfl
theorem t_law09zBuildTells (l : List Seg) (size : Int) (id : Int) (atp3 : Int) (first : Int) (wrap : Bool) : law09zBuildTells l size id atp3 first wrap = some true := by
  unfold law09zBuildTells
  rw [oS lives09T, notT, notF, chkT]
  by_cases h1 : len l > 100
  · rw [bP h1]
  rw [bN h1, oS (needs_eqB l true)]
  by_cases he : errB l = 0
  · have hnd : needF l true = 1 := by unfold needF; rw [if_pos he]; rfl
    obtain ⟨p1, hp1, hp1b⟩ := pick_eq size 100 (by decide) (by decide)
    rw [show ((100 : Nat) : Int) = 100 from rfl] at hp1
    obtain ⟨f0, hf, hfb⟩ := pick_eq first (64 + p1) (by omega) (by omega)
    rw [hnd, bF (by decide), oS hp1]
    exact tellsL1 l he id atp3 first wrap p1 f0 hp1b hf hfb fuel 0 (by omega) (by rw [fuelS]; have := (errB_zero.1 he).1.1; omega)
  · have hnd : needF l true = 0 := by unfold needF; rw [if_neg he]
    rw [hnd, bE rfl]
end Go.Proofs.Ytihcimjfabdafaa

/- The law GmemScript in plain words. No condition. -/
import Derived.Test.YtecmlfmbmligeaaPuWord
namespace Go.Proofs.Ytecmlfmbmligeaa
theorem lives02 : law02zlives = some true := by kernel_rfl
theorem pick_eq (n : Int) (m : Nat) (hm : 0 < m) (hm2 : m ≤ 1000000) : ∃ k : Nat, kit_Pick n (m : Int) = some (k : Int) ∧ k < m := by
  unfold kit_Pick
  have h1 : (remi n (m : Int)) = n.tmod m := rfl
  have h2 := Int.tmod_lt_of_pos n (show (0 : Int) < (m : Int) by omega)
  have h3 : -(m : Int) < n.tmod m := by
    have := Int.tmod_lt_of_pos (-n) (show (0 : Int) < (m : Int) by omega)
    rw [Int.neg_tmod] at this; omega
  rw [bN (by omega), cnF (by omega), h1]
  by_cases h : n.tmod m < 0
  · rw [bP h, wi_in (by omega) (by omega)]
    exact ⟨(n.tmod m + m).toNat, by congr 1; omega, by omega⟩
  · rw [bN h]
    exact ⟨(n.tmod m).toNat, by congr 1; omega, by omega⟩
theorem lightRL (l : List Region) (k : UInt64) (hl : l.length ≤ 40) : ∀ (nf i : Nat) (s : UInt64), i ≤ l.length → l.length - i < nf → ∃ b, kit_LightRegionsL1 l k nf s (i : Int) = some b
  | 0, i, s, _, h => by omega
  | nf + 1, i, s, hi, hn => by
    unfold kit_LightRegionsL1 kit_LightRegionsL1B
    by_cases h : i < l.length
    · rw [bP (by simp only [len]; omega), oS (ix_nat (getq h)), wi_succ (by omega)]
      exact lightRL l k hl nf (i + 1) _ (by omega) (by omega)
    · rw [bN (by simp only [len]; omega)]; exact ⟨_, rfl⟩
theorem lightR (l : List Region) (k : UInt64) : ∃ b, kit_LightRegions l k = some b ∧ (b = true → l.length ≤ 40) := by
  unfold kit_LightRegions
  by_cases h : l.length > 40
  · rw [bP (by simp only [len]; omega)]; exact ⟨false, rfl, fun q => by cases q⟩
  · rw [bN (by simp only [len]; omega)]
    obtain ⟨b, hb⟩ := lightRL l k (by omega) fuel 0 0 (by omega) (by unfold fuel; omega)
    exact ⟨b, hb, fun _ => by omega⟩
/-- are the calls few, and short? -/
theorem smallL (l : List dumbwaiterlaw02_Act) : ∀ (nf i : Nat), i ≤ 81 → 81 - i < nf → (∀ (j : Nat) (d : dumbwaiterlaw02_Act), j < i → l[j]? = some d → d.B.length ≤ 2000) → ∃ b, law02zsmallL1 l nf (i : Int) = some b ∧ (b = true → l.length ≤ 80 ∧ ∀ d ∈ l, d.B.length ≤ 2000)
  | 0, i, _, h, _ => by omega
  | nf + 1, i, hi, hf, hb => by
    have fin : i = 81 ∨ ¬ i < l.length → ∃ b, some (decide (len l ≤ (80 : Int))) = some b ∧ (b = true → l.length ≤ 80 ∧ ∀ d ∈ l, d.B.length ≤ 2000) := fun hq => ⟨decide (len l ≤ (80 : Int)), rfl, fun q => by
      have hl : l.length ≤ 80 := by
        have q2 : ((l.length : Nat) : Int) ≤ 80 := of_decide_eq_true q
        omega
      refine ⟨hl, fun d hd => ?_⟩
      obtain ⟨j, hj, e⟩ := List.mem_iff_getElem.1 hd
      exact hb j d (by omega) (by rw [getq hj, e])⟩
    unfold law02zsmallL1 law02zsmallL1B
    by_cases h : i < l.length
    · rw [bP (by simp only [len]; omega)]
      by_cases h2 : i ≤ 80
      · rw [bP (by omega), oS (ix_nat (getq h))]
        by_cases h3 : len l[i].B > 2000
        · rw [bP h3]; exact ⟨false, rfl, fun q => by cases q⟩
        · rw [bN h3, wi_succ (by omega)]
          refine smallL l nf (i + 1) (by omega) (by omega) fun j d hj hd => ?_
          by_cases e : j = i
          · subst e; rw [getq h] at hd; cases hd; simp only [len] at h3; omega
          · exact hb j d (by omega) hd
      · rw [bN (by omega)]; exact fin (.inl (by omega))
    · rw [bN (by simp only [len]; omega)]; exact fin (.inr h)
theorem small_eq (l : List dumbwaiterlaw02_Act) : ∃ b, law02zsmall l = some b ∧ (b = true → l.length ≤ 80 ∧ ∀ d ∈ l, d.B.length ≤ 2000) := by
  unfold law02zsmall
  exact smallL l fuel 0 (by omega) (by unfold fuel; omega) (fun j d h => by omega)
theorem sameRL (a : List Region) (hl : a.length ≤ 1000) : ∀ (nf i : Nat), i ≤ a.length → a.length - i < nf → kit_SameRegionsL1 a a nf (i : Int) = some true
  | 0, i, _, h => by omega
  | nf + 1, i, hi, hn => by
    unfold kit_SameRegionsL1 kit_SameRegionsL1B
    by_cases h : i < a.length
    · have gi := ix_nat (getq h)
      rw [bP (by simp only [len]; omega)]
      simp only [oS gi]
      rw [nE rfl, wi_succ (by omega)]
      exact sameRL a hl nf (i + 1) (by omega) (by omega)
    · rw [bN (by simp only [len]; omega)]
theorem sameR (a : List Region) (hl : a.length ≤ 1000) : kit_SameRegions a a = some true := by
  unfold kit_SameRegions
  rw [nE rfl]
  exact sameRL a hl fuel 0 (by omega) (by unfold fuel; omega)
theorem regions_eq (m : gmem_Mem) (hm : memOk m.l m.b) : gmem_Mem_Regions m = some m.l := by
  have hl := hm.1.1
  unfold gmem_Mem_Regions
  have hc : slices_Clone_apiRegionapiRegion m.l = some m.l := by unfold slices_Clone_apiRegionapiRegion; rw [cFits (by simp; omega)]
  rw [oS (show gmem_Mem_made m = some true from rfl), oS hc]
theorem own_eq (b : List UInt8) (h : b.length ≤ 100000000) : kit_Own b = some b := by unfold kit_Own; rw [cFits (by simp; omega)]
theorem gsL (l : List Region) (calls : List dumbwaiterlaw02_Act) (hg : goodM l) (m2 : gmem_Mem) (hm2 : m2.l = l) (m3 : dumbwaiterref02_Mem) (hm3 : m3.L = l) (hc : calls.length ≤ 80) (hB : ∀ d ∈ calls, d.B.length ≤ 2000) : ∀ (nf i : Nat) (b : List (List UInt8)) (e f : Int), i ≤ calls.length → calls.length - i < nf → memOk l b → e = f → law02zGmemScriptL10 l calls m2 m3 nf b e b f (i : Int) = some true
  | 0, i, _, _, _, _, h, _, _ => by omega
  | nf + 1, i, b, e, f, hi, hf, hb, he => by
    have hl := hg.1
    unfold law02zGmemScriptL10 law02zGmemScriptL10B
    rw [hm2, hm3]
    by_cases h : i < calls.length
    · have hBi := hB _ (List.getElem_mem h)
      obtain ⟨k, hk, hk5⟩ := pick_eq calls[i].Kind 5 (by decide) (by decide)
      replace hk : kit_Pick calls[i].Kind (5 : Int) = some (k : Int) := hk
      rw [bP (by simp only [len]; omega), oS (ix_nat (getq h)), oS hk]
      by_cases h0 : (k : Int) = 0
      · rw [bE h0, oS (load_eq ⟨l, b⟩ hb _ _), oS (rload_eq ⟨l, b⟩ hb _ _)]
        unfold law02zGmemScriptJ12 law02zGmemScriptJ11
        rw [cnE rfl, cnE rfl, cnE rfl, cnE rfl, wi_succ (by omega)]
        exact gsL l calls hg m2 hm2 m3 hm3 hc hB nf (i + 1) b _ _ (by omega) (by omega) hb rfl
      by_cases h1 : (k : Int) = 1
      · rw [bF h0, bE h1, oS (store_eq ⟨l, b⟩ hb _ _ _), oS (rstore_eq ⟨l, b⟩ hb _ _ _)]
        unfold law02zGmemScriptJ12 law02zGmemScriptJ11
        rw [cnE rfl]
        have go : ∀ r : Int × List (List UInt8), memOk l r.2 → chk (!(r.1 != r.1)) (chk (!(([] : List UInt8) != [])) (chk (!(false != false)) (law02zGmemScriptL10 l calls m2 m3 nf r.2 r.1 r.2 r.1 (wi ((i : Int) + 1))))) = some true := fun r hr => by
          rw [cnE rfl, cnE rfl, cnE rfl, wi_succ (by omega)]
          exact gsL l calls hg m2 hm2 m3 hm3 hc hB nf (i + 1) r.2 _ _ (by omega) (by omega) hr rfl
        refine go _ ?_
        split
        · dsimp only
          split
          · exact hb
          · next hw => exact write_ok hb hw
        · exact hb
      by_cases h2 : (k : Int) = 2
      · have hmn : mini calls[i].N 5000 ≤ 140737488355328 := by unfold mini; split <;> omega
        rw [bF h0, bF h1, bE h2, oS (read_eqM ⟨l, b⟩ hb _ _ hmn), oS (rread_eq ⟨l, b⟩ hb _ _ hmn)]
        unfold law02zGmemScriptJ12 law02zGmemScriptJ11
        rw [cnE rfl, cnE rfl, cnE rfl, cnE rfl, wi_succ (by omega)]
        exact gsL l calls hg m2 hm2 m3 hm3 hc hB nf (i + 1) b _ _ (by omega) (by omega) hb rfl
      by_cases h3 : (k : Int) = 3
      · rw [bF h0, bF h1, bF h2, bE h3, oS (own_eq _ (by omega)), oS (write_eqM ⟨l, b⟩ hb _ _ (by omega)), oS (rwrite_eq ⟨l, b⟩ hb _ _ (by omega))]
        unfold law02zGmemScriptJ12 law02zGmemScriptJ11
        rw [cnE rfl]
        have go : ∀ r : Int × List (List UInt8), memOk l r.2 → chk (!(r.1 != r.1)) (chk (!(([] : List UInt8) != [])) (chk (!(false != false)) (law02zGmemScriptL10 l calls m2 m3 nf r.2 r.1 r.2 r.1 (wi ((i : Int) + 1))))) = some true := fun r hr => by
          rw [cnE rfl, cnE rfl, cnE rfl, wi_succ (by omega)]
          exact gsL l calls hg m2 hm2 m3 hm3 hc hB nf (i + 1) r.2 _ _ (by omega) (by omega) hr rfl
        refine go _ ?_
        split
        · exact hb
        · dsimp only
          split
          · exact hb
          · next hw => exact write_ok hb hw
      · rw [bF h0, bF h1, bF h2, bF h3, oS (has_eq ⟨l, b⟩ hb _ _), oS (rhas_eq ⟨l, b⟩ hb _ _)]
        unfold law02zGmemScriptJ12 law02zGmemScriptJ11
        rw [cnE rfl, cnE he, cnE rfl, cnE rfl, wi_succ (by omega)]
        exact gsL l calls hg m2 hm2 m3 hm3 hc hB nf (i + 1) b _ _ (by omega) (by omega) hb he
    · rw [bN (by simp only [len]; omega), oS (image_eq ⟨l, b⟩ hb), oS (rimage_eq ⟨l, b⟩ hb), cE rfl, oS (regions_eq ⟨l, b⟩ hb), oS (sameR l (by omega)), cT rfl]
theorem t_law02zGmemScript (l : List Region) (calls : List dumbwaiterlaw02_Act) : law02zGmemScript l calls = some true := by
  unfold law02zGmemScript
  have hn : (!true) = false := rfl
  rw [oS lives02, cNT hn]
  obtain ⟨q, hq, hq2⟩ := lightR l 20000
  obtain ⟨p, hp, hp2⟩ := small_eq calls
  rw [oS hq]
  cases q with
  | false => rfl
  | true =>
    have h40 := hq2 rfl
    rw [bFl hn, oS hp]
    cases p with
    | false => rfl
    | true =>
      obtain ⟨hc, hB⟩ := hp2 rfl
      have kr : kit_Regions l = some l := by unfold kit_Regions; rw [cFits (by simp; omega)]
      rw [bFl hn, oS kr]
      by_cases hg : goodM l
      · rw [oS (new_ok hg)]
        dsimp only
        rw [onS, oS (rnew_ok hg)]
        dsimp only
        rw [onS, nE rfl, oS (gmemCheck l), errM_good hg, nE rfl, nE rfl]
        exact gsL l calls hg _ rfl _ rfl hc hB fuel 0 (zer l) 0 0 (by omega) (by unfold fuel; omega) (zer_ok hg) rfl
      · rw [oS (new_bad hg)]
        dsimp only
        rw [onN, oS (rnew_bad hg)]
        dsimp only
        rw [onN, nE rfl, oS (gmemCheck l), errM_bad hg, nE rfl, nF (by decide), cE rfl, oS (gmemCheck l), errM_bad hg, cE rfl]
end Go.Proofs.Ytecmlfmbmligeaa

/- Requests as the document lays them down. No condition. -/
import Derived.Test.YtkmjpgfbcklopaaPuBlkdrvLay
namespace Go.Proofs.Ytkmjpgfbcklopaa
theorem cutG_zero (most : Nat) : ∀ (cs : List Int) (out R : List Seg), sumS R = 0 → cutG most cs out R = out ++ R
  | [], out, R, _ => rfl
  | c :: cs, out, R, h => by
    unfold cutG
    rw [if_pos (Or.inr (by omega))]
    exact cutG_zero most cs out R h
theorem wi3 {a b c : List Seg} (h : a.length + b.length + c.length ≤ 1000) : wi (wi (len a + len b) + len c) = ((a.length + b.length + c.length : Nat) : Int) := by
  simp only [len]
  rw [wi_in (n := (a.length : Int) + b.length) (by omega) (by omega), wi_in (by omega) (by omega)]; omega
theorem refCutL (l : List Seg) (hg : goodS l) (cuts : List Int) (hc : cuts.length ≤ 1000000) (total : UInt64 × UInt64) (M : Nat) (hA : total.1 + total.2 = UInt64.ofNat (sumS l)) (hm : M ≤ 64) : ∀ (nf i : Nat) (out : List Seg) (n : Nat), i ≤ cuts.length → cuts.length - i < nf → n ≤ sumS l → out.length ≤ 64 →
    ref_cut22L2 l cuts (M : Int) total nf out (UInt64.ofNat n) (i : Int) = some (cutG M (cuts.drop i) out (dropS n l))
  | 0, i, out, n, _, h, _, _ => absurd h (Nat.not_lt_zero _)
  | nf + 1, i, out, n, hi, hn, hns, ho => by
    have hlt := hg.2.2
    have hpos := okS_pos hg.2.1
    have hsd := sum_drop n l
    have hld := len_drop n l
    have h64 := hg.1
    have en : (UInt64.ofNat n).toNat = n := by rw [UInt64.toNat_ofNat']; omega
    have eA : (UInt64.ofNat (sumS l)).toNat = sumS l := by rw [UInt64.toNat_ofNat']; omega
    have eS : (UInt64.ofNat (sumS l - n)).toNat = sumS l - n := by rw [UInt64.toNat_ofNat']; omega
    have hJ1 : ref_cut22J1 l total out (UInt64.ofNat n) = some (out ++ dropS n l) := by
      unfold ref_cut22J1
      rw [hA, sub_ofNat (by omega) (by omega), oS (rcut_eq l _ _), en, eS]
      have : cutS l n (sumS l - n) = dropS n l := by
        unfold cutS; rw [if_pos hg, take_all _ _ (drop_pos n l hpos) (by omega)]
      rw [this, cFits (by omega)]
    unfold ref_cut22L2 ref_cut22L2B
    by_cases h : i < cuts.length
    · have g := ix_nat (getq h)
      rw [drop_ix h, bP (by simp only [len]; omega), hA]
      have ih := fun (o : List Seg) (m : Nat) (a1 : m ≤ sumS l) (a2 : o.length ≤ 64) => refCutL l hg cuts hc total M hA hm nf (i + 1) o m (by omega) (by omega) a1 a2
      generalize cuts[i] = c at *
      by_cases h0 : sumS l = 0
      · rw [bN (by rw [GT.gt, lt64, eA]; simp; exact h0), hJ1, cutG_zero _ _ _ _ (by omega)]
      · rw [bP (by rw [GT.gt, lt64, eA]; simp; omega), oS g]
        have hJ3 : ∀ o a, ref_cut22J3 (i : Int) (ref_cut22L2 l cuts (M : Int) total nf) o a = ref_cut22L2 l cuts (M : Int) total nf o a ((i + 1 : Nat) : Int) := fun o a => by
          unfold ref_cut22J3; rw [wi_succ (by omega)]
        by_cases h1 : c ≤ 0
        · rw [bP h1, hJ3, ih out n hns ho]; simp only [cutG, if_pos (Or.inl h1 : c ≤ 0 ∨ sumS (dropS n l) ≤ (u64 c).toNat)]
        · rw [bN h1, oS g, sub_ofNat (by omega) (by omega)]
          by_cases h2 : sumS l - n ≤ (u64 c).toNat
          · rw [bP (by rw [GE.ge, le64, eS]; exact h2), hJ3, ih out n hns ho]
            simp only [cutG, if_pos (Or.inr (by rw [hsd]; exact h2) : c ≤ 0 ∨ sumS (dropS n l) ≤ (u64 c).toNat)]
          · rw [bN (by rw [GE.ge, le64, eS]; exact h2), oS g]
            have e1 : UInt64.ofNat n + u64 c = UInt64.ofNat (n + (u64 c).toNat) := by rw [UInt64.ofNat_add, UInt64.ofNat_toNat]
            have hcut : cutG M (c :: cuts.drop (i + 1)) out (dropS n l) = if M < out.length + (takeS (u64 c).toNat (dropS n l)).length + (dropS (u64 c).toNat (dropS n l)).length then out ++ dropS n l
                else cutG M (cuts.drop (i + 1)) (out ++ takeS (u64 c).toNat (dropS n l)) (dropS (u64 c).toNat (dropS n l)) := by
              conv => lhs; unfold cutG
              rw [if_neg (by omega)]
            rw [hcut]
            have c2 : ref_Cut05 l (UInt64.ofNat n) (u64 c) = some (takeS (u64 c).toNat (dropS n l)) := by
              rw [rcut_eq, en]; unfold cutS; rw [if_pos hg]
            rw [oS c2, oS g]
            have c3 : ref_Cut05 l (UInt64.ofNat n + u64 c) (UInt64.ofNat (sumS l)) = some (dropS (u64 c).toNat (dropS n l)) := by
              rw [e1, rcut_eq, eA, show (UInt64.ofNat (n + (u64 c).toNat)).toNat = n + (u64 c).toNat from by rw [UInt64.toNat_ofNat']; omega]
              unfold cutS
              rw [if_pos hg, drop_drop _ _ _ hpos, take_all _ _ (drop_pos _ _ hpos) (by rw [sum_drop]; omega)]
            rw [oS c3]
            have hl := td_len (u64 c).toNat (dropS n l)
            generalize (u64 c).toNat = q at *
            have hb3 : out.length + (takeS q (dropS n l)).length + (dropS q (dropS n l)).length ≤ 1000 := by omega
            rw [wi3 hb3]
            by_cases h3 : M < out.length + (takeS q (dropS n l)).length + (dropS q (dropS n l)).length
            · rw [bP (by omega), if_pos h3]; exact hJ1
            · rw [bN (by omega), if_neg h3, cFits (by omega), oS g, e1, hJ3]
              have := ih (out ++ takeS q (dropS n l)) (n + q) (by omega) (by rw [List.length_append]; omega)
              rw [this, drop_drop _ _ _ hpos]
    · rw [bN (by simp only [len]; omega), List.drop_of_length_le (by omega)]; exact hJ1
theorem rsplit_eq {l : List Seg} (hg : goodS l) (cuts : List Int) (hc : cuts.length ≤ 1000000) (M : Nat) (hm : M ≤ 64) : ref_cut22 l cuts (M : Int) = some (cutG M cuts [] l) := by
  unfold ref_cut22
  have hs := sum_rw l
  have ht : totS l = (UInt64.ofNat (rdS l), UInt64.ofNat (wrS l)) := by unfold totS; rw [if_pos hg]
  rw [oS (refTotal l), ht]
  have := refCutL l hg cuts hc (UInt64.ofNat (rdS l), UInt64.ofNat (wrS l)) M (by rw [hs, UInt64.ofNat_add]) hm fuel 0 [] 0 (by omega) (by rw [fuelS]; omega) (by omega) (by simp)
  rw [List.drop_zero, drop0] at this; exact this
theorem rcutQ_eq (l : List Seg) (cuts : List Int) (hc : cuts.length ≤ 1000000) : ref_Cut22 l cuts = some (if goodS l then cutQ l cuts else []) := by
  unfold ref_Cut22
  rw [oS (refCheck l)]
  by_cases hg : goodS l
  · have h64 := hg.1
    have hl := filter_lens l
    have gr := good_filter (w := false) hg
    have gw := good_filter (w := true) hg
    have p1 : ref_Part05 l false = some (l.filter (fun s => s.Write == false)) := by rw [rpart_eq]; unfold partS; rw [if_pos hg]
    have p2 : ref_Part05 l true = some (l.filter (fun s => s.Write == true)) := by rw [rpart_eq]; unfold partS; rw [if_pos hg]
    rw [nE (errS_good hg), oS p1, oS p2, if_pos hg]
    unfold cutQ
    generalize l.filter (fun s => s.Write == false) = r at *
    generalize l.filter (fun s => s.Write == true) = w at *
    have e1 : wi ((64 : Int) - len w) = ((64 - w.length : Nat) : Int) := by simp only [len]; rw [wi_in (by omega) (by omega)]; omega
    rw [e1, oS (rsplit_eq gr cuts hc _ (by omega))]
    have la := cutG_len (64 - w.length) cuts [] r (by simp only [List.length_nil]; omega)
    generalize cutG (64 - w.length) cuts [] r = a at *
    have e2 : wi ((64 : Int) - len a) = ((64 - a.length : Nat) : Int) := by simp only [len]; rw [wi_in (by omega) (by omega)]; omega
    have lb := cutG_len (64 - a.length) cuts [] w (by simp only [List.length_nil]; omega)
    rw [e2, oS (rsplit_eq gw cuts hc _ (by omega)), cFits (by omega)]
  · rw [nF (errS_bad hg), if_neg hg]
theorem rsize_eq (r : Req) (hd : r.Data.length ≤ 6000) (hr : r.Room ≤ 6000) : ref_Size22 r = some (if okQ r then ((sizeQ r : Nat) : Int) else 0, if okQ r then 0 else 2) := by
  rw [← size_eq r hd hr]
  unfold ref_Size22 blkdrv_Size
  rw [refBytes21_eq r (by omega), blkBytes_eq r (by omega)]
theorem rlay_bad {m : dumbwaiterref02_Mem} (a : UInt64) (r : Req) (cuts : List Int) (hd : r.Data.length ≤ 6000) (hr : r.Room ≤ 6000) (h : ¬ okQ r) : ref_Lay22 m a r cuts = some ([], 2, m.B) := by
  unfold ref_Lay22
  rw [oS (rsize_eq r hd hr)]
  simp only [if_neg h]
  rw [nF (by decide)]
theorem rhas1 {x : List UInt8} (hx : flatOk 16384 x) (a n : UInt64) : ref_Mem_Has02 ⟨rg 16384, [x]⟩ a n = some (decide (0 < n.toNat ∧ a.toNat + n.toNat ≤ 16384)) := by
  rw [rhas_eq _ (flat_mem hx), find1, show (16384 : UInt64).toNat = 16384 from rfl]
  by_cases h : 0 < n.toNat ∧ a.toNat + n.toNat ≤ 16384
  · rw [if_pos h, decide_eq_true h]; rfl
  · rw [if_neg h, decide_eq_false h]; rfl
theorem rlay_far {x : List UInt8} (hx : flatOk 16384 x) (a : UInt64) (r : Req) (cuts : List Int) (hd : r.Data.length ≤ 6000) (hr : r.Room ≤ 6000) (h : okQ r) (hf : 16384 < a.toNat + sizeQ r) : ref_Lay22 ⟨rg 16384, [x]⟩ a r cuts = some ([], 5, [x]) := by
  obtain ⟨h1, h2, h3⟩ := h
  have h : okQ r := ⟨h1, h2, h3⟩
  have hl := reqB_len r
  have hsz : sizeQ r ≤ 100000 := by unfold sizeQ; omega
  unfold ref_Lay22
  rw [oS (rsize_eq r hd hr)]
  simp only [if_pos h]
  rw [nE rfl, u64_of, oS (rhas1 hx _ _), n64' (by omega), decide_eq_false (by omega), notF, brT]
theorem rlay_ok {x : List UInt8} (hx : flatOk 16384 x) (a : Nat) (r : Req) (cuts : List Int) (hd : r.Data.length ≤ 6000) (hr : r.Room ≤ 6000) (h : okQ r) (hf : a + sizeQ r ≤ 16384) (hc : cuts.length ≤ 1000000) :
    ref_Lay22 ⟨rg 16384, [x]⟩ (UInt64.ofNat a) r cuts = some (cutQ (twoS a (reqB r).length (r.Room.toNat + 1)) cuts, 0, [wrF x a (reqB r ++ List.replicate (r.Room.toNat + 1) 0)]) := by
  obtain ⟨h1, h2, h3⟩ := h
  have h : okQ r := ⟨h1, h2, h3⟩
  have hl := reqB_len r
  have e3 : u64 (len (reqB r)) = UInt64.ofNat (reqB r).length := u64_of _
  have hsz : sizeQ r = (reqB r).length + r.Room.toNat + 1 := rfl
  have e4 : wi (((sizeQ r : Nat) : Int) - len (reqB r)) = ((r.Room.toNat + 1 : Nat) : Int) := by simp only [len]; rw [wi_in (by omega) (by omega)]; omega
  have e5 : u32 (len (reqB r)) = UInt32.ofNat (reqB r).length := u32_of _
  have hg := two_good (a := a) (n := (reqB r).length) (m := r.Room.toNat + 1) (by omega) (by omega) (by omega)
  have hcut := rcutQ_eq (twoS a (reqB r).length (r.Room.toNat + 1)) cuts hc
  rw [if_pos hg] at hcut
  have hwl : (reqB r ++ List.replicate (r.Room.toNat + 1) (0 : UInt8)).length = sizeQ r := by rw [List.length_append, List.length_replicate]; omega
  have hw : ref_Mem_Write02 ⟨rg 16384, [x]⟩ (UInt64.ofNat a) (reqB r ++ List.replicate (r.Room.toNat + 1) 0) = some (0, [wrF x a (reqB r ++ List.replicate (r.Room.toNat + 1) 0)]) := by
    rw [rwrite_eq _ (flat_mem hx) _ _ (by omega), if_neg (fun q => by rw [q] at hwl; simp at hwl; omega), write1, if_pos ⟨by omega, by rw [hwl, n64' (by omega)]; exact hf⟩, n64' (by omega)]
  unfold ref_Lay22
  rw [oS (rsize_eq r hd hr)]
  simp only [if_pos h]
  rw [nE rfl, u64_of, oS (rhas1 hx _ _), n64' (by omega), n64' (by omega), decide_eq_true ⟨by omega, hf⟩, notT, brF, oS (refBytes21_eq r (by omega)), if_pos h]
  dsimp only
  rw [cFits (by simp; omega), e4, cD' (by omega), Int.toNat_natCast, oS hw, e5, e3, u32_of, ← UInt64.ofNat_add]
  refine Eq.trans (oS hcut) rfl
end Go.Proofs.Ytkmjpgfbcklopaa

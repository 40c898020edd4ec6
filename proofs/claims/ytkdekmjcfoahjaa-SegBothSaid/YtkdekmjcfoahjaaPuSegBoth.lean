/- The law SegBoth in plain words. No condition. -/
import Derived.Test.YtkdekmjcfoahjaaPuFlat
namespace Go.Proofs.Ytkdekmjcfoahjaa
theorem lives05 : law05zlives = some true := by kernel_rfl
theorem wi5 {a : Nat} (h : a < 4294967296) : wi ((a : Int) + 5) = ((a + 5 : Nat) : Int) := by
  have e : ((a : Nat) : Int) + 5 = ((a + 5 : Nat) : Int) := by omega
  rw [e]; exact wi_nat (by omega)
theorem wi5t {a : Nat} (h : a < 4294967296) : wi (i64 (UInt64.ofNat a) + 5) = ((a + 5 : Nat) : Int) := by
  have q : (UInt64.ofNat a).toNat = a := by rw [UInt64.toNat_ofNat', Nat.mod_eq_of_lt (by omega)]
  rw [i64_of (by rw [q]; omega), q]; exact wi5 h
theorem both_ok (l : List Seg) (c : UInt64) (x : List UInt8) (h : flatOk 2000 x) (hg : goodS l) (hi : inF 2000 l) :
    ((gatF x (takeS (c.toNat % (rdS l + 1)) (l.filter (fun s => s.Write == false)))) ++ gatF x (dropS (c.toNat % (rdS l + 1)) (l.filter (fun s => s.Write == false)))) = gatF x (l.filter (fun s => s.Write == false)) := by
  have hl : x.length = 2000 := h.2.2
  have hf : inF x.length (l.filter (fun s => s.Write == false)) := by rw [hl]; exact inF_filter hi
  rw [gat_take hf, gat_drop (by omega) hf, List.take_append_drop]
set_option maxHeartbeats 4000000 in
theorem t_law05zSegBoth (l : List Seg) (raw : List UInt8) (c : UInt64) : law05zSegBoth l raw c = some true := by
  unfold law05zSegBoth
  have hn : (!true) = false := rfl
  rw [oS lives05, cNT hn]
  by_cases h1 : len l > 100
  · rw [bP h1]
  by_cases h2 : len raw > 2000
  · rw [bN h1, bP h2]
  rw [bN h1, bN h2, oS (segCheck l)]
  by_cases hg : goodS l
  · have e2 : raw.length ≤ 2000 := by simp only [len] at h2; omega
    have z0 : flatOk 2000 (z1 2000) := z1_ok (by decide) (by decide)
    have hN := new1_eq (n := 2000) (by decide) (by decide)
    have ko : kit_Own raw = some raw := by unfold kit_Own; rw [cFits (by simp; omega)]
    rw [nE (errS_good hg), show [(Region.mk (0 : UInt64) (2000 : UInt64))] = rg 2000 from rfl, oS hN]
    dsimp only
    rw [onS, cnE rfl, oS ko, oS (write1_eq z0 0 raw (by simpa using e2))]
    have y1 : flatOk 2000 (wrF (z1 2000) (0 : UInt64).toNat raw) := wrF_ok z0 (by simpa using e2)
    dsimp only
    rw [cnE rfl]
    revert y1
    generalize wrF (z1 2000) (0 : UInt64).toNat raw = x
    intro y1
    have fm := flat_mem y1
    rw [oS (segIn_eq ⟨rg 2000, [x]⟩ fm l)]
    dsimp only
    by_cases hi : inF 2000 l
    · have e0 : inE (rg 2000) l = 0 := inE1_zero.2 ⟨hg, hi⟩
      have hrw := sum_rw l
      have hs := hg.2.2
      have gp : goodS (l.filter (fun s => s.Write == false)) := good_filter hg
      have ip : inF 2000 (l.filter (fun s => s.Write == false)) := inF_filter hi
      have hlx : x.length = 2000 := y1.2.2
      have hsum : sumS (l.filter (fun s => s.Write == false)) = rdS l := sum_rd l
      have hgl : (gatF x (l.filter (fun s => s.Write == false))).length = rdS l := by rw [gatF_len (by rw [hlx]; exact ip), hsum]
      have tt : totS l = (UInt64.ofNat (rdS l), UInt64.ofNat (wrS l)) := by unfold totS; rw [if_pos hg]
      have m1 : UInt64.ofNat (rdS l) + 1 = UInt64.ofNat (rdS l + 1) := by rw [UInt64.ofNat_add]; rfl
      have mc : c % (UInt64.ofNat (rdS l) + 1) = UInt64.ofNat (c.toNat % (rdS l + 1)) := by
        rw [m1]; apply UInt64.toNat_inj.1
        rw [UInt64.toNat_mod, UInt64.toNat_ofNat', UInt64.toNat_ofNat', Nat.mod_eq_of_lt (by omega : rdS l + 1 < 2 ^ 64)]
        have := Nat.mod_lt c.toNat (show 0 < rdS l + 1 by omega)
        omega
      have hk := Nat.mod_lt c.toNat (show 0 < rdS l + 1 by omega)
      have B := both_ok l c x y1 hg hi
      revert B mc hk
      generalize c.toNat % (rdS l + 1) = k
      intro mc hk B
      have c1 : seg_Cut (l.filter (fun s => s.Write == false)) (0 : UInt64) (UInt64.ofNat k) = some (takeS k (l.filter (fun s => s.Write == false))) := by
        have := cut_eq (a := 0) (n := k) gp (by omega) (by omega)
        rw [drop0] at this; exact this
      have c2 : seg_Cut (l.filter (fun s => s.Write == false)) (UInt64.ofNat k) (UInt64.ofNat (rdS l)) = some (dropS k (l.filter (fun s => s.Write == false))) := by
        rw [cut_eq gp (by omega) (by omega), take_all _ _ (okS_pos (good_drop k gp).2.1) (by rw [sum_drop, hsum]; omega)]
      have g1 : seg_Gather ⟨rg 2000, [x]⟩ (takeS k (l.filter (fun s => s.Write == false))) = some (gatF x (takeS k (l.filter (fun s => s.Write == false))), 0) := by
        rw [gather1 y1 _ (good_take k gp) (inF_take ip), filter_allW (allW_take (allW_filter false l))]
      have g2 : seg_Gather ⟨rg 2000, [x]⟩ (dropS k (l.filter (fun s => s.Write == false))) = some (gatF x (dropS k (l.filter (fun s => s.Write == false))), 0) := by
        rw [gather1 y1 _ (good_drop k gp) (inF_drop (by decide) ip), filter_allW (allW_drop (allW_filter false l))]
      have hne : ((UInt64.ofNat (rdS l) + 1) == 0) = false := by
        rw [m1]; apply beq_false_of_ne; intro q
        have := congrArg UInt64.toNat q
        rw [UInt64.toNat_ofNat'] at this; simp only [UInt64.reduceToNat] at this; omega
      have s0 := scatter1 y1 l [] (by simp) hg hi
      rw [scatF_nil] at s0
      have l1 : (gatF x (takeS k (l.filter (fun s => s.Write == false)))).length + (gatF x (dropS k (l.filter (fun s => s.Write == false)))).length = rdS l := by
        rw [← List.length_append, B, hgl]
      have swr : wrS l ≤ 2000 * 64 := by
        have a1 := sum_wr l
        have a2 : sumS (l.filter (fun s => s.Write == true)) ≤ 2000 * 64 := by
          have b1 : ∀ (ss : List Seg), inF 2000 ss → sumS ss ≤ 2000 * ss.length := fun ss => by
            induction ss with
            | nil => intro _; simp [sumS]
            | cons s r ih => intro hh; have hh2 := inF_cons.1 hh; have := ih hh2.2; simp only [sumS, List.length_cons]; omega
          have := b1 _ (inF_filter (p := fun s => s.Write == true) hi)
          have := List.length_filter_le (fun s => s.Write == true) l
          have := hg.1
          omega
        omega
      rw [e0, nE rfl, oS (segTotal l), oS (part_eq hg false), tt]
      dsimp only
      rw [cNT hne, oS (gather1 y1 l hg hi), mc, oS c1, oS g1, oS c2, oS g2, oS (image1_eq y1), oS s0]
      dsimp only
      rw [cnE rfl, cnE rfl, cnE rfl, cnE rfl, cnE (by simp), cnE (by rw [show len (gatF x (l.filter (fun s => s.Write == false))) = ((rdS l : Nat) : Int) by rw [← hgl]; rfl, u64_of]), cP (by omega), cnE B, oS (image1_eq y1), cnE rfl, wi5t (show wrS l < 4294967296 by omega), cP (by omega), Int.toNat_natCast, oS (scatter1 y1 l _ (by rw [List.length_replicate]; omega) hg hi)]
      dsimp only
      rw [cE rfl, cE (by rw [List.length_replicate, Nat.min_eq_right (by omega), u64_of])]
    · have e5 : inE (rg 2000) l = 5 := inE1_good hg hi
      rw [e5, nF (by decide), oS (gather_eq ⟨rg 2000, [x]⟩ fm l), oS (scatter_eq ⟨rg 2000, [x]⟩ fm l raw (by omega))]
      dsimp only
      rw [e5, if_neg (by decide), if_neg (by decide)]
      dsimp only
      rw [cE rfl, cE rfl]; rfl
  · rw [nF (errS_bad hg)]
end Go.Proofs.Ytkdekmjcfoahjaa

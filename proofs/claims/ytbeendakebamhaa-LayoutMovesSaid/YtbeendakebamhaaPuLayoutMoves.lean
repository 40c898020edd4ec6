/- The law LayoutMoves in plain words. No condition. -/
import Derived.Test.YtbeendakebamhaaPuLayout3
namespace Go.Proofs.Ytbeendakebamhaa
theorem lives04 : law04zlives = some true := by kernel_rfl
def w0 (p : Bool) (n : Int) : Nat := upN (lenX n + lenY p n) 4
theorem pl_al {p : Bool} {n : Int} {b : Nat} (hs : szB p n = true) (hb : b % 16 = 0) (hb2 : b < 35184372088832) :
    plOk p n b ∧ plD b = b ∧ plV p n b = b + lenX n ∧ plW p n b = b + w0 p n := by
  obtain ⟨_, _, _, p1, p2, p3, b1, b2, b3⟩ := lenN_of hs
  have hq : qN p = 4 ∨ qN p = 2 := by unfold qN; cases p <;> simp
  have hx : lenX n % 16 = 0 := by unfold lenX; omega
  have d1 : plD b = b := by unfold plD upN; omega
  have d2 : plV p n b = b + lenX n := by
    unfold plV upN; rw [d1]
    rcases hq with q | q <;> rw [q] <;> omega
  have d3 : plW p n b = b + w0 p n := by
    unfold plW w0 upN; rw [d2]; omega
  have d4 : w0 p n ≤ lenX n + lenY p n + 3 := by unfold w0 upN; omega
  refine ⟨⟨hs, by omega, by omega, ?_, ?_, ?_, ?_⟩, d1, d2, d3⟩
  · rw [d1]; omega
  · rw [d2]; omega
  · rw [d2]; omega
  · rw [d3]; omega
def rgA (p : Bool) (n : Int) (d : UInt64) : Rings := ⟨p, n, 0 + d, UInt64.ofNat (lenX n) + d, UInt64.ofNat (w0 p n) + d⟩
theorem place_al {p : Bool} {n : Int} {d : UInt64} (hs : szB p n = true) (hb : d.toNat % 16 = 0) (hb2 : d.toNat < 35184372088832) :
    layout_Place p n d = some (rgA p n d, UInt64.ofNat (w0 p n + lenZ p n), 0) ∧ valR (rgA p n d) := by
  obtain ⟨ok, d1, d2, d3⟩ := pl_al hs hb hb2
  have e : plGood p n d = (rgA p n d, UInt64.ofNat (w0 p n + lenZ p n), 0) := by
    unfold plGood rgA
    rw [d1, d2, d3, UInt64.ofNat_toNat, Nat.add_assoc, ← addN, ← addN, ← addN, UInt64.ofNat_toNat, UInt64.add_comm d (UInt64.ofNat (lenX n)), UInt64.add_comm d (UInt64.ofNat (w0 p n)), UInt64.add_comm d (UInt64.ofNat (w0 p n + lenZ p n)), UInt64.add_sub_cancel, UInt64.zero_add]
  have hv := pl_valid ok
  rw [e] at hv
  refine ⟨?_, hv⟩
  rw [place_eq, ← e]
  exact (plS_good ok).symm
def mvF (d : UInt64) (w : UInt64 × Int × Int) : UInt64 × Int × Int := if w.2.2 = 0 then (w.1 + d, w.2.1, w.2.2) else w
theorem mv_ite {c : Prop} [Decidable c] {x y : UInt64 × Int × Int} (d : UInt64) : mvF d (if c then x else y) = if c then mvF d x else mvF d y := by split <;> rfl
theorem mv_2 (d : UInt64) : mvF d (0, 0, 2) = (0, 0, 2) := rfl
theorem mv_0 (d a : UInt64) (k : Int) : mvF d (a, k, 0) = (a + d, k, 0) := rfl
theorem wh_move {p : Bool} {n : Int} {D V W d : UInt64} (v1 : valR ⟨p, n, D, V, W⟩) (v2 : valR ⟨p, n, D + d, V + d, W + d⟩) (what i : Int) :
    whS ⟨p, n, D + d, V + d, W + d⟩ what i = mvF d (whS ⟨p, n, D, V, W⟩ what i) := by
  unfold whS
  rw [if_neg (fun q => q v2)]
  have n1 : ¬ ¬ valR ⟨p, n, D, V, W⟩ := fun q => q v1
  have sw : ∀ a b : UInt64, a + d + b = a + b + d := fun a b => by rw [UInt64.add_assoc, UInt64.add_comm d b, ← UInt64.add_assoc]
  dsimp only
  simp only [mv_ite, mv_2, mv_0, sw]
  rw [if_neg n1]
theorem rgA0 {p : Bool} {n : Int} : rgA p n 0 = ⟨p, n, 0, UInt64.ofNat (lenX n), UInt64.ofNat (w0 p n)⟩ := by
  unfold rgA; simp only [UInt64.add_zero]
theorem sz10 (k : Nat) (h : k < 10) : ∃ n : Nat, shli 1 ((u64 (k : Int)).toNat) = (n : Int) ∧ wi (2 * (n : Int)) = ((2 * n : Nat) : Int) ∧ (∀ p, szB p (n : Int) = true) ∧ (∀ p, szB p ((2 * n : Nat) : Int) = true) ∧ 0 < n ∧ n ≤ 512 := by
  have : k = 0 ∨ k = 1 ∨ k = 2 ∨ k = 3 ∨ k = 4 ∨ k = 5 ∨ k = 6 ∨ k = 7 ∨ k = 8 ∨ k = 9 := by omega
  rcases this with rfl | rfl | rfl | rfl | rfl | rfl | rfl | rfl | rfl | rfl
  · exact ⟨1, by decide, by decide, by decide, by decide, by decide, by decide⟩
  · exact ⟨2, by decide, by decide, by decide, by decide, by decide, by decide⟩
  · exact ⟨4, by decide, by decide, by decide, by decide, by decide, by decide⟩
  · exact ⟨8, by decide, by decide, by decide, by decide, by decide, by decide⟩
  · exact ⟨16, by decide, by decide, by decide, by decide, by decide, by decide⟩
  · exact ⟨32, by decide, by decide, by decide, by decide, by decide, by decide⟩
  · exact ⟨64, by decide, by decide, by decide, by decide, by decide, by decide⟩
  · exact ⟨128, by decide, by decide, by decide, by decide, by decide, by decide⟩
  · exact ⟨256, by decide, by decide, by decide, by decide, by decide, by decide⟩
  · exact ⟨512, by decide, by decide, by decide, by decide, by decide, by decide⟩
theorem cnQ {c : Bool} {k : Option Bool} {r : Option Bool} (h : c = false) (hk : k = r) : chk (!c) k = r := by rw [h]; exact hk
theorem bneF {α : Type} [BEq α] [LawfulBEq α] {a b : α} (h : a = b) : (a != b) = false := by rw [h]; exact bne_self_eq_false b
/-- the end of the law -/
theorem endM {p : Bool} {n : Int} {d : UInt64} (v1 : valR (rgA p n 0)) (v2 : valR (rgA p n d)) (what i : Int) :
    (ob (layout_Where (rgA p n 0) what i) fun where1 =>
    ob (layout_Where (rgA p n d) what i) fun where2 =>
    chk (!(where1.2.2 != where2.2.2)) <|
    chk (!(where1.2.1 != where2.2.1)) <|
    br (where1.2.2 == (0 : Int))
    (chk (!((where2.1 - where1.1) != d)) <|
    chk (((rgA p n d).Desc - (rgA p n 0).Desc) == d) <|
    chk (((rgA p n d).Driver - (rgA p n 0).Driver) == d) <|
    chk (((rgA p n d).Device - (rgA p n 0).Device) == d) <|
    ob (layout_Check (rgA p n d)) fun check1 =>
    chk (check1 == (0 : Int)) <|
    some true)
    (chk (((rgA p n d).Desc - (rgA p n 0).Desc) == d) <|
    chk (((rgA p n d).Driver - (rgA p n 0).Driver) == d) <|
    chk (((rgA p n d).Device - (rgA p n 0).Device) == d) <|
    ob (layout_Check (rgA p n d)) fun check2 =>
    chk (check2 == (0 : Int)) <|
    some true)) = some true := by
  have hc : layout_Check (rgA p n d) = some 0 := by rw [check_eq, decide_eq_true v2]; rfl
  have hw : whS (rgA p n d) what i = mvF d (whS (rgA p n 0) what i) := by
    rw [rgA0] at v1 ⊢
    exact wh_move v1 v2 what i
  have g1 : (rgA p n d).Desc - (rgA p n 0).Desc = d := by unfold rgA; dsimp only; rw [UInt64.add_zero, UInt64.add_comm, UInt64.add_sub_cancel]
  have g2 : (rgA p n d).Driver - (rgA p n 0).Driver = d := by unfold rgA; dsimp only; rw [UInt64.add_zero, UInt64.add_comm, UInt64.add_sub_cancel]
  have g3 : (rgA p n d).Device - (rgA p n 0).Device = d := by unfold rgA; dsimp only; rw [UInt64.add_zero, UInt64.add_comm, UInt64.add_sub_cancel]
  rw [oS (where_eq _ _ _), oS (where_eq _ _ _), hw, g1, g2, g3, hc]
  generalize whS (rgA p n 0) what i = w
  obtain ⟨a, k, e⟩ := w
  unfold mvF
  dsimp only
  have be : (d == d) = true := beq_self_eq_true d
  by_cases h : e = 0
  · rw [if_pos h]
    dsimp only
    rw [cnQ (bneF rfl) rfl, cnQ (bneF rfl) rfl, bE h, UInt64.add_comm a d, UInt64.add_sub_cancel, cnQ (bneF rfl) rfl, be]; rfl
  · rw [if_neg h]
    dsimp only
    rw [cnQ (bneF rfl) rfl, cnQ (bneF rfl) rfl, bF h, be]; rfl
theorem t_law04zLayoutMoves (packed : Bool) (size : Int) (base : UInt64) (what i : Int) : law04zLayoutMoves packed size base what i = some true := by
  unfold law04zLayoutMoves
  have hn : (!true) = false := rfl
  rw [oS lives04, cNT hn]
  obtain ⟨k, hk, hk2⟩ := pick_eq size 10 (by decide) (by decide)
  rw [oS (show kit_Pick size 10 = some (k : Int) from hk)]
  obtain ⟨n, e1, e2, s1, s2, n1, n2⟩ := sz10 k hk2
  obtain ⟨p2, hp2, _⟩ := pick_eq what 11 (by decide) (by decide)
  obtain ⟨p3, hp3, _⟩ := pick_eq i n n1 (by omega)
  rw [e1, e2]
  generalize hd : (base % (1099511627776 : UInt64)) * (16 : UInt64) = d
  have hd1 : d.toNat = (base.toNat % 1099511627776) * 16 := by
    rw [← hd, UInt64.toNat_mul, UInt64.toNat_mod]
    simp only [UInt64.reduceToNat]; omega
  obtain ⟨a1, v1⟩ := place_al (d := 0) (s1 packed) (by decide) (by decide)
  obtain ⟨a2, v2⟩ := place_al (d := d) (s1 packed) (by omega) (by omega)
  obtain ⟨a3, v3⟩ := place_al (d := 0) (s2 packed) (by decide) (by decide)
  rw [oS a1, oS a2, oS a3]
  dsimp only
  have fin := endM v1 v2 (wi (1 + (p2 : Int))) (p3 : Int)
  rw [cnQ (bneF rfl) rfl, cnQ (bneF rfl) rfl, cnQ (bneF rfl) rfl, cnQ (bneF rfl) rfl]
  have z1 : (UInt64.ofNat (w0 packed (n : Int) + lenZ packed (n : Int))).toNat = w0 packed (n : Int) + lenZ packed (n : Int) := ofN (by unfold w0 upN lenX lenY lenZ; cases packed <;> simp <;> omega)
  have z2 : (UInt64.ofNat (w0 packed ((2 * n : Nat) : Int) + lenZ packed ((2 * n : Nat) : Int))).toNat = w0 packed ((2 * n : Nat) : Int) + lenZ packed ((2 * n : Nat) : Int) := ofN (by unfold w0 upN lenX lenY lenZ; cases packed <;> simp <;> omega)
  have z3 : w0 packed (n : Int) + lenZ packed (n : Int) < w0 packed ((2 * n : Nat) : Int) + lenZ packed ((2 * n : Nat) : Int) := by unfold w0 upN lenX lenY lenZ; cases packed <;> simp <;> omega
  rw [cnQ (decide_eq_false (by rw [le64, z1, z2]; omega)) rfl, oS (parts_eq _), oS (parts_eq _)]
  have q1 : prS (rgA packed (n : Int) 0).Packed (rgA packed (n : Int) 0).Size = (UInt64.ofNat (lenX (n : Int)), UInt64.ofNat (lenY packed (n : Int)), UInt64.ofNat (lenZ packed (n : Int))) := if_pos (s1 packed)
  have q2 : prS (rgA packed ((2 * n : Nat) : Int) 0).Packed (rgA packed ((2 * n : Nat) : Int) 0).Size = (UInt64.ofNat (lenX ((2 * n : Nat) : Int)), UInt64.ofNat (lenY packed ((2 * n : Nat) : Int)), UInt64.ofNat (lenZ packed ((2 * n : Nat) : Int))) := if_pos (s2 packed)
  rw [q1, q2]
  dsimp only
  have x1 : UInt64.ofNat (lenX ((2 * n : Nat) : Int)) = 2 * UInt64.ofNat (lenX (n : Int)) := by
    rw [show (2 : UInt64) = UInt64.ofNat 2 from rfl, mul_of]
    refine congrArg _ ?_
    unfold lenX; simp only [Int.toNat_natCast]; omega
  rw [cnQ (bneF x1) rfl]
  cases packed with
  | true =>
    have y1 : UInt64.ofNat (lenY true ((2 * n : Nat) : Int)) = UInt64.ofNat (lenY true (n : Int)) := rfl
    have y2 : UInt64.ofNat (lenZ true ((2 * n : Nat) : Int)) = UInt64.ofNat (lenZ true (n : Int)) := rfl
    rw [bT rfl, cnQ (bneF y1) rfl, cnQ (bneF y2) rfl, oS (show kit_Pick what 11 = some (p2 : Int) from hp2), oS hp3]
    exact fin
  | false =>
    have y1 : UInt64.ofNat (lenY false ((2 * n : Nat) : Int)) - 6 = 2 * (UInt64.ofNat (lenY false (n : Int)) - 6) := by
      have f : ∀ m : Nat, UInt64.ofNat (lenY false (m : Int)) - 6 = UInt64.ofNat (2 * m) := fun m => by
        unfold lenY; simp only [Int.toNat_natCast]
        rw [if_neg (by decide), ← addN, UInt64.add_comm]; exact UInt64.add_sub_cancel _ _
      rw [f, f, show (2 : UInt64) = UInt64.ofNat 2 from rfl, mul_of]
    have y2 : UInt64.ofNat (lenZ false ((2 * n : Nat) : Int)) - 6 = 2 * (UInt64.ofNat (lenZ false (n : Int)) - 6) := by
      have f : ∀ m : Nat, UInt64.ofNat (lenZ false (m : Int)) - 6 = UInt64.ofNat (8 * m) := fun m => by
        unfold lenZ; simp only [Int.toNat_natCast]
        rw [if_neg (by decide), ← addN, UInt64.add_comm]; exact UInt64.add_sub_cancel _ _
      rw [f, f, show (2 : UInt64) = UInt64.ofNat 2 from rfl, mul_of]
      refine congrArg _ ?_
      omega
    rw [bFl rfl, cnQ (bneF y1) rfl, cnQ (bneF y2) rfl, oS (show kit_Pick what 11 = some (p2 : Int) from hp2), oS hp3]
    exact fin
end Go.Proofs.Ytbeendakebamhaa

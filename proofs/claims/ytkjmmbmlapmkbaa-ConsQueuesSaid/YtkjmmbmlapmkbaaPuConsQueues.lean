/- The law ConsQueues in plain words. No condition. -/
import Derived.Test.YtkjmmbmlapmkbaaPuBase
namespace Go.Proofs.Ytkjmmbmlapmkbaa
theorem lives28 : law28zlives = some true := by kernel_rfl
def partA (k : Int) (b : Bool) : Bool := match cons_Queue k b with
  | none => false
  | some q => match cons_Port q.1 with
    | none => false
    | some p => q.2 == 0 && (p.2.2.2 == 0 && (p.1 == k && (p.2.1 == b && !p.2.2.1)))
def partB (q : Int) : Bool := match cons_Port q with
  | none => false
  | some p => p.2.2.2 == 0 && (p.2.2.1 == (q == 2 || q == 3) && (p.2.1 == (remi q 2 == 1) && match cons_Queue p.1 p.2.1 with
    | none => false
    | some r => bif p.2.2.1 then p.1 == 0 else r.2 == 0 && r.1 == q))
theorem allA : ∀ (k : Fin 32) (b : Bool), partA ((k.val : Nat) : Int) b = true := by decide +kernel
theorem allB : ∀ q : Fin 66, partB ((q.val : Nat) : Int) = true := by decide +kernel
theorem cnQ {c : Bool} {k : Option Bool} {r : Option Bool} (h : c = false) (hk : k = r) : chk (!c) k = r := by rw [h]; exact hk
theorem bneF {α : Type} [BEq α] [LawfulBEq α] {a b : α} (h : a = b) : (a != b) = false := by rw [h]; exact bne_self_eq_false b
theorem cQ {c : Bool} {k : Option Bool} {r : Option Bool} (h : c = true) (hk : k = r) : chk c k = r := by rw [h]; exact hk
theorem factA {k : Int} {b : Bool} (h : partA k b = true) : ∃ u p, cons_Queue k b = some u ∧ cons_Port u.1 = some p ∧ u.2 = 0 ∧ p.2.2.2 = 0 ∧ p.1 = k ∧ p.2.1 = b ∧ p.2.2.1 = false := by
  unfold partA at h
  generalize h1 : cons_Queue k b = x at h
  cases x with
  | none => cases h
  | some u =>
    dsimp only at h
    generalize h2 : cons_Port u.1 = y at h
    cases y with
    | none => cases h
    | some p =>
      simp only [Bool.and_eq_true, beq_iff_eq, Bool.not_eq_true'] at h
      exact ⟨u, p, rfl, h2, h.1, h.2.1, h.2.2.1, h.2.2.2.1, h.2.2.2.2⟩
theorem factB {q : Int} (h : partB q = true) : ∃ r s, cons_Port q = some r ∧ cons_Queue r.1 r.2.1 = some s ∧ r.2.2.2 = 0 ∧ r.2.2.1 = (q == 2 || q == 3) ∧ r.2.1 = (remi q 2 == 1) ∧ (br r.2.2.1 (chk (r.1 == (0 : Int)) <| some true) (chk (s.2 == (0 : Int)) <| chk (s.1 == q) <| some true)) = some true := by
  unfold partB at h
  generalize h1 : cons_Port q = x at h
  cases x with
  | none => cases h
  | some r =>
    dsimp only at h
    generalize h2 : cons_Queue r.1 r.2.1 = y at h
    cases y with
    | none => simp at h
    | some s =>
      simp only [Bool.and_eq_true, beq_iff_eq] at h
      obtain ⟨b1, b2, b3, b4⟩ := h
      refine ⟨r, s, rfl, h2, b1, b2, b3, ?_⟩
      generalize r.2.2.1 = c at b4
      cases c with
      | true =>
        have b5 : (r.1 == (0 : Int)) = true := b4
        rw [bT rfl, cQ b5 rfl]
      | false =>
        have b5 : (s.2 == 0 && s.1 == q) = true := b4
        rw [Bool.and_eq_true] at b5
        rw [bFl rfl, cQ b5.1 rfl, cQ b5.2 rfl]
theorem t_law28zConsQueues (port queue : Int) (b : Bool) : law28zConsQueues port queue b = some true := by
  unfold law28zConsQueues
  have hn : (!true) = false := rfl
  rw [oS lives28, cNT hn]
  obtain ⟨k, ek, hk⟩ := pick_eq port 32 (by decide) (by decide)
  obtain ⟨q, eq, hq⟩ := pick_eq queue 66 (by decide) (by decide)
  rw [oS (show kit_Pick port 32 = some (k : Int) from ek), oS (show kit_Pick queue 66 = some (q : Int) from eq)]
  obtain ⟨u, p, h1, h2, a1, a2, a3, a4, a5⟩ := factA (allA ⟨k, hk⟩ b)
  obtain ⟨r, s, h3, h4, b1, b2, b3, tail⟩ := factB (allB ⟨q, hq⟩)
  rw [oS h1, oS h2, cnE a1, cnE a2, cnE a3, cnE a4, cNT a5, oS h3, cnE b1]
  by_cases c : (q : Int) = 2
  · rw [bE c, cnQ (bneF (by rw [b2]; show ((q : Int) == 2 || (q : Int) == 3) = true; rw [c]; rfl)) rfl, cnQ (bneF b3) rfl, oS h4]
    exact tail
  · rw [bF c, cnQ (bneF (by rw [b2]; show ((q : Int) == 2 || (q : Int) == 3) = _; rw [beq_false_of_ne c, Bool.false_or])) rfl, cnQ (bneF b3) rfl, oS h4]
    exact tail
end Go.Proofs.Ytkjmmbmlapmkbaa

/- The engine, part 16: loops gone through round by round, fields of elements of rows of one's own, rows of constant bytes, maps of one's own. No statement of the seat is proved here; no condition. -/
import Derived.Test.YtlofegfaphijpaaEng15
import Derived.LoopN
import Derived.MapKept
namespace Go.Proofs.Ytlofegfaphijpaa

section
variable {c : Cx} {k : List Item} {s : St} {ops : Array Oper} {rest : List Oper} {o : Oper} {fr : List (Nat × Option Value)} {own : List (Option Res)} {shr : List Fact} {d : Nat} {τ σ : Type} {S : Shape τ}

/-! ## loops, round by round -/
theorem Tk_unroll (n : Nat) {body : Code} (h : Tk c (.code body :: .back (Code.rounds c.P body (contQ c k) n) :: k) s) : Tk c (.code (.loop body) :: k) s := fun a w hs => by
  show (Code.loop body).wp c.P (contQ c k) a w
  have q : body.wp c.P (contQ c (.back (Code.rounds c.P body (contQ c k) n) :: k)) a w := h a w hs
  rw [contQ_back] at q
  exact wp_loop_rounds (n + 1) q
theorem Tk_round {n : Nat} {body : Code} (h : Tk c (.code body :: .back (Code.rounds c.P body (contQ c k) n) :: k) s) : Tk c (.back (Code.rounds c.P body (contQ c k) (n + 1)) :: k) s := fun a w hs => by
  show Code.rounds c.P body (contQ c k) (n + 1) a w
  have q : body.wp c.P (contQ c (.back (Code.rounds c.P body (contQ c k) n) :: k)) a w := h a w hs
  rw [contQ_back] at q
  exact q

variable {cells : τ → List Value} {sz : Nat} {ag ag' : Bool} {hl : ∀ x, (cells x).length = sz} {hone : ∀ x, (cells x).all (·.oneCell') = true}
end
end Go.Proofs.Ytlofegfaphijpaa

/- The engine, part 18: made zeros behind a row of one's own; blocks that become rows; slices of whole arrays with a bound. No statement of the seat is proved here; no condition. -/
import Derived.Test.YtdaijemhibbgeaaEng17
namespace Go.Proofs.Ytdaijemhibbgeaa

section
variable {c : Cx} {k : List Item} {s : St} {ops : Array Oper} {rest : List Oper} {o : Oper} {fr : List (Nat × Option Value)} {own : List (Option Res)} {shr : List Fact} {d : Nat} {τ σ : Type} {S : Shape τ} {S' : Shape σ}

/-- a block that holds an array becomes a row -/
theorem vs_rowD (S : Shape τ) {i b n : Nat} {t : TypeId} {cs : List Value} {xs : List τ} {cells : τ → List Value} {sz : Nat} {ag : Bool} {hl : ∀ x, (cells x).length = sz} {hone : ∀ x, (cells x).all (·.oneCell') = true} (hS : S = Shape.plain sz ag cells hl hone) (hi : own[i]? = some (some (cellsR b t cs))) (hc : (xs.map cells).flatten = cs) (hn : xs.length = n) (hm : Nat.ble n 140737488355328 = true) :
    VS c ⟨fr, own, shr⟩ ⟨fr, own.set i (some (rowS S (.slice (some ⟨b, 0, none⟩) n n) xs)), shr⟩ := by
  subst hS
  exact fun a w hs => ⟨hs.1, hs.2.1, hs.2.2.1, hs.2.2.2.rowC hi hc hn hm⟩

/-- x[:n:n] of an array of n of one's own -/
theorem OpT_sliceArr3 {t e : TypeId} {x hi mx : Operand} {b n sz : Nat} {kh km : IntKind} {h m : Int} (hn : Nat.blt d c.n = true) (hd : o.dst = some d) (ho : o.op = .slice t x none (some hi) (some mx)) (hx : ev fr x = some (.pointer (some ⟨b, 0, none⟩))) (hh : ev fr hi = some (.int kh h)) (hm : ev fr mx = some (.int km m)) (ht : ArrF c.P t n e sz) (h1 : h = (n : Int)) (h2 : m = (n : Int)) :
    OpT c o ⟨fr, own, shr⟩ (fun s => s = ⟨(d, some (.slice (some ⟨b, 0, none⟩) n n)) :: fr, own, shr⟩) :=
  OpT_val hn hd fun a w hs => by
    subst h1; subst h2
    have hu := run_underlying ht.und w
    have hez := ht.ez w
    by_cases h0 : n = 0
    · subst h0
      simp [execOp, ho, ev_eval hs.2.2.1 hx, ev_eval hs.2.2.1 hh, ev_eval hs.2.2.1 hm, Instr.sliceAt, hu, Instr.sureAddr, Instr.sliceBounds, Instr.sliceBound, asIntOf, hez]
    · simp [execOp, ho, ev_eval hs.2.2.1 hx, ev_eval hs.2.2.1 hh, ev_eval hs.2.2.1 hm, Instr.sliceAt, hu, Instr.sureAddr, Instr.sliceBounds, Instr.sliceBound, asIntOf, hez, h0, Addr.add_zero']

end
end Go.Proofs.Ytdaijemhibbgeaa

/- From a law's contract to the seat's statement: arguments that are read as data, results, what stays as it was. No statement of the seat is proved here; no condition. -/
import Derived.Test.YtlofegfaphijpaaEng12
import Derived.ProofKit
namespace Go.Proofs.Ytlofegfaphijpaa
open Go.ChangeShapes Go.WideShapes Go.ChangeAt Go.RowKit

def hp (W : World) : PH := fun b => W.heap[b]?
theorem hp_in (W : World) : (hp W).inW W := fun _ _ h => h
/-- what is of type t and read as data has the shape S -/
def Rd (P : Program) {τ : Type} (S : Shape τ) (t : TypeId) : Prop :=
  ∀ (H : Type) (enc : TypeId × Value → H) (W : World) (sp : Nat → Bool) (hd : Bool) (fuel : Nat) (cs : List Value) (y : DataW H × List MemPlace), DataW.trod enc P W 0 sp hd fuel t cs = some y → ∃ x, S.rel (hp W) cs x

section
variable {P : Program} {t e : TypeId} {τ : Type} {S : Shape τ}
theorem rd_core {k : IntKind} (ht : P.underlying t = some (.int k)) {H : Type} {enc : TypeId × Value → H} {W : World} {sp : Nat → Bool} {hd : Bool} {fuel : Nat} {cs : List Value} {y : DataW H × List MemPlace} (h : DataW.trod enc P W 0 sp hd fuel t cs = some y) : ∃ n, cs = [.int k n] ∧ (Lit.int k n).wf = true := by
  obtain ⟨n, h1, _, h2⟩ := DataW.trod_int ht h
  exact ⟨n, h1, h2⟩
theorem rd_i (ht : P.underlying t = some (.int .i64)) : Rd P iS t := fun H enc W sp hd fuel cs y h => by
  obtain ⟨n, rfl, hw⟩ := rd_core ht h
  exact ⟨n, rfl⟩
theorem rd_b (ht : P.underlying t = some .bool) : Rd P bS t := fun H enc W sp hd fuel cs y h => by
  cases fuel with
  | zero => simp [DataW.trod] at h
  | succ n =>
    simp only [DataW.trod, ht] at h
    split at h <;> first | (cases h; done) | skip
    all_goals first | exact ⟨_, rfl⟩ | simp_all
/-- an argument that is no aggregate -/
theorem open_one {H : Type} {enc : TypeId × Value → H} {W : World} {sp : Nat → Bool} {hd : Bool} {r : Reach} {b0 : Nat} {v : Value} {d : DataW H} {ps : List MemPlace} (hS : Rd P S t) (hag : ∀ cs, ¬ Value.okWide P W r b0 t (.agg cs)) (hval : Value.okWide P W r b0 t v) (h : DataW.Trod enc P W 0 sp hd t v d ps) : ∃ x, S.rel (hp W) [v] x := by
  obtain ⟨fuel, hf⟩ := h
  have hc : v.cells.toList = [v] := by
    cases v <;> first | rfl | exact absurd hval (hag _)
  rw [hc] at hf
  exact hS H enc W sp hd fuel _ _ hf
theorem noagg_int {k : IntKind} (ht : P.underlying t = some (.int k)) {W : World} {r : Reach} {b0 : Nat} : ∀ cs, ¬ Value.okWide P W r b0 t (.agg cs) := fun cs h => by
  simp [Value.okWide, ht, Cell.okWide, Cell.ok] at h
theorem noagg_bool (ht : P.underlying t = some .bool) {W : World} {r : Reach} {b0 : Nat} : ∀ cs, ¬ Value.okWide P W r b0 t (.agg cs) := fun cs h => by
  simp [Value.okWide, ht, Cell.okWide, Cell.ok] at h
theorem args_list {H : Type} {enc : TypeId × Value → H} {W : World} {b : Nat} {sp : Nat → Bool} {hd : Bool} {ts : List TypeId} {args : Array Value} {ds : List (DataW H)} {ps : List MemPlace} (h : DataW.TrodAll enc P W b sp hd ts args.toList ds ps) : ∃ vs : List Value, args = vs.toArray ∧ DataW.TrodAll enc P W b sp hd ts vs ds ps := ⟨args.toList, by simp, h⟩
theorem facts_nil {R : PH} : ∀ F ∈ ([] : List Fact), F.p R := fun F h => by cases h
/-! behind the call -/
theorem kept_all {W W' : World} {may : MemPlace → Prop} (hb : Below W.heap.size W W') : W.keptBut W' may := by
  refine ⟨hb.os, hb.output, fun i hi => ?_⟩
  rw [hb.block i hi]
  cases W.heap[i]? with
  | none => rfl
  | some o => cases o <;> simp
theorem args_stay {H : Type} {enc : TypeId × Value → H} (hl : laidOutB P = true) {W W' : World} (hb : Below W.heap.size W W') : ∀ {ts : List TypeId} {vs : List Value} {ds : List (DataW H)} {ps : List MemPlace}, (ts.all fun t => P.readableRec t && decide (t < P.types.size)) = true →
    DataW.TrodAll enc P W 0 (fun _ => true) true ts vs ds ps → (∀ x ∈ ps, x.block < W.heap.size) → DataW.TrodAll enc P W' 0 (fun b => decide (b < W.heap.size)) true ts vs ds ps
  | [], [], [], ps, _, h, _ => h
  | t :: ts, v :: vs, d :: ds, ps, hr, h, hlt => by
    obtain ⟨p, q, h1, h2, rfl⟩ := h
    simp only [List.all_cons, Bool.and_eq_true, decide_eq_true_eq] at hr
    exact ⟨p, q, Below.trod hl hr.1.1 hr.1.2 h1 hb (fun x hx => hlt x (by simp [hx])), args_stay hl hb hr.2 h2 (fun x hx => hlt x (by simp [hx])), rfl⟩
  | [], _ :: _, _, _, _, h, _ => by simp [DataW.TrodAll] at h
  | [], [], _ :: _, _, _, h, _ => by simp [DataW.TrodAll] at h
  | _ :: _, [], _, _, _, h, _ => by simp [DataW.TrodAll] at h
  | _ :: _, _ :: _, [], _, _, h, _ => by simp [DataW.TrodAll] at h

/-- a law's contract, called in a world whose arguments read as data -/
theorem law_calls {H : Type} {enc : TypeId × Value → H} {f : FuncId} {fn : Func} {s : ChangeSpec} {args : Array Value} {shr0 : List Fact} {W : World} {ds gs : List (DataW H)} {before : List MemPlace} {rt : TypeId}
    (hl : laidOutB P = true) (hts : (fn.params.toList.all fun t => P.readableRec t && decide (t < P.types.size)) = true) (hres : fn.resultTypes = #[rt]) (hrt : P.underlying rt = some .bool) (hvars : s.vars = [])
    (hs : ∀ (ds : List (DataW H)), ds.length = fn.params.toList.length → s.fn H ds = { results := [.lit (.bool true)], args := ds })
    (hC : Ctr P f args [] shr0 (fun rv own shr => rv = .bool true ∧ own = [] ∧ shr = [])) (hF : ∀ F ∈ shr0, F.p (hp W)) (hW : DataW.Whole enc P fn.params.toList s.vars false W args.toList ds gs before) :
    Calls P f args W fun e W' => ∃ v, e = .returned v ∧ s.post enc P fn false true false false W args v W' := by
  refine (hC (hp W) W (fun _ => PH.emp) (hp_in W) hF (fun i r h => by simp at h) (fun i b o h => by cases h) (fun i j _ b => .inl rfl) (fun i b => .inr rfl)).mono ?_
  rintro e W' ⟨rv, own1, shr1, rfl, ⟨rfl, _, _⟩, R, hs', hw⟩
  refine ⟨_, rfl, ?_⟩
  have hb : Below W.heap.size W W' := ⟨hw.os, hw.tape, hw.output, hw.size, fun k hk => hw.keep k hk (by rintro ⟨i, hi, _⟩; simp at hi)⟩
  have hW0 := hW
  obtain ⟨p, q, h1, h2, rfl, h3, h4⟩ := hW
  rw [hvars] at h2
  have hgs : gs = [] ∧ q = [] := by
    cases gs with
    | nil => exact ⟨rfl, h2⟩
    | cons g gs => cases h2
  obtain ⟨rfl, rfl⟩ := hgs
  have hlen : ds.length = fn.params.toList.length := by
    have key : ∀ {ts : List TypeId} {vs : List Value} {ds : List (DataW H)} {ps : List MemPlace}, DataW.TrodAll enc P W 0 (fun _ => true) true ts vs ds ps → ds.length = ts.length := by
      intro ts
      induction ts with
      | nil => intro vs ds ps h; cases vs <;> cases ds <;> simp_all [DataW.TrodAll]
      | cons t ts ih =>
        intro vs ds ps h
        cases vs with
        | nil => simp [DataW.TrodAll] at h
        | cons v vs =>
          cases ds with
          | nil => simp [DataW.TrodAll] at h
          | cons d ds => obtain ⟨p, q, _, h2, _⟩ := h; simp [ih h2]
    exact key h1
  have hfn := hs (ds ++ []) (by simpa using hlen)
  refine ⟨ds, [], p ++ [], [], p, [], hW0, ?_, ?_, ?_, kept_all hb, fun h => by cases h⟩
  · rw [hfn, hres]
    show DataW.TrodAll enc P W' _ _ _ [rt] ((Value.bool true).resultList 1) _ []
    exact ⟨[], [], ⟨1, by simp [DataW.trod, Value.cells, hrt]⟩, rfl, rfl⟩
  · rw [hfn]
    simp only [List.append_nil]
    exact args_stay hl hb hts h1 (fun x hx => hW0.lt x (by simpa using hx))
  · rw [hfn, hvars]; rfl
end
end Go.Proofs.Ytlofegfaphijpaa

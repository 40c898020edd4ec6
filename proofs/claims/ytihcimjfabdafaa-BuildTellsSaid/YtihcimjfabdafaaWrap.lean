/- From a law's contract to the seat's statement: arguments that are read as data, results, what stays as it was. No statement of the seat is proved here; no condition. -/
import Derived.Test.YtihcimjfabdafaaEng12
import Derived.ProofKit
namespace Go.Proofs.Ytihcimjfabdafaa
open Go.ChangeShapes Go.WideShapes Go.ChangeAt Go.RowKit

def hp (W : World) : PH := fun b => W.heap[b]?
theorem hp_in (W : World) : (hp W).inW W := fun _ _ h => h
theorem hp_cell {W : World} {a : Addr} {v : Value} (h : W.cell? a = some v) : (hp W).cell a = some v := by
  unfold PH.cell; unfold World.cell? at h
  show (match W.heap[a.block]? with | some (.cells c _ _) => if a.spot.isSome then none else c[a.off]? | _ => none) = some v
  exact h

/-- what is of type t and read as data has the shape S -/
def Rd (P : Program) {τ : Type} (S : Shape τ) (t : TypeId) : Prop :=
  ∀ (H : Type) (enc : TypeId × Value → H) (W : World) (sp : Nat → Bool) (hd : Bool) (fuel : Nat) (cs : List Value) (y : DataW H × List MemPlace), DataW.trod enc P W 0 sp hd fuel t cs = some y → ∃ x, S.rel (hp W) cs x

section
variable {P : Program} {t e : TypeId} {τ : Type} {S : Shape τ}
theorem rd_core {k : IntKind} (ht : P.underlying t = some (.int k)) {H : Type} {enc : TypeId × Value → H} {W : World} {sp : Nat → Bool} {hd : Bool} {fuel : Nat} {cs : List Value} {y : DataW H × List MemPlace} (h : DataW.trod enc P W 0 sp hd fuel t cs = some y) : ∃ n, cs = [.int k n] ∧ (Lit.int k n).wf = true := by
  obtain ⟨n, h1, _, h2⟩ := DataW.trod_int ht h
  exact ⟨n, h1, h2⟩
theorem rd_u32 (ht : P.underlying t = some (.int .u32)) : Rd P u32S t := fun H enc W sp hd fuel cs y h => by
  obtain ⟨n, rfl, hw⟩ := rd_core ht h
  simp [Lit.wf, IntKind.min, IntKind.max, IntKind.bits, IntKind.signed] at hw
  refine ⟨UInt32.ofNat n.toNat, ?_⟩
  show [Value.int .u32 n] = [vU32 _]
  simp only [vU32, UInt32.toNat_ofNat', List.cons.injEq, and_true, Value.int.injEq, true_and]; omega
theorem rd_u64 (ht : P.underlying t = some (.int .u64)) : Rd P u64S t := fun H enc W sp hd fuel cs y h => by
  obtain ⟨n, rfl, hw⟩ := rd_core ht h
  simp [Lit.wf, IntKind.min, IntKind.max, IntKind.bits, IntKind.signed] at hw
  refine ⟨UInt64.ofNat n.toNat, ?_⟩
  show [Value.int .u64 n] = [vU64 _]
  simp only [vU64, UInt64.toNat_ofNat', List.cons.injEq, and_true, Value.int.injEq, true_and]; omega
theorem rd_i (ht : P.underlying t = some (.int .i64)) : Rd P iS t := fun H enc W sp hd fuel cs y h => by
  obtain ⟨n, rfl, hw⟩ := rd_core ht h
  exact ⟨n, rfl⟩
theorem rd_b (ht : P.underlying t = some .bool) : Rd P bS t := fun H enc W sp hd fuel cs y h => by
  cases fuel with
  | zero => simp [DataW.trod] at h
  | succ n =>
    simp only [DataW.trod, ht] at h
    split at h <;> first | (cases h; done) | skip
    all_goals first | exact ⟨_, rfl⟩ | simp_all
theorem mapM_some {α β : Type} {f : α → Option β} : ∀ {l : List α} {r : List β}, l.mapM f = some r → ∀ (i : Nat) (x : α), l[i]? = some x → ∃ z, r[i]? = some z ∧ f x = some z
  | [], r, _, i, x, hi => by simp at hi
  | a :: l, r, h, i, x, hi => by
    simp only [List.mapM_cons, Option.bind_eq_bind, Option.pure_def] at h
    cases ha : f a with
    | none => simp [ha] at h
    | some b =>
      cases hl : l.mapM f with
      | none => simp [ha, hl] at h
      | some r' =>
        simp [ha, hl] at h
        subst h
        cases i with
        | zero => simp at hi; subst hi; exact ⟨b, rfl, ha⟩
        | succ i => simpa using mapM_some hl i x (by simpa using hi)
theorem mapM_len {α β : Type} {f : α → Option β} : ∀ {l : List α} {r : List β}, l.mapM f = some r → r.length = l.length
  | [], r, h => by simp at h; subst h; rfl
  | a :: l, r, h => by
    simp only [List.mapM_cons, Option.bind_eq_bind, Option.pure_def] at h
    cases ha : f a with
    | none => simp [ha] at h
    | some b =>
      cases hl : l.mapM f with
      | none => simp [ha, hl] at h
      | some r' => simp [ha, hl] at h; subst h; simp [mapM_len hl]
theorem two_lists {α β : Type} {Q : Nat → α → β → Prop} : ∀ (n : Nat), (∀ i, i < n → ∃ a b, Q i a b) → ∃ (as : List α) (bs : List β), as.length = n ∧ bs.length = n ∧ ∀ (i : Nat) (a : α) (b : β), as[i]? = some a → bs[i]? = some b → Q i a b
  | 0, _ => ⟨[], [], rfl, rfl, fun i a b h => by simp at h⟩
  | n + 1, h => by
    obtain ⟨as, bs, h1, h2, h3⟩ := two_lists n (fun i hi => h i (by omega))
    obtain ⟨a, b, hq⟩ := h n (by omega)
    refine ⟨as ++ [a], bs ++ [b], by simp [h1], by simp [h2], ?_⟩
    intro i a' b' ha hb
    by_cases e : i < n
    · rw [List.getElem?_append_left (by omega)] at ha hb
      exact h3 i a' b' ha hb
    · have hi : i = n := by
        have := (List.getElem?_eq_some_iff.1 ha).1
        simp at this; omega
      subst hi
      rw [List.getElem?_append_right (by omega)] at ha hb
      simp [h1, h2] at ha hb
      subst ha; subst hb; exact hq
theorem cells_at {W : World} {a : Addr} {n : Nat} {ci : List Value} (h : W.cells? 0 a n = some ci) : CellsAt (hp W) a ci := by
  unfold World.cells? at h
  rw [if_pos (Nat.zero_le _)] at h
  intro j u hj
  have hlen := mapM_len h
  have hj' : j < n := by
    have := (List.getElem?_eq_some_iff.1 hj).1
    rw [hlen] at this; simpa using this
  obtain ⟨z, hz, hf⟩ := mapM_some h j j (by simp [hj'])
  rw [hj] at hz; cases hz
  exact hp_cell hf
theorem rd_slice_aux (hz : P.cellsOf e = S.sz) (hS : Rd P S e) {H : Type} {enc : TypeId × Value → H} {W : World} {sp : Nat → Bool} {hd : Bool} {n len cap : Nat} {a : Addr} (hle : len ≤ cap)
    (hes : ∃ es, ((List.range len).mapM fun i => (W.cells? 0 (a.add (i * P.cellsOf e)) (P.cellsOf e)).bind (DataW.trod enc P W 0 sp hd n e)) = some es) : ∃ x, (Shape.slice S).rel (hp W) [.slice (some a) len cap] x := by
  obtain ⟨es, hes⟩ := hes
  rw [hz] at hes
  obtain ⟨css, xs, h1, h2, h3⟩ := two_lists (Q := fun i (ci : List Value) (x : τ) => S.rel (hp W) ci x ∧ CellsAt (hp W) (a.add (i * S.sz)) ci) len (by
    intro i hi
    obtain ⟨z, _, hf⟩ := mapM_some hes i i (by simp [hi])
    simp only [Option.bind_eq_some_iff] at hf
    obtain ⟨ci, hc, ht'⟩ := hf
    obtain ⟨x, hx⟩ := hS H enc W sp hd n ci z ht'
    exact ⟨ci, x, hx, cells_at hc⟩)
  refine ⟨xs, _, rfl, some a, cap, css, by rw [h2], by omega, by omega, fun i ci x p q => (h3 i ci x p q).1, fun i ci p => ⟨a, rfl, ?_⟩⟩
  have hlt : i < xs.length := by
    have := (List.getElem?_eq_some_iff.1 p).1
    omega
  exact (h3 i ci xs[i] p (List.getElem?_eq_getElem hlt)).2
theorem rd_slice (ht : P.underlying t = some (.slice e)) (hz : P.cellsOf e = S.sz) (hS : Rd P S e) : Rd P (Shape.slice S) t := fun H enc W sp hd fuel cs y h => by
  cases fuel with
  | zero => simp [DataW.trod] at h
  | succ n =>
    rcases cs with _ | ⟨v, _ | ⟨u, cs⟩⟩
    · simp [DataW.trod, ht] at h
    · cases v with
      | slice base len cap =>
        cases base with
        | none =>
          cases len with
          | zero =>
            cases cap with
            | zero => exact ⟨[], _, rfl, nil_rel S _⟩
            | succ _ => simp [DataW.trod, ht] at h
          | succ _ => simp [DataW.trod, ht] at h
        | some a =>
          have hex : len ≤ cap ∧ ∃ es, ((List.range len).mapM fun i => (W.cells? 0 (a.add (i * P.cellsOf e)) (P.cellsOf e)).bind (DataW.trod enc P W 0 sp hd n e)) = some es := by
            simp only [DataW.trod, ht] at h
            split at h
            · rename_i hc
              simp only [Option.bind_eq_some_iff] at h
              obtain ⟨es, h1, _⟩ := h
              exact ⟨hc.2.1, es, h1⟩
            · cases h
          exact rd_slice_aux hz hS hex.1 hex.2
      | _ => simp [DataW.trod, ht] at h
    · simp [DataW.trod, ht] at h
theorem rd_parts {fs : Array Field} (ht : P.underlying t = some (.struct fs)) {H : Type} {enc : TypeId × Value → H} {W : World} {sp : Nat → Bool} {hd : Bool} {fuel : Nat} {cs : List Value} {y : DataW H × List MemPlace} (h : DataW.trod enc P W 0 sp hd fuel t cs = some y) :
    cs.length = P.cellsOf t ∧ ∀ (i : Nat) (f : Field), fs[i]? = some f → ∃ n z, DataW.trod enc P W 0 sp hd n f.type ((cs.drop f.offset).take (P.cellsOf f.type)) = some z := by
  cases fuel with
  | zero => simp [DataW.trod] at h
  | succ n =>
    have hm : ∃ xs, cs.length = P.cellsOf t ∧ (fs.toList.mapM fun f => DataW.trod enc P W 0 sp hd n f.type ((cs.drop f.offset).take (P.cellsOf f.type))) = some xs := by
      simp only [DataW.trod, ht] at h
      split at h <;> first | (cases h; done) | skip
      all_goals simp_all
      all_goals (obtain ⟨xs, h1, _⟩ := h; exact ⟨xs, h1⟩)
    obtain ⟨xs, hl, hx⟩ := hm
    refine ⟨hl, fun i f hi => ?_⟩
    obtain ⟨z, _, hf⟩ := mapM_some hx i f (by simpa using hi)
    exact ⟨n, z, hf⟩
theorem rd_part {fs : Array Field} {H : Type} {enc : TypeId × Value → H} {W : World} {sp : Nat → Bool} {hd : Bool} {cs : List Value} (hf : ∀ (i : Nat) (f : Field), fs[i]? = some f → ∃ n z, DataW.trod enc P W 0 sp hd n f.type ((cs.drop f.offset).take (P.cellsOf f.type)) = some z)
    (i off m : Nat) {ft : TypeId} {f : Field} (hi : fs[i]? = some f) (ht : f.type = ft) (ho : f.offset = off) (hc : P.cellsOf ft = m) (hS : Rd P S ft) : ∃ x, S.rel (hp W) ((cs.drop off).take m) x := by
  obtain ⟨n, z, h⟩ := hf i f hi
  rw [ht, ho, hc] at h
  exact hS H enc W sp hd n _ z h
/-- an argument that is no aggregate -/
theorem open_one {H : Type} {enc : TypeId × Value → H} {W : World} {sp : Nat → Bool} {hd : Bool} {r : Reach} {b0 : Nat} {v : Value} {d : DataW H} {ps : List MemPlace} (hS : Rd P S t) (hag : ∀ cs, ¬ Value.okWide P W r b0 t (.agg cs)) (hval : Value.okWide P W r b0 t v) (h : DataW.Trod enc P W 0 sp hd t v d ps) : ∃ x, S.rel (hp W) [v] x := by
  obtain ⟨fuel, hf⟩ := h
  have hc : v.cells.toList = [v] := by
    cases v <;> first | rfl | exact absurd hval (hag _)
  rw [hc] at hf
  exact hS H enc W sp hd fuel _ _ hf
theorem noagg_int {k : IntKind} (ht : P.underlying t = some (.int k)) {W : World} {r : Reach} {b0 : Nat} : ∀ cs, ¬ Value.okWide P W r b0 t (.agg cs) := fun cs h => by
  simp [Value.okWide, ht, Cell.okWide, Cell.ok] at h
theorem noagg_bool (ht : P.underlying t = some .bool) {W : World} {r : Reach} {b0 : Nat} : ∀ cs, ¬ Value.okWide P W r b0 t (.agg cs) := fun cs h => by
  simp [Value.okWide, ht, Cell.okWide, Cell.ok] at h
theorem noagg_slice (ht : P.underlying t = some (.slice e)) {W : World} {r : Reach} {b0 : Nat} : ∀ cs, ¬ Value.okWide P W r b0 t (.agg cs) := fun cs h => by
  simp [Value.okWide, ht, Cell.okWide, Cell.ok] at h
theorem args_list {H : Type} {enc : TypeId × Value → H} {W : World} {b : Nat} {sp : Nat → Bool} {hd : Bool} {ts : List TypeId} {args : Array Value} {ds : List (DataW H)} {ps : List MemPlace} (h : DataW.TrodAll enc P W b sp hd ts args.toList ds ps) : ∃ vs : List Value, args = vs.toArray ∧ DataW.TrodAll enc P W b sp hd ts vs ds ps := ⟨args.toList, by simp, h⟩
theorem facts_nil {R : PH} : ∀ F ∈ ([] : List Fact), F.p R := fun F h => by cases h
theorem facts_cons {R : PH} {F : Fact} {l : List Fact} (h : F.p R) (hs : ∀ G ∈ l, G.p R) : ∀ G ∈ F :: l, G.p R := fun G hG => by
  cases hG with
  | head => exact h
  | tail _ hm => exact hs G hm

/-! behind the call -/
theorem kept_all {W W' : World} {may : MemPlace → Prop} (hb : Below W.heap.size W W') : W.keptBut W' may := by
  refine ⟨hb.os, hb.output, fun i hi => ?_⟩
  rw [hb.block i hi]
  cases W.heap[i]? with
  | none => rfl
  | some o => cases o <;> simp
theorem args_stay {H : Type} {enc : TypeId × Value → H} (hl : laidOutB P = true) {W W' : World} (hb : Below W.heap.size W W') : ∀ {ts : List TypeId} {vs : List Value} {ds : List (DataW H)} {ps : List MemPlace}, (ts.all fun t => P.readableRec t && decide (t < P.types.size)) = true →
    DataW.TrodAll enc P W 0 (fun _ => true) true ts vs ds ps → (∀ x ∈ ps, x.block < W.heap.size) → DataW.TrodAll enc P W' 0 (fun b => decide (b < W.heap.size)) true ts vs ds ps
  | [], [], [], ps, _, h, _ => h
  | t :: ts, v :: vs, d :: ds, ps, hr, h, hlt => by
    obtain ⟨p, q, h1, h2, rfl⟩ := h
    simp only [List.all_cons, Bool.and_eq_true, decide_eq_true_eq] at hr
    exact ⟨p, q, Below.trod hl hr.1.1 hr.1.2 h1 hb (fun x hx => hlt x (by simp [hx])), args_stay hl hb hr.2 h2 (fun x hx => hlt x (by simp [hx])), rfl⟩
  | [], _ :: _, _, _, _, h, _ => by simp [DataW.TrodAll] at h
  | [], [], _ :: _, _, _, h, _ => by simp [DataW.TrodAll] at h
  | _ :: _, [], _, _, _, h, _ => by simp [DataW.TrodAll] at h
  | _ :: _, _ :: _, [], _, _, h, _ => by simp [DataW.TrodAll] at h

/-- a law's contract, called in a world whose arguments read as data -/
theorem law_calls {H : Type} {enc : TypeId × Value → H} {f : FuncId} {fn : Func} {s : ChangeSpec} {args : Array Value} {shr0 : List Fact} {W : World} {ds gs : List (DataW H)} {before : List MemPlace} {rt : TypeId}
    (hl : laidOutB P = true) (hts : (fn.params.toList.all fun t => P.readableRec t && decide (t < P.types.size)) = true) (hres : fn.resultTypes = #[rt]) (hrt : P.underlying rt = some .bool) (hvars : s.vars = [])
    (hs : ∀ (ds : List (DataW H)), ds.length = fn.params.toList.length → s.fn H ds = { results := [.lit (.bool true)], args := ds })
    (hC : Ctr P f args [] shr0 (fun rv own shr => rv = .bool true ∧ own = [] ∧ shr = [])) (hF : ∀ F ∈ shr0, F.p (hp W)) (hW : DataW.Whole enc P fn.params.toList s.vars false W args.toList ds gs before) :
    Calls P f args W fun e W' => ∃ v, e = .returned v ∧ s.post enc P fn false true false false W args v W' := by
  refine (hC (hp W) W (fun _ => PH.emp) (hp_in W) hF (fun i r h => by simp at h) (fun i b o h => by cases h) (fun i j _ b => .inl rfl) (fun i b => .inr rfl)).mono ?_
  rintro e W' ⟨rv, own1, shr1, rfl, ⟨rfl, _, _⟩, R, hs', hw⟩
  refine ⟨_, rfl, ?_⟩
  have hb : Below W.heap.size W W' := ⟨hw.os, hw.tape, hw.output, hw.size, fun k hk => hw.keep k hk (by rintro ⟨i, hi, _⟩; simp at hi)⟩
  have hW0 := hW
  obtain ⟨p, q, h1, h2, rfl, h3, h4⟩ := hW
  rw [hvars] at h2
  have hgs : gs = [] ∧ q = [] := by
    cases gs with
    | nil => exact ⟨rfl, h2⟩
    | cons g gs => cases h2
  obtain ⟨rfl, rfl⟩ := hgs
  have hlen : ds.length = fn.params.toList.length := by
    have key : ∀ {ts : List TypeId} {vs : List Value} {ds : List (DataW H)} {ps : List MemPlace}, DataW.TrodAll enc P W 0 (fun _ => true) true ts vs ds ps → ds.length = ts.length := by
      intro ts
      induction ts with
      | nil => intro vs ds ps h; cases vs <;> cases ds <;> simp_all [DataW.TrodAll]
      | cons t ts ih =>
        intro vs ds ps h
        cases vs with
        | nil => simp [DataW.TrodAll] at h
        | cons v vs =>
          cases ds with
          | nil => simp [DataW.TrodAll] at h
          | cons d ds => obtain ⟨p, q, _, h2, _⟩ := h; simp [ih h2]
    exact key h1
  have hfn := hs (ds ++ []) (by simpa using hlen)
  refine ⟨ds, [], p ++ [], [], p, [], hW0, ?_, ?_, ?_, kept_all hb, fun h => by cases h⟩
  · rw [hfn, hres]
    show DataW.TrodAll enc P W' _ _ _ [rt] ((Value.bool true).resultList 1) _ []
    exact ⟨[], [], ⟨1, by simp [DataW.trod, Value.cells, hrt]⟩, rfl, rfl⟩
  · rw [hfn]
    simp only [List.append_nil]
    exact args_stay hl hb hts h1 (fun x hx => hW0.lt x (by simpa using hx))
  · rw [hfn, hvars]; rfl
end
end Go.Proofs.Ytihcimjfabdafaa

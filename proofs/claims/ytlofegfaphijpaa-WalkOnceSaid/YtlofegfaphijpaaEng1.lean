/- The engine, part 1: symbolic states (live slots, owned memory, readable memory) over the model's wp; rules for code. No statement of the seat is proved here; no condition. -/
import Derived.WalkKit
import Derived.Deep.LoopGhost
import Derived.KernelRfl
import Derived.Scope
import Derived.Defers
namespace Go.Proofs.Ytlofegfaphijpaa

theorem nbeq_ne {a b : Nat} (h : a ≠ b) : Nat.beq a b = false := by
  cases e : Nat.beq a b with
  | false => rfl
  | true => exact absurd (Nat.eq_of_beq_eq_true e) h

/-! ## partial heaps -/
abbrev PH := Nat → Option Obj
def PH.le (h h' : PH) : Prop := ∀ b o, h b = some o → h' b = some o
def PH.inW (h : PH) (w : World) : Prop := ∀ b o, h b = some o → w.heap[b]? = some o
def PH.disj (h h' : PH) : Prop := ∀ b, h b = none ∨ h' b = none
def PH.one (b : Nat) (o : Obj) : PH := fun x => if x = b then some o else none
def PH.emp : PH := fun _ => none
def PH.or (h h' : PH) : PH := fun b => match h b with | some o => some o | none => h' b
def PH.cell (h : PH) (a : Addr) : Option Value :=
  match h a.block with | some (.cells c _ _) => if a.spot.isSome then none else c[a.off]? | _ => none

theorem PH.le_refl (h : PH) : h.le h := fun _ _ e => e
theorem PH.le_trans {a b c : PH} (h : a.le b) (h' : b.le c) : a.le c := fun _ _ e => h' _ _ (h _ _ e)
theorem PH.cell_mono {h h' : PH} (hl : h.le h') {a : Addr} {v : Value} (e : h.cell a = some v) : h'.cell a = some v := by
  unfold PH.cell at *
  cases ho : h a.block with
  | none => rw [ho] at e; simp at e
  | some o => rw [hl _ _ ho]; rw [ho] at e; exact e
theorem PH.cell_inW {h : PH} {w : World} (hl : h.inW w) {a : Addr} {v : Value} (e : h.cell a = some v) : w.cell? a = some v := by
  unfold PH.cell at e; unfold World.cell?
  cases ho : h a.block with
  | none => rw [ho] at e; simp at e
  | some o => rw [hl _ _ ho]; rw [ho] at e; exact e
theorem PH.one_self (b : Nat) (o : Obj) : PH.one b o b = some o := by simp [PH.one]
theorem PH.one_some {b x : Nat} {o o' : Obj} (h : PH.one b o x = some o') : x = b ∧ o' = o := by
  unfold PH.one at h; split at h <;> simp_all
theorem PH.disj_comm {h h' : PH} (d : h.disj h') : h'.disj h := fun b => (d b).symm
theorem PH.or_left {h h' : PH} : h.le (h.or h') := fun b o e => by simp [PH.or, e]
theorem PH.or_right {h h' : PH} (d : h.disj h') : h'.le (h.or h') := fun b o e => by
  have := d b; simp [e] at this; simp [PH.or, this, e]
theorem PH.or_some {h h' : PH} {b : Nat} {o : Obj} (e : h.or h' b = some o) : h b = some o ∨ h' b = some o := by
  unfold PH.or at e; split at e
  · rename_i o' ho; simp at e; subst e; exact .inl ho
  · exact .inr e

/-! ## facts on readable memory, owned memory, states -/
structure Fact where
  p : PH → Prop
  mono : ∀ {h h' : PH}, h.le h' → p h → p h'

/-- an owned part: what may be read by all, and the part itself -/
structure Res where
  p : PH → PH → Prop
  mono : ∀ {R R' h : PH}, R.le R' → p R h → p R' h

structure St where
  fr : List (Nat × Option Value)
  own : List (Option Res)
  shr : List Fact

def lk : List (Nat × Option Value) → Nat → Option Value
  | [], _ => none
  | (d, v) :: r, t => bif Nat.beq t d then v else lk r t

def Fr (a : Act) (fr : List (Nat × Option Value)) : Prop := ∀ t v, lk fr t = some v → a.tmps[t]? = some v

/-- the witness: R: what may be read by all; hs: each owned part -/
structure HW (R0 : PH) (w0 : World) (B : Nat → Prop) (own : List (Option Res)) (shr : List Fact) (w : World) (R : PH) (hs : Nat → PH) : Prop where
  r0 : R0.le R
  rw_ : R.inW w
  sh : ∀ F ∈ shr, F.p R
  ow : ∀ (i : Nat) (r : Res), own[i]? = some (some r) → r.p R (hs i)
  hw : ∀ i, (hs i).inW w
  dj : ∀ i j, i ≠ j → (hs i).disj (hs j)
  rd : ∀ i, R.disj (hs i)
  new : ∀ i b o, hs i b = some o → B b ∨ w0.heap.size ≤ b
  rnew : ∀ b o, R b = some o → R0 b = some o ∨ B b ∨ w0.heap.size ≤ b
  size : w0.heap.size ≤ w.heap.size
  keep : ∀ b, b < w0.heap.size → ¬ B b → w.heap[b]? = w0.heap[b]?
  os : w.os = w0.os
  tape : w.tape = w0.tape
  output : w.output = w0.output

def HSat (R0 : PH) (w0 : World) (B : Nat → Prop) (own : List (Option Res)) (shr : List Fact) (w : World) : Prop := ∃ R hs, HW R0 w0 B own shr w R hs

structure Cx where
  P : Program
  R0 : PH
  w0 : World
  B : Nat → Prop
  n : Nat
  Q : Exit → Act → World → Prop
  ds : List Deferred

def Sat (c : Cx) (s : St) (a : Act) (w : World) : Prop := a.tmps.size = c.n ∧ a.defers = c.ds ∧ Fr a s.fr ∧ HSat c.R0 c.w0 c.B s.own s.shr w

/-! ## what is still to come -/
inductive Item where
  | code (c : Code)
  | blk (id : Nat)
  | back (J : Act → World → Prop)
  | sc

def contQ (c : Cx) : List Item → Exit → Act → World → Prop
  | [], e, a, w => c.Q e a w
  | .code x :: k, e, a, w => match e with | .normal => x.wp c.P (contQ c k) a w | e => contQ c k e a w
  | .blk id :: k, e, a, w => match e with | .exit j => if j = id then contQ c k .normal a w else contQ c k (.exit j) a w | e => contQ c k e a w
  | .back J :: k, e, a, w => match e with | .normal => J a w | e => contQ c k e a w
  | .sc :: k, e, a, w => match e with | .goto _ => False | e => contQ c k e a w

/-- from every state that fits, what is still to come ends as it should -/
def Tk (c : Cx) (k : List Item) (s : St) : Prop := ∀ a w, Sat c s a w → contQ c k .normal a w
/-- the same, in the midst of a region -/
def Tops (c : Cx) (ops : Array Oper) (k : List Item) (rest : List Oper) (s : St) : Prop := ∀ a w, Sat c s a w → wpList c.P ops (contQ c k) rest a w

theorem contQ_code (c : Cx) (x : Code) (k : List Item) : contQ c (.code x :: k) = Exit.then (x.wp c.P (contQ c k)) (contQ c k) := by
  funext e a w; cases e <;> rfl
theorem contQ_blk (c : Cx) (id : Nat) (k : List Item) : contQ c (.blk id :: k) = Exit.inBlock id (contQ c k) := by
  funext e a w; cases e <;> rfl
theorem contQ_sc (c : Cx) (k : List Item) : contQ c (.sc :: k) = Exit.noGoto (contQ c k) := by
  funext e a w; cases e <;> rfl
theorem contQ_back (c : Cx) (J : Act → World → Prop) (k : List Item) : contQ c (.back J :: k) = Exit.then J (contQ c k) := by
  funext e a w; cases e <;> rfl

section
variable {c : Cx} {k : List Item} {s : St}

theorem Tk_seq {x y : Code} (h : Tk c (.code x :: .code y :: k) s) : Tk c (.code (.seq x y) :: k) s := fun a w hs => by
  show (Code.seq x y).wp c.P (contQ c k) a w
  refine wp_seq ?_
  rw [← contQ_code]; exact h a w hs
theorem Tk_block {id : Nat} {x : Code} (h : Tk c (.code x :: .blk id :: k) s) : Tk c (.code (.block id x) :: k) s := fun a w hs => by
  refine wp_block ?_
  rw [← contQ_blk]; exact h a w hs
theorem Tk_skip (h : Tk c k s) : Tk c (.code .skip :: k) s := fun a w hs => wp_skip (h a w hs)
theorem Tk_blk {id : Nat} (h : Tk c k s) : Tk c (.blk id :: k) s := fun a w hs => h a w hs
def popTo (id : Nat) : List Item → Option (List Item)
  | [] => none
  | .blk j :: k => bif Nat.beq id j then some k else popTo id k
  | _ :: k => popTo id k
theorem contQ_exit {id : Nat} {a : Act} {w : World} : ∀ {k k' : List Item}, popTo id k = some k' → contQ c k' .normal a w → contQ c k (.exit id) a w
  | [], _, h, _ => by simp [popTo] at h
  | .blk j :: k, k', h, hq => by
    simp only [popTo] at h
    show (if id = j then contQ c k .normal a w else contQ c k (.exit id) a w)
    by_cases e : id = j
    · subst e; simp at h; subst h; simpa using hq
    · have : Nat.beq id j = false := nbeq_ne e
      rw [this] at h
      rw [if_neg e]; exact contQ_exit h hq
  | .code x :: k, k', h, hq => by
    simp only [popTo] at h
    exact contQ_exit (k := k) h hq
  | .back J :: k, k', h, hq => by
    simp only [popTo] at h
    exact contQ_exit (k := k) h hq
  | .sc :: k, k', h, hq => by
    simp only [popTo] at h
    exact contQ_exit (k := k) h hq
theorem Tk_exit {id : Nat} (k' : List Item) (hp : popTo id k = some k') (h : Tk c k' s) : Tk c (.code (.exit id) :: k) s := fun a w hs =>
  wp_exit (contQ_exit hp (h a w hs))
theorem contQ_ret {a : Act} {w : World} (h : c.Q .ret a w) : ∀ {k : List Item}, contQ c k .ret a w
  | [] => h
  | .blk _ :: k => contQ_ret h (k := k)
  | .code _ :: k => contQ_ret h (k := k)
  | .back _ :: k => contQ_ret h (k := k)
  | .sc :: k => contQ_ret h (k := k)
def Tret (c : Cx) (s : St) : Prop := ∀ a w, Sat c s a w → c.Q .ret a w
theorem Tk_ret (h : Tret c s) : Tk c (.code .ret :: k) s := fun a w hs => wp_ret (contQ_ret (h a w hs))

def ev (fr : List (Nat × Option Value)) : Operand → Option Value
  | .tmp t => lk fr t
  | .const v => some v
  | .global g => some (.pointer (some ⟨g, 0, none⟩))
  | .func f => some (.func (.func f) #[] #[])
theorem ev_eval {a : Act} {fr : List (Nat × Option Value)} (hf : Fr a fr) {x : Operand} {v : Value} (h : ev fr x = some v) : a.eval x = v := by
  cases x with
  | tmp t => have := hf t v h; simp [Act.eval, this]
  | const v' => simpa [ev, Act.eval] using h
  | global g => simpa [ev, Act.eval] using h
  | func f => simpa [ev, Act.eval] using h

theorem Tk_cond {x : Operand} {p q : Code} {t : Bool} (hx : ev s.fr x = some (.bool t)) (h1 : t = true → Tk c (.code p :: k) s) (h2 : t = false → Tk c (.code q :: k) s) :
    Tk c (.code (.cond x p q) :: k) s := fun a w hs =>
  wp_cond_split (ev_eval hs.2.2.1 hx) (fun e => h1 e a w hs) (fun e => h2 e a w hs)
theorem Tk_condT {x : Operand} {p q : Code} (hx : ev s.fr x = some (.bool true)) (h1 : Tk c (.code p :: k) s) :
    Tk c (.code (.cond x p q) :: k) s := Tk_cond hx (fun _ => h1) (fun e => by cases e)
theorem Tk_condF {x : Operand} {p q : Code} (hx : ev s.fr x = some (.bool false)) (h1 : Tk c (.code q :: k) s) :
    Tk c (.code (.cond x p q) :: k) s := Tk_cond hx (fun e => by cases e) (fun _ => h1)
theorem Tk_region {id : Nat} {ops : Array Oper} (h : Tops c ops k ops.toList s) : Tk c (.code (.region id ops false) :: k) s := fun a w hs =>
  wp_region_list (h a w hs)
theorem Tops_nil {ops : Array Oper} (h : Tk c k s) : Tops c ops k [] s := fun a w hs => h a w hs

/-- A loop: 'st' is the state at the loop's head, 'f n x' says that n more rounds at most, from x on, end well. -/
theorem Tk_loop {σ : Type} {body : Code} (st : σ → St) (f : Nat → σ → Prop) (h0 : ∀ x, ¬ f 0 x)
    (h : ∀ n x, f (n + 1) x → Tk c (.code body :: .back (fun a w => ∃ y, f n y ∧ Sat c (st y) a w) :: k) (st x)) (n : Nat) (x : σ) (hx : f n x) :
    Tk c (.code (.loop body) :: k) (st x) := fun a w hs => by
  show (Code.loop body).wp c.P (contQ c k) a w
  refine wp_loop_ghost (fun n a w => ∃ x, f n x ∧ Sat c (st x) a w) n ⟨x, hx, hs⟩ ?_
  rintro m a w ⟨x, hx, hs⟩
  cases m with
  | zero => exact absurd hx (h0 x)
  | succ m =>
    have := h m x hx a w hs
    refine Code.wp_mono ?_ this
    intro e a' w' hq
    cases e with
    | normal => exact ⟨m, Nat.lt_succ_self m, hq⟩
    | _ => exact hq
/-! ## weakening -/
def FrSub (fr : List (Nat × Option Value)) : List (Nat × Option Value) → Prop
  | [] => True
  | (t, ov) :: r => (∀ v, ov = some v → lk fr t = some v) ∧ FrSub fr r
theorem FrSub.look {fr : List (Nat × Option Value)} : ∀ {fr' : List (Nat × Option Value)}, FrSub fr fr' → ∀ t v, lk fr' t = some v → lk fr t = some v
  | [], _, t, v, h => by simp [lk] at h
  | (d, ov) :: r, hs, t, v, h => by
    simp only [lk] at h
    by_cases e : t = d
    · subst e; simp at h; exact hs.1 v h
    · have : Nat.beq t d = false := nbeq_ne e
      rw [this] at h; exact FrSub.look hs.2 t v h
theorem Fr.sub {a : Act} {fr fr' : List (Nat × Option Value)} (hf : Fr a fr) (hs : FrSub fr fr') : Fr a fr' := fun t v h => hf t v (hs.look t v h)

/-- owned parts by their places -/
def pick (own : List (Option Res)) (is : List Nat) : List (Option Res) := is.map fun i => (own[i]?).join
def pickF (shr : List Fact) : List Nat → Option (List Fact)
  | [] => some []
  | i :: is => match shr[i]?, pickF shr is with | some f, some r => some (f :: r) | _, _ => none
theorem pickF_mem {shr : List Fact} : ∀ {is : List Nat} {r : List Fact}, pickF shr is = some r → ∀ F ∈ r, F ∈ shr
  | [], r, h, F, hF => by simp [pickF] at h; subst h; cases hF
  | i :: is, r, h, F, hF => by
    simp only [pickF] at h
    split at h
    · rename_i f r' hf hr
      simp at h; subst h
      cases hF with
      | head => exact List.mem_of_getElem? hf
      | tail _ hm => exact pickF_mem hr F hm
    · simp at h
def notin (i : Nat) : List Nat → Bool
  | [] => true
  | j :: r => bif Nat.beq i j then false else notin i r
def nodupB : List Nat → Bool
  | [] => true
  | i :: r => bif notin i r then nodupB r else false
theorem notin_ne {i : Nat} : ∀ {l : List Nat}, notin i l = true → ∀ (k : Nat), l[k]? ≠ some i
  | [], _, k => by simp
  | j :: r, h, k => by
    simp only [notin] at h
    cases e : Nat.beq i j with
    | true => rw [e] at h; cases h
    | false =>
      rw [e] at h
      cases k with
      | zero => simp; intro q; subst q; simp [Nat.beq_refl] at e
      | succ k => simpa using notin_ne (l := r) h k
theorem nodupB_ne : ∀ {l : List Nat}, nodupB l = true → ∀ (i j x : Nat), i < j → l[i]? = some x → l[j]? ≠ some x
  | [], _, i, j, x, _, h => by simp at h
  | y :: r, h, i, j, x, hij, hi => by
    simp only [nodupB] at h
    cases e : notin y r with
    | false => rw [e] at h; cases h
    | true =>
      rw [e] at h
      cases j with
      | zero => omega
      | succ j =>
        cases i with
        | zero => simp at hi; subst hi; simpa using notin_ne e j
        | succ i => simpa using nodupB_ne (l := r) h i j x (by omega) (by simpa using hi)

theorem HW.pick {R0 : PH} {w0 : World} {B : Nat → Prop} {own : List (Option Res)} {shr shr' : List Fact} {w : World} {R : PH} {hs : Nat → PH}
    (h : HW R0 w0 B own shr w R hs) (is : List Nat) (hn : nodupB is = true) (hsh : ∀ F ∈ shr', F ∈ shr) :
    HW R0 w0 B (Go.Proofs.Ytlofegfaphijpaa.pick own is) shr' w R (fun i => match is[i]? with | some j => hs j | none => PH.emp) := by
  have emp_disj : ∀ x : PH, PH.emp.disj x := fun x b => .inl rfl
  refine ⟨h.r0, h.rw_, fun F hF => h.sh F (hsh F hF), ?_, ?_, ?_, ?_, ?_, h.rnew, h.size, h.keep, h.os, h.tape, h.output⟩
  · intro i r hi
    simp only [Go.Proofs.Ytlofegfaphijpaa.pick, List.getElem?_map] at hi
    cases e : is[i]? with
    | none => rw [e] at hi; simp at hi
    | some j =>
      rw [e] at hi; simp at hi
      refine h.ow j r ?_
      cases ho : own[j]? with
      | none => rw [ho] at hi; simp at hi
      | some o => rw [ho] at hi; simp at hi; rw [hi]
  · intro i
    split
    · exact h.hw _
    · intro b o hb; cases hb
  · intro i j hij
    cases e : is[i]? with
    | none => exact emp_disj _
    | some x =>
      cases e' : is[j]? with
      | none => exact PH.disj_comm (emp_disj _)
      | some y =>
        refine h.dj x y ?_
        intro exy; subst exy
        rcases Nat.lt_or_gt_of_ne hij with hlt | hgt
        · exact nodupB_ne hn i j x hlt e e'
        · exact nodupB_ne hn j i x hgt e' e
  · intro i
    split
    · exact h.rd _
    · exact PH.disj_comm (emp_disj _)
  · intro i b o hb
    cases e : is[i]? with
    | none => simp only [e] at hb; cases hb
    | some x => simp only [e] at hb; exact h.new _ b o hb

end
end Go.Proofs.Ytlofegfaphijpaa

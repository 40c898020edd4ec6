/- The engine: rules for stepping through code. No statement of the seat is proved here; no condition. -/
import Derived.WalkKit
import Derived.Deep.LoopGhost
import Derived.KernelRfl
import Derived.Scope
import Derived.Defers
import GoSem.Core.View
import GoSem.Claim
import Derived.Laws.BitsLemmas
import Derived.ChangeKeysEq
import Derived.ProofKit
section
namespace Go.Proofs.Ytjfdamiilndgeaa

theorem nbeq_ne {a b : Nat} (h : a ≠ b) : Nat.beq a b = false := by
  cases e : Nat.beq a b with
  | false => rfl
  | true => exact absurd (Nat.eq_of_beq_eq_true e) h

/-! ## partial heaps -/
abbrev PH := Nat → Option Obj
def PH.le (h h' : PH) : Prop := ∀ b o, h b = some o → h' b = some o
def PH.inW (h : PH) (w : World) : Prop := ∀ b o, h b = some o → w.heap[b]? = some o
def PH.disj (h h' : PH) : Prop := ∀ b, h b = none ∨ h' b = none
def PH.one (b : Nat) (o : Obj) : PH := fun x => if x = b then some o else none
def PH.emp : PH := fun _ => none
def PH.or (h h' : PH) : PH := fun b => match h b with | some o => some o | none => h' b
def PH.cell (h : PH) (a : Addr) : Option Value :=
  match h a.block with | some (.cells c _ _) => if a.spot.isSome then none else c[a.off]? | _ => none

theorem PH.le_refl (h : PH) : h.le h := fun _ _ e => e
theorem PH.le_trans {a b c : PH} (h : a.le b) (h' : b.le c) : a.le c := fun _ _ e => h' _ _ (h _ _ e)
theorem PH.cell_mono {h h' : PH} (hl : h.le h') {a : Addr} {v : Value} (e : h.cell a = some v) : h'.cell a = some v := by
  unfold PH.cell at *
  cases ho : h a.block with
  | none => rw [ho] at e; simp at e
  | some o => rw [hl _ _ ho]; rw [ho] at e; exact e
theorem PH.cell_inW {h : PH} {w : World} (hl : h.inW w) {a : Addr} {v : Value} (e : h.cell a = some v) : w.cell? a = some v := by
  unfold PH.cell at e; unfold World.cell?
  cases ho : h a.block with
  | none => rw [ho] at e; simp at e
  | some o => rw [hl _ _ ho]; rw [ho] at e; exact e
theorem PH.one_self (b : Nat) (o : Obj) : PH.one b o b = some o := by simp [PH.one]
theorem PH.one_some {b x : Nat} {o o' : Obj} (h : PH.one b o x = some o') : x = b ∧ o' = o := by
  unfold PH.one at h; split at h <;> simp_all
theorem PH.disj_comm {h h' : PH} (d : h.disj h') : h'.disj h := fun b => (d b).symm
theorem PH.or_left {h h' : PH} : h.le (h.or h') := fun b o e => by simp [PH.or, e]
theorem PH.or_right {h h' : PH} (d : h.disj h') : h'.le (h.or h') := fun b o e => by
  have := d b; simp [e] at this; simp [PH.or, this, e]
theorem PH.or_some {h h' : PH} {b : Nat} {o : Obj} (e : h.or h' b = some o) : h b = some o ∨ h' b = some o := by
  unfold PH.or at e; split at e
  · rename_i o' ho; simp at e; subst e; exact .inl ho
  · exact .inr e

/-! ## facts on readable memory, owned memory, states -/
structure Fact where
  p : PH → Prop
  mono : ∀ {h h' : PH}, h.le h' → p h → p h'

/-- an owned part: what may be read by all, and the part itself -/
structure Res where
  p : PH → PH → Prop
  mono : ∀ {R R' h : PH}, R.le R' → p R h → p R' h

structure St where
  fr : List (Nat × Option Value)
  own : List (Option Res)
  shr : List Fact

def lk : List (Nat × Option Value) → Nat → Option Value
  | [], _ => none
  | (d, v) :: r, t => bif Nat.beq t d then v else lk r t

def Fr (a : Act) (fr : List (Nat × Option Value)) : Prop := ∀ t v, lk fr t = some v → a.tmps[t]? = some v

/-- the witness: R: what may be read by all; hs: each owned part -/
structure HW (R0 : PH) (w0 : World) (B : Nat → Prop) (own : List (Option Res)) (shr : List Fact) (w : World) (R : PH) (hs : Nat → PH) : Prop where
  r0 : R0.le R
  rw_ : R.inW w
  sh : ∀ F ∈ shr, F.p R
  ow : ∀ (i : Nat) (r : Res), own[i]? = some (some r) → r.p R (hs i)
  hw : ∀ i, (hs i).inW w
  dj : ∀ i j, i ≠ j → (hs i).disj (hs j)
  rd : ∀ i, R.disj (hs i)
  new : ∀ i b o, hs i b = some o → B b ∨ w0.heap.size ≤ b
  rnew : ∀ b o, R b = some o → R0 b = some o ∨ B b ∨ w0.heap.size ≤ b
  size : w0.heap.size ≤ w.heap.size
  keep : ∀ b, b < w0.heap.size → ¬ B b → w.heap[b]? = w0.heap[b]?
  os : w.os = w0.os
  tape : w.tape = w0.tape
  output : w.output = w0.output

def HSat (R0 : PH) (w0 : World) (B : Nat → Prop) (own : List (Option Res)) (shr : List Fact) (w : World) : Prop := ∃ R hs, HW R0 w0 B own shr w R hs

structure Cx where
  P : Program
  R0 : PH
  w0 : World
  B : Nat → Prop
  n : Nat
  Q : Exit → Act → World → Prop
  ds : List Deferred

def Sat (c : Cx) (s : St) (a : Act) (w : World) : Prop := a.tmps.size = c.n ∧ a.defers = c.ds ∧ Fr a s.fr ∧ HSat c.R0 c.w0 c.B s.own s.shr w

/-! ## what is still to come -/
inductive Item where
  | code (c : Code)
  | blk (id : Nat)
  | back (J : Act → World → Prop)
  | sc

def contQ (c : Cx) : List Item → Exit → Act → World → Prop
  | [], e, a, w => c.Q e a w
  | .code x :: k, e, a, w => match e with | .normal => x.wp c.P (contQ c k) a w | e => contQ c k e a w
  | .blk id :: k, e, a, w => match e with | .exit j => if j = id then contQ c k .normal a w else contQ c k (.exit j) a w | e => contQ c k e a w
  | .back J :: k, e, a, w => match e with | .normal => J a w | e => contQ c k e a w
  | .sc :: k, e, a, w => match e with | .goto _ => False | e => contQ c k e a w

/-- from every state that fits, what is still to come ends as it should -/
def Tk (c : Cx) (k : List Item) (s : St) : Prop := ∀ a w, Sat c s a w → contQ c k .normal a w
/-- the same, in the midst of a region -/
def Tops (c : Cx) (ops : Array Oper) (k : List Item) (rest : List Oper) (s : St) : Prop := ∀ a w, Sat c s a w → wpList c.P ops (contQ c k) rest a w

theorem contQ_code (c : Cx) (x : Code) (k : List Item) : contQ c (.code x :: k) = Exit.then (x.wp c.P (contQ c k)) (contQ c k) := by
  funext e a w; cases e <;> rfl
theorem contQ_blk (c : Cx) (id : Nat) (k : List Item) : contQ c (.blk id :: k) = Exit.inBlock id (contQ c k) := by
  funext e a w; cases e <;> rfl
theorem contQ_sc (c : Cx) (k : List Item) : contQ c (.sc :: k) = Exit.noGoto (contQ c k) := by
  funext e a w; cases e <;> rfl
theorem contQ_back (c : Cx) (J : Act → World → Prop) (k : List Item) : contQ c (.back J :: k) = Exit.then J (contQ c k) := by
  funext e a w; cases e <;> rfl

section
variable {c : Cx} {k : List Item} {s : St}

theorem Tk_seq {x y : Code} (h : Tk c (.code x :: .code y :: k) s) : Tk c (.code (.seq x y) :: k) s := fun a w hs => by
  show (Code.seq x y).wp c.P (contQ c k) a w
  refine wp_seq ?_
  rw [← contQ_code]; exact h a w hs
theorem Tk_block {id : Nat} {x : Code} (h : Tk c (.code x :: .blk id :: k) s) : Tk c (.code (.block id x) :: k) s := fun a w hs => by
  refine wp_block ?_
  rw [← contQ_blk]; exact h a w hs
theorem Tk_skip (h : Tk c k s) : Tk c (.code .skip :: k) s := fun a w hs => wp_skip (h a w hs)
theorem Tk_blk {id : Nat} (h : Tk c k s) : Tk c (.blk id :: k) s := fun a w hs => h a w hs
def popTo (id : Nat) : List Item → Option (List Item)
  | [] => none
  | .blk j :: k => bif Nat.beq id j then some k else popTo id k
  | _ :: k => popTo id k
theorem contQ_exit {id : Nat} {a : Act} {w : World} : ∀ {k k' : List Item}, popTo id k = some k' → contQ c k' .normal a w → contQ c k (.exit id) a w
  | [], _, h, _ => by simp [popTo] at h
  | .blk j :: k, k', h, hq => by
    simp only [popTo] at h
    show (if id = j then contQ c k .normal a w else contQ c k (.exit id) a w)
    by_cases e : id = j
    · subst e; simp at h; subst h; simpa using hq
    · have : Nat.beq id j = false := nbeq_ne e
      rw [this] at h
      rw [if_neg e]; exact contQ_exit h hq
  | .code x :: k, k', h, hq => by
    simp only [popTo] at h
    exact contQ_exit (k := k) h hq
  | .back J :: k, k', h, hq => by
    simp only [popTo] at h
    exact contQ_exit (k := k) h hq
  | .sc :: k, k', h, hq => by
    simp only [popTo] at h
    exact contQ_exit (k := k) h hq
theorem Tk_exit {id : Nat} (k' : List Item) (hp : popTo id k = some k') (h : Tk c k' s) : Tk c (.code (.exit id) :: k) s := fun a w hs =>
  wp_exit (contQ_exit hp (h a w hs))
theorem contQ_ret {a : Act} {w : World} (h : c.Q .ret a w) : ∀ {k : List Item}, contQ c k .ret a w
  | [] => h
  | .blk _ :: k => contQ_ret h (k := k)
  | .code _ :: k => contQ_ret h (k := k)
  | .back _ :: k => contQ_ret h (k := k)
  | .sc :: k => contQ_ret h (k := k)
def Tret (c : Cx) (s : St) : Prop := ∀ a w, Sat c s a w → c.Q .ret a w
theorem Tk_ret (h : Tret c s) : Tk c (.code .ret :: k) s := fun a w hs => wp_ret (contQ_ret (h a w hs))

def ev (fr : List (Nat × Option Value)) : Operand → Option Value
  | .tmp t => lk fr t
  | .const v => some v
  | .global g => some (.pointer (some ⟨g, 0, none⟩))
  | .func f => some (.func (.func f) #[] #[])
theorem ev_eval {a : Act} {fr : List (Nat × Option Value)} (hf : Fr a fr) {x : Operand} {v : Value} (h : ev fr x = some v) : a.eval x = v := by
  cases x with
  | tmp t => have := hf t v h; simp [Act.eval, this]
  | const v' => simpa [ev, Act.eval] using h
  | global g => simpa [ev, Act.eval] using h
  | func f => simpa [ev, Act.eval] using h

theorem Tk_cond {x : Operand} {p q : Code} {t : Bool} (hx : ev s.fr x = some (.bool t)) (h1 : t = true → Tk c (.code p :: k) s) (h2 : t = false → Tk c (.code q :: k) s) :
    Tk c (.code (.cond x p q) :: k) s := fun a w hs =>
  wp_cond_split (ev_eval hs.2.2.1 hx) (fun e => h1 e a w hs) (fun e => h2 e a w hs)
theorem Tk_condT {x : Operand} {p q : Code} (hx : ev s.fr x = some (.bool true)) (h1 : Tk c (.code p :: k) s) :
    Tk c (.code (.cond x p q) :: k) s := Tk_cond hx (fun _ => h1) (fun e => by cases e)
theorem Tk_condF {x : Operand} {p q : Code} (hx : ev s.fr x = some (.bool false)) (h1 : Tk c (.code q :: k) s) :
    Tk c (.code (.cond x p q) :: k) s := Tk_cond hx (fun e => by cases e) (fun _ => h1)
theorem Tk_region {id : Nat} {ops : Array Oper} (h : Tops c ops k ops.toList s) : Tk c (.code (.region id ops false) :: k) s := fun a w hs =>
  wp_region_list (h a w hs)
theorem Tops_nil {ops : Array Oper} (h : Tk c k s) : Tops c ops k [] s := fun a w hs => h a w hs

/-- A loop: 'st' is the state at the loop's head, 'f n x' says that n more rounds at most, from x on, end well. -/
theorem Tk_loop {σ : Type} {body : Code} (st : σ → St) (f : Nat → σ → Prop) (h0 : ∀ x, ¬ f 0 x)
    (h : ∀ n x, f (n + 1) x → Tk c (.code body :: .back (fun a w => ∃ y, f n y ∧ Sat c (st y) a w) :: k) (st x)) (n : Nat) (x : σ) (hx : f n x) :
    Tk c (.code (.loop body) :: k) (st x) := fun a w hs => by
  show (Code.loop body).wp c.P (contQ c k) a w
  refine wp_loop_ghost (fun n a w => ∃ x, f n x ∧ Sat c (st x) a w) n ⟨x, hx, hs⟩ ?_
  rintro m a w ⟨x, hx, hs⟩
  cases m with
  | zero => exact absurd hx (h0 x)
  | succ m =>
    have := h m x hx a w hs
    refine Code.wp_mono ?_ this
    intro e a' w' hq
    cases e with
    | normal => exact ⟨m, Nat.lt_succ_self m, hq⟩
    | _ => exact hq
/-! ## weakening -/
def FrSub (fr : List (Nat × Option Value)) : List (Nat × Option Value) → Prop
  | [] => True
  | (t, ov) :: r => (∀ v, ov = some v → lk fr t = some v) ∧ FrSub fr r
theorem FrSub.look {fr : List (Nat × Option Value)} : ∀ {fr' : List (Nat × Option Value)}, FrSub fr fr' → ∀ t v, lk fr' t = some v → lk fr t = some v
  | [], _, t, v, h => by simp [lk] at h
  | (d, ov) :: r, hs, t, v, h => by
    simp only [lk] at h
    by_cases e : t = d
    · subst e; simp at h; exact hs.1 v h
    · have : Nat.beq t d = false := nbeq_ne e
      rw [this] at h; exact FrSub.look hs.2 t v h
theorem Fr.sub {a : Act} {fr fr' : List (Nat × Option Value)} (hf : Fr a fr) (hs : FrSub fr fr') : Fr a fr' := fun t v h => hf t v (hs.look t v h)

/-- owned parts by their places -/
def pick (own : List (Option Res)) (is : List Nat) : List (Option Res) := is.map fun i => (own[i]?).join
def pickF (shr : List Fact) : List Nat → Option (List Fact)
  | [] => some []
  | i :: is => match shr[i]?, pickF shr is with | some f, some r => some (f :: r) | _, _ => none
theorem pickF_mem {shr : List Fact} : ∀ {is : List Nat} {r : List Fact}, pickF shr is = some r → ∀ F ∈ r, F ∈ shr
  | [], r, h, F, hF => by simp [pickF] at h; subst h; cases hF
  | i :: is, r, h, F, hF => by
    simp only [pickF] at h
    split at h
    · rename_i f r' hf hr
      simp at h; subst h
      cases hF with
      | head => exact List.mem_of_getElem? hf
      | tail _ hm => exact pickF_mem hr F hm
    · simp at h
def notin (i : Nat) : List Nat → Bool
  | [] => true
  | j :: r => bif Nat.beq i j then false else notin i r
def nodupB : List Nat → Bool
  | [] => true
  | i :: r => bif notin i r then nodupB r else false
theorem notin_ne {i : Nat} : ∀ {l : List Nat}, notin i l = true → ∀ (k : Nat), l[k]? ≠ some i
  | [], _, k => by simp
  | j :: r, h, k => by
    simp only [notin] at h
    cases e : Nat.beq i j with
    | true => rw [e] at h; cases h
    | false =>
      rw [e] at h
      cases k with
      | zero => simp; intro q; subst q; simp [Nat.beq_refl] at e
      | succ k => simpa using notin_ne (l := r) h k
theorem nodupB_ne : ∀ {l : List Nat}, nodupB l = true → ∀ (i j x : Nat), i < j → l[i]? = some x → l[j]? ≠ some x
  | [], _, i, j, x, _, h => by simp at h
  | y :: r, h, i, j, x, hij, hi => by
    simp only [nodupB] at h
    cases e : notin y r with
    | false => rw [e] at h; cases h
    | true =>
      rw [e] at h
      cases j with
      | zero => omega
      | succ j =>
        cases i with
        | zero => simp at hi; subst hi; simpa using notin_ne e j
        | succ i => simpa using nodupB_ne (l := r) h i j x (by omega) (by simpa using hi)

theorem HW.pick {R0 : PH} {w0 : World} {B : Nat → Prop} {own : List (Option Res)} {shr shr' : List Fact} {w : World} {R : PH} {hs : Nat → PH}
    (h : HW R0 w0 B own shr w R hs) (is : List Nat) (hn : nodupB is = true) (hsh : ∀ F ∈ shr', F ∈ shr) :
    HW R0 w0 B (Go.Proofs.Ytjfdamiilndgeaa.pick own is) shr' w R (fun i => match is[i]? with | some j => hs j | none => PH.emp) := by
  have emp_disj : ∀ x : PH, PH.emp.disj x := fun x b => .inl rfl
  refine ⟨h.r0, h.rw_, fun F hF => h.sh F (hsh F hF), ?_, ?_, ?_, ?_, ?_, h.rnew, h.size, h.keep, h.os, h.tape, h.output⟩
  · intro i r hi
    simp only [Go.Proofs.Ytjfdamiilndgeaa.pick, List.getElem?_map] at hi
    cases e : is[i]? with
    | none => rw [e] at hi; simp at hi
    | some j =>
      rw [e] at hi; simp at hi
      refine h.ow j r ?_
      cases ho : own[j]? with
      | none => rw [ho] at hi; simp at hi
      | some o => rw [ho] at hi; simp at hi; rw [hi]
  · intro i
    split
    · exact h.hw _
    · intro b o hb; cases hb
  · intro i j hij
    cases e : is[i]? with
    | none => exact emp_disj _
    | some x =>
      cases e' : is[j]? with
      | none => exact PH.disj_comm (emp_disj _)
      | some y =>
        refine h.dj x y ?_
        intro exy; subst exy
        rcases Nat.lt_or_gt_of_ne hij with hlt | hgt
        · exact nodupB_ne hn i j x hlt e e'
        · exact nodupB_ne hn j i x hgt e' e
  · intro i
    split
    · exact h.rd _
    · exact PH.disj_comm (emp_disj _)
  · intro i b o hb
    cases e : is[i]? with
    | none => simp only [e] at hb; cases hb
    | some x => simp only [e] at hb; exact h.new _ b o hb

end
end Go.Proofs.Ytjfdamiilndgeaa

end

section
namespace Go.Proofs.Ytjfdamiilndgeaa

abbrev vI (n : Int) : Value := .int .i64 n
abbrev vU8 (x : UInt8) : Value := .int .u8 (x.toNat : Int)
abbrev vU32 (x : UInt32) : Value := .int .u32 (x.toNat : Int)
abbrev vU64 (x : UInt64) : Value := .int .u64 (x.toNat : Int)
abbrev vB (b : Bool) : Value := .bool b
abbrev vS (s : List UInt8) : Value := .string ⟨s.toArray⟩

/-- an int64 as it wraps -/
def wi (n : Int) : Int := (n + 9223372036854775808) % 18446744073709551616 - 9223372036854775808
theorem wi_wrap (n : Int) : IntKind.i64.wrap n = wi n := IntKind.wrap_i64 n
theorem wi_eq (n : Int) : wi n = (n + 9223372036854775808) % 18446744073709551616 - 9223372036854775808 := rfl
theorem wi_in {n : Int} (h : -9223372036854775808 ≤ n) (h' : n ≤ 9223372036854775807) : wi n = n := by rw [wi_eq]; omega

/-! partial steps -/
def chk {ρ : Type} (c : Bool) (k : Option ρ) : Option ρ := bif c then k else none
def ob {α ρ : Type} (x : Option α) (k : α → Option ρ) : Option ρ := match x with | some a => k a | none => none
def lt {α ρ : Type} (x : α) (k : α → Option ρ) : Option ρ := k x
def br {ρ : Type} (c : Bool) (x y : Option ρ) : Option ρ := bif c then x else y
theorem chk_e {ρ : Type} {c : Bool} {k : Option ρ} {r : ρ} (h : chk c k = some r) : c = true ∧ k = some r := by cases c <;> simp_all [chk]
theorem ob_e {α ρ : Type} {x : Option α} {k : α → Option ρ} {r : ρ} (h : ob x k = some r) : ∃ a, x = some a ∧ k a = some r := by cases x <;> simp_all [ob]
theorem lt_e {α ρ : Type} {x : α} {k : α → Option ρ} {r : ρ} (h : lt x k = some r) : ∃ a, x = a ∧ k a = some r := ⟨x, rfl, h⟩
theorem br_t {ρ : Type} {c : Bool} {x y : Option ρ} {r : ρ} (e : c = true) (h : br c x y = some r) : x = some r := by subst e; exact h
theorem br_f {ρ : Type} {c : Bool} {x y : Option ρ} {r : ρ} (e : c = false) (h : br c x y = some r) : y = some r := by subst e; exact h
theorem not_t {b : Bool} (h : (!b) = true) : b = false := by cases b <;> simp_all
/-- how many rounds a loop may take: more than any memory bears -/
def fuel : Nat := 36893488147419103232

/-! operations -/
/-- the index i, if it is one -/
def ix {α : Type} (l : List α) (i : Int) : Option α := bif decide (0 ≤ i) then l[i.toNat]? else none
def u8 (n : Int) : UInt8 := UInt8.ofNat (n % 256).toNat
def u32 (n : Int) : UInt32 := UInt32.ofNat (n % 4294967296).toNat
def u64 (n : Int) : UInt64 := UInt64.ofNat (n % 18446744073709551616).toNat
def i32 (x : UInt32) : Int := (x.toNat : Int)
/-- a uint64 as an int -/
def i64 (x : UInt64) : Int := wi (x.toNat : Int)
def len {α : Type} (l : List α) : Int := (l.length : Int)

theorem u32_nat (n : Int) : ((u32 n).toNat : Int) = n % 4294967296 := by
  have h1 : 0 ≤ n % 4294967296 := Int.emod_nonneg _ (by decide)
  have h2 : n % 4294967296 < 4294967296 := Int.emod_lt_of_pos _ (by decide)
  simp only [u32, UInt32.toNat_ofNat']; omega
theorem u64_nat (n : Int) : ((u64 n).toNat : Int) = n % 18446744073709551616 := by
  have h1 : 0 ≤ n % 18446744073709551616 := Int.emod_nonneg _ (by decide)
  have h2 : n % 18446744073709551616 < 18446744073709551616 := Int.emod_lt_of_pos _ (by decide)
  simp only [u64, UInt64.toNat_ofNat']; omega

/-- shifts by any count -/
def shl64 (x : UInt64) (n : Nat) : UInt64 := UInt64.ofNat (x.toNat * 2 ^ (min n 64))
def shr64 (x : UInt64) (n : Nat) : UInt64 := UInt64.ofNat (x.toNat / 2 ^ (min n 64))
def quoi (x y : Int) : Int := wi (x.tdiv y)
def remi (x y : Int) : Int := x.tmod y
/-- whether m + n elements of b bytes are few enough -/
def fits (m n b : Nat) : Bool := Nat.ble ((m + n) * b) 140737488355328
/-- x[l:h] -/
def sub {α : Type} (xs : List α) (l h : Int) : List α := (xs.drop l.toNat).take (h.toNat - l.toNat)
def minu64 (x y : UInt64) : UInt64 := if y < x then y else x
/-! short arrays -/
structure A1 (α : Type) where
  a0 : α
deriving DecidableEq, Inhabited
/-- the place j laid anew -/
def A1.st {α : Type} (x : A1 α) (j : Nat) (u : α) : A1 α := ⟨bif Nat.beq j 0 then u else x.a0⟩
theorem A1.st_set {α : Type} (x : A1 α) (j : Nat) (u : α) : [(x.st j u).a0] = [x.a0].set j u := by
  rcases j with _ | j <;> rfl
structure A2 (α : Type) where
  a0 : α
  a1 : α
deriving DecidableEq, Inhabited
/-- the place j laid anew -/
def A2.st {α : Type} (x : A2 α) (j : Nat) (u : α) : A2 α := ⟨bif Nat.beq j 0 then u else x.a0, bif Nat.beq j 1 then u else x.a1⟩
theorem A2.st_set {α : Type} (x : A2 α) (j : Nat) (u : α) : [(x.st j u).a0, (x.st j u).a1] = [x.a0, x.a1].set j u := by
  rcases j with _ | (_ | j) <;> rfl
structure A3 (α : Type) where
  a0 : α
  a1 : α
  a2 : α
deriving DecidableEq, Inhabited
/-- the place j laid anew -/
def A3.st {α : Type} (x : A3 α) (j : Nat) (u : α) : A3 α := ⟨bif Nat.beq j 0 then u else x.a0, bif Nat.beq j 1 then u else x.a1, bif Nat.beq j 2 then u else x.a2⟩
theorem A3.st_set {α : Type} (x : A3 α) (j : Nat) (u : α) : [(x.st j u).a0, (x.st j u).a1, (x.st j u).a2] = [x.a0, x.a1, x.a2].set j u := by
  rcases j with _ | (_ | (_ | j)) <;> rfl
structure A4 (α : Type) where
  a0 : α
  a1 : α
  a2 : α
  a3 : α
deriving DecidableEq, Inhabited
/-- the place j laid anew -/
def A4.st {α : Type} (x : A4 α) (j : Nat) (u : α) : A4 α := ⟨bif Nat.beq j 0 then u else x.a0, bif Nat.beq j 1 then u else x.a1, bif Nat.beq j 2 then u else x.a2, bif Nat.beq j 3 then u else x.a3⟩
theorem A4.st_set {α : Type} (x : A4 α) (j : Nat) (u : α) : [(x.st j u).a0, (x.st j u).a1, (x.st j u).a2, (x.st j u).a3] = [x.a0, x.a1, x.a2, x.a3].set j u := by
  rcases j with _ | (_ | (_ | (_ | j))) <;> rfl
structure A5 (α : Type) where
  a0 : α
  a1 : α
  a2 : α
  a3 : α
  a4 : α
deriving DecidableEq, Inhabited
/-- the place j laid anew -/
def A5.st {α : Type} (x : A5 α) (j : Nat) (u : α) : A5 α := ⟨bif Nat.beq j 0 then u else x.a0, bif Nat.beq j 1 then u else x.a1, bif Nat.beq j 2 then u else x.a2, bif Nat.beq j 3 then u else x.a3, bif Nat.beq j 4 then u else x.a4⟩
theorem A5.st_set {α : Type} (x : A5 α) (j : Nat) (u : α) : [(x.st j u).a0, (x.st j u).a1, (x.st j u).a2, (x.st j u).a3, (x.st j u).a4] = [x.a0, x.a1, x.a2, x.a3, x.a4].set j u := by
  rcases j with _ | (_ | (_ | (_ | (_ | j)))) <;> rfl
structure A6 (α : Type) where
  a0 : α
  a1 : α
  a2 : α
  a3 : α
  a4 : α
  a5 : α
deriving DecidableEq, Inhabited
/-- the place j laid anew -/
def A6.st {α : Type} (x : A6 α) (j : Nat) (u : α) : A6 α := ⟨bif Nat.beq j 0 then u else x.a0, bif Nat.beq j 1 then u else x.a1, bif Nat.beq j 2 then u else x.a2, bif Nat.beq j 3 then u else x.a3, bif Nat.beq j 4 then u else x.a4, bif Nat.beq j 5 then u else x.a5⟩
theorem A6.st_set {α : Type} (x : A6 α) (j : Nat) (u : α) : [(x.st j u).a0, (x.st j u).a1, (x.st j u).a2, (x.st j u).a3, (x.st j u).a4, (x.st j u).a5] = [x.a0, x.a1, x.a2, x.a3, x.a4, x.a5].set j u := by
  rcases j with _ | (_ | (_ | (_ | (_ | (_ | j))))) <;> rfl
end Go.Proofs.Ytjfdamiilndgeaa

end

section
namespace Go.Proofs.Ytjfdamiilndgeaa

/-- In every state that fits, the operation leads to a state of 'Ks'. -/
def OpT (c : Cx) (o : Oper) (s : St) (Ks : St → Prop) : Prop :=
  ∀ a w, Sat c s a w → ∀ (K : Act → World → Prop) (Q : Exit → Act → World → Prop), (∀ s', Ks s' → ∀ a' w', Sat c s' a' w' → K a' w') → o.wp c.P a w K Q

section
variable {c : Cx} {k : List Item} {s : St} {ops : Array Oper} {rest : List Oper} {o : Oper}
theorem Tops_step {s' : St} (hg : o.guard = none) (ho : OpT c o s (fun x => x = s')) (h : Tops c ops k rest s') : Tops c ops k (o :: rest) s := fun a w hs =>
  wpList_plain hg fun _ hK => ho a w hs _ _ fun _ e a' w' hs' => hK a' w' (h a' w' (e ▸ hs'))
theorem Tops_ex {α : Type} {f : α → St} (hg : o.guard = none) (ho : OpT c o s (fun x => ∃ y, x = f y)) (h : ∀ y, Tops c ops k rest (f y)) : Tops c ops k (o :: rest) s := fun a w hs =>
  wpList_plain hg fun _ hK => ho a w hs _ _ fun _ ⟨y, e⟩ a' w' hs' => hK a' w' (h y a' w' (e ▸ hs'))
theorem Tops_exP {Ks : St → Prop} (hg : o.guard = none) (ho : OpT c o s Ks) (h : ∀ s', Ks s' → Tops c ops k rest s') : Tops c ops k (o :: rest) s := fun a w hs =>
  wpList_plain hg fun _ hK => ho a w hs _ _ fun s' e a' w' hs' => hK a' w' (h s' e a' w' hs')
theorem OpT.mono {Ks Ks' : St → Prop} (h : OpT c o s Ks) (hk : ∀ x, Ks x → Ks' x) : OpT c o s Ks' := fun a w hs K Q hK => h a w hs K Q fun s' e => hK s' (hk s' e)

/-! guards -/
theorem wanted_of {j : Nat} {b t : Bool} {d : Nat} {a : Act} {fr : List (Nat × Option Value)} (hf : Fr a fr) (hg : o.guard = some (j, b)) (hd : ((ops[j]?).bind (·.dst)) = some d) (hl : lk fr d = some (.bool t)) :
    Region.wanted o (yielded ops a.tmps) = (t == b) := by
  have h := hf d _ hl
  have : yielded ops a.tmps j = some t := by
    cases ho : ops[j]? with
    | none => rw [ho] at hd; cases hd
    | some oj => rw [ho] at hd; simp at hd; simp [yielded, ho, hd, h]
  simp [Region.wanted, hg, this]
theorem Tops_yes {j : Nat} {b : Bool} {d : Nat} (hg : o.guard = some (j, b)) (hd : ((ops[j]?).bind (·.dst)) = some d) (hl : lk s.fr d = some (.bool b)) {Ks : St → Prop} (ho : OpT c o s Ks) (h : ∀ s', Ks s' → Tops c ops k rest s') : Tops c ops k (o :: rest) s := fun a w hs => by
  have hw := wanted_of (ops := ops) hs.2.2.1 hg hd hl
  refine wpList_step fun K hK => ?_
  rw [if_pos (by simpa using hw)]
  exact ho a w hs _ _ fun s' e a' w' hs' => hK a' w' (h s' e a' w' hs')
theorem Sat_put {fr : List (Nat × Option Value)} {own : List (Option Res)} {shr : List Fact} {d : Nat} {v : Value} {a : Act} {w : World} (hn : Nat.blt d c.n = true) (h : Sat c ⟨fr, own, shr⟩ a w) : Sat c ⟨(d, some v) :: fr, own, shr⟩ (a.put (some d) v) w := by
  obtain ⟨h1, h2, h3, h4⟩ := h
  have hd : d < a.tmps.size := by rw [h1]; exact Nat.blt_eq ▸ hn
  refine ⟨by simpa [Act.put] using h1, by simpa [Act.put] using h2, ?_, h4⟩
  intro t u hl
  simp only [lk] at hl
  by_cases e : t = d
  · subst e; simp at hl; subst hl
    simp [Act.put, Array.getElem?_setIfInBounds, hd]
  · rw [nbeq_ne e] at hl
    have := h3 t u hl
    simp only [Act.put, Array.getElem?_setIfInBounds]
    rw [if_neg (fun q => e q.symm)]; exact this
/-- a guarded operation that is passed over; its place holds nothing that is known -/
theorem Tops_no {j : Nat} {b : Bool} {d : Nat} {e : Nat} {fr : List (Nat × Option Value)} {own : List (Option Res)} {shr : List Fact} (hg : o.guard = some (j, b)) (hd : ((ops[j]?).bind (·.dst)) = some d) (hl : lk fr d = some (.bool (!b)))
    (he : o.dst = some e) (hn : Nat.blt e c.n = true) (h : Tops c ops k rest ⟨(e, some undef) :: fr, own, shr⟩) : Tops c ops k (o :: rest) ⟨fr, own, shr⟩ := fun a w hs => by
  have hw := wanted_of (ops := ops) hs.2.2.1 hg hd hl
  refine wpList_step fun K hK => ?_
  rw [if_neg (by rw [hw]; cases b <;> simp)]
  refine hK _ _ (h _ _ ?_)
  rw [he]; exact Sat_put hn hs

/-! an operation that yields a value and leaves memory as it is -/
theorem OpT_val {fr : List (Nat × Option Value)} {own : List (Option Res)} {shr : List Fact} {d : Nat} {v : Value} (hn : Nat.blt d c.n = true) (hd : o.dst = some d)
    (h : ∀ a w, Sat c ⟨fr, own, shr⟩ a w → (execOp a.eval o).run c.P w = .ok (.value v) w) : OpT c o ⟨fr, own, shr⟩ (fun x => x = ⟨(d, some v) :: fr, own, shr⟩) := by
  intro a w hs K Q hK
  unfold Oper.wp
  rw [h a w hs, Oper.upon_value, hd]
  exact hK _ rfl _ _ (Sat_put hn hs)

variable {fr : List (Nat × Option Value)} {own : List (Option Res)} {shr : List Fact} {d : Nat}
theorem OpT_move {x : Operand} {v : Value} (hn : Nat.blt d c.n = true) (hd : o.dst = some d) (ho : o.op = .move x) (hx : ev fr x = some v) : OpT c o ⟨fr, own, shr⟩ (fun y => y = ⟨(d, some v) :: fr, own, shr⟩) :=
  OpT_val hn hd fun a w hs => by simp [execOp, ho, ev_eval hs.2.2.1 hx]
theorem OpT_assign {x : Operand} {v : Value} (hn : Nat.blt d c.n = true) (hd : o.dst = some d) (ho : o.op = .assign x) (hx : ev fr x = some v) : OpT c o ⟨fr, own, shr⟩ (fun y => y = ⟨(d, some v) :: fr, own, shr⟩) :=
  OpT_val hn hd fun a w hs => by simp [execOp, ho, ev_eval hs.2.2.1 hx]
theorem OpT_pickT {x y z : Operand} {v : Value} (hn : Nat.blt d c.n = true) (hd : o.dst = some d) (ho : o.op = .pick x y z) (hx : ev fr x = some (.bool true)) (hy : ev fr y = some v) : OpT c o ⟨fr, own, shr⟩ (fun y => y = ⟨(d, some v) :: fr, own, shr⟩) :=
  OpT_val hn hd fun a w hs => by simp [execOp, ho, ev_eval hs.2.2.1 hx, ev_eval hs.2.2.1 hy, asBool]
theorem OpT_pickF {x y z : Operand} {v : Value} (hn : Nat.blt d c.n = true) (hd : o.dst = some d) (ho : o.op = .pick x y z) (hx : ev fr x = some (.bool false)) (hz : ev fr z = some v) : OpT c o ⟨fr, own, shr⟩ (fun y => y = ⟨(d, some v) :: fr, own, shr⟩) :=
  OpT_val hn hd fun a w hs => by simp [execOp, ho, ev_eval hs.2.2.1 hx, ev_eval hs.2.2.1 hz, asBool]
theorem OpT_extract {x : Operand} {i : Nat} {vs : Array Value} {v : Value} (hn : Nat.blt d c.n = true) (hd : o.dst = some d) (ho : o.op = .extract x i) (hx : ev fr x = some (.tuple vs)) (hv : vs[i]? = some v) : OpT c o ⟨fr, own, shr⟩ (fun y => y = ⟨(d, some v) :: fr, own, shr⟩) :=
  OpT_val hn hd fun a w hs => by simp [execOp, ho, ev_eval hs.2.2.1 hx, Instr.extract, hv]
theorem OpT_nilCheckP {x : Operand} {p : Addr} (hn : Nat.blt d c.n = true) (hd : o.dst = some d) (ho : o.op = .nilCheck x) (hx : ev fr x = some (.pointer (some p))) : OpT c o ⟨fr, own, shr⟩ (fun y => y = ⟨(d, some (.pointer (some p))) :: fr, own, shr⟩) :=
  OpT_val hn hd fun a w hs => by simp [execOp, ho, ev_eval hs.2.2.1 hx]
theorem OpT_not {x : Operand} {t : TypeId} {b : Bool} (hn : Nat.blt d c.n = true) (hd : o.dst = some d) (ho : o.op = .unOp .not t x) (hx : ev fr x = some (.bool b)) : OpT c o ⟨fr, own, shr⟩ (fun y => y = ⟨(d, some (.bool (!b))) :: fr, own, shr⟩) :=
  OpT_val hn hd fun a w hs => by simp [execOp, ho, ev_eval hs.2.2.1 hx, Op.unary]

/-- what a binary operation comes to, in any world -/
def Bin (P : Program) (op : BinOp) (t : TypeId) (x y : Operand) (vx vy v : Value) : Prop :=
  ∀ w, (do eqGuard op t x y vx vy; binOp op t vx vy : Sem Value).run P w = .ok v w
theorem OpT_bin {op : BinOp} {t t2 : TypeId} {x y : Operand} {vx vy v : Value} (hn : Nat.blt d c.n = true) (hd : o.dst = some d) (ho : o.op = .binOp op t x y t2) (hx : ev fr x = some vx) (hy : ev fr y = some vy) (hb : Bin c.P op t x y vx vy v) :
    OpT c o ⟨fr, own, shr⟩ (fun y => y = ⟨(d, some v) :: fr, own, shr⟩) :=
  OpT_val hn hd fun a w hs => by
    have := hb w
    simp only [execOp, ho, ev_eval hs.2.2.1 hx, ev_eval hs.2.2.1 hy]
    simp only [Sem.run_bind, this]; rfl
/-- what a conversion comes to, in any world -/
def Cnv (P : Program) (s d : TypeId) (v v' : Value) : Prop := ∀ w, (convert s d v).run P w = .ok v' w
theorem OpT_cnv {t t2 : TypeId} {x : Operand} {vx v : Value} (hn : Nat.blt d c.n = true) (hd : o.dst = some d) (ho : o.op = .convert t t2 x) (hx : ev fr x = some vx) (hb : Cnv c.P t t2 vx v) :
    OpT c o ⟨fr, own, shr⟩ (fun y => y = ⟨(d, some v) :: fr, own, shr⟩) :=
  OpT_val hn hd fun a w hs => by
    have := hb w
    simp only [execOp, ho, ev_eval hs.2.2.1 hx]
    simp only [Sem.run_bind, this]; rfl
end

theorem wrap_u64' (n : Int) : IntKind.u64.wrap n = n % 18446744073709551616 := by simp [IntKind.wrap, IntKind.bits, IntKind.signed]
theorem Bin_int {P : Program} {op : BinOp} {t : TypeId} {x y : Operand} {k : IntKind} {a b : Int} {v : Value} (hs : op ≠ .shl) (hs' : op ≠ .shr) (h : ∀ w, (match op with
    | .add | .sub | .mul => Op.intArith op k a b
    | .quo | .rem => Op.intDiv op k a b
    | .and | .or | .xor | .andNot => Op.intBits op k a b
    | _ => Op.intCmp op a b).run P w = .ok v w) : Bin P op t x y (.int k a) (.int k b) v := by
  intro w
  have hg : (eqGuard op t x y (.int k a) (.int k b)).run P w = .ok () w := by
    unfold eqGuard; cases op <;> simp
  rw [Sem.run_bind, hg]
  simp only [Result.andThen_ok]
  have := h w
  cases op <;> first | exact absurd rfl hs | exact absurd rfl hs' | (simp only [binOp, ne_eq, not_true_eq_false, if_false]; exact this)
section
variable {P : Program} {t : TypeId} {x y : Operand}

theorem bin_eql_u8 {a b : UInt8} : Bin P .eql t x y (vU8 a) (vU8 b) (.bool (a == b)) :=
  Bin_int (by simp) (by simp) fun w => by
    simp only [Op.intCmp, Sem.run_pure]
    congr 2
    by_cases h : a = b
    · subst h; simp
    · have h' : ¬ (a.toNat : Int) = (b.toNat : Int) := fun q => h (UInt8.toNat_inj.1 (by omega))
      simp [h, h', bne, beq_eq_false_iff_ne.2 h, beq_eq_false_iff_ne.2 h']
theorem bin_neq_u8 {a b : UInt8} : Bin P .neq t x y (vU8 a) (vU8 b) (.bool (a != b)) :=
  Bin_int (by simp) (by simp) fun w => by
    simp only [Op.intCmp, Sem.run_pure]
    congr 2
    by_cases h : a = b
    · subst h; simp
    · have h' : ¬ (a.toNat : Int) = (b.toNat : Int) := fun q => h (UInt8.toNat_inj.1 (by omega))
      simp [h, h', bne, beq_eq_false_iff_ne.2 h, beq_eq_false_iff_ne.2 h']
theorem bin_add_u32 {a b : UInt32} : Bin P .add t x y (vU32 a) (vU32 b) (vU32 (a + b)) :=
  Bin_int (by simp) (by simp) fun w => by
    have ha := a.toNat_lt; have hb := b.toNat_lt
    have e : ((a.toNat : Int) + (b.toNat : Int)) % 4294967296 = ((a + b).toNat : Int) := by
      rw [UInt32.toNat_add]; omega
    simp only [Op.intArith, Sem.run_pure, IntKind.wrap_u32, e]
theorem bin_sub_u32 {a b : UInt32} : Bin P .sub t x y (vU32 a) (vU32 b) (vU32 (a - b)) :=
  Bin_int (by simp) (by simp) fun w => by
    have ha := a.toNat_lt; have hb := b.toNat_lt
    have e : ((a.toNat : Int) - (b.toNat : Int)) % 4294967296 = ((a - b).toNat : Int) := by
      rw [UInt32.toNat_sub]; omega
    simp only [Op.intArith, Sem.run_pure, IntKind.wrap_u32, e]
theorem bin_eql_u32 {a b : UInt32} : Bin P .eql t x y (vU32 a) (vU32 b) (.bool (a == b)) :=
  Bin_int (by simp) (by simp) fun w => by
    simp only [Op.intCmp, Sem.run_pure]
    congr 2
    by_cases h : a = b
    · subst h; simp
    · have h' : ¬ (a.toNat : Int) = (b.toNat : Int) := fun q => h (UInt32.toNat_inj.1 (by omega))
      simp [h, h', bne, beq_eq_false_iff_ne.2 h, beq_eq_false_iff_ne.2 h']
theorem bin_neq_u32 {a b : UInt32} : Bin P .neq t x y (vU32 a) (vU32 b) (.bool (a != b)) :=
  Bin_int (by simp) (by simp) fun w => by
    simp only [Op.intCmp, Sem.run_pure]
    congr 2
    by_cases h : a = b
    · subst h; simp
    · have h' : ¬ (a.toNat : Int) = (b.toNat : Int) := fun q => h (UInt32.toNat_inj.1 (by omega))
      simp [h, h', bne, beq_eq_false_iff_ne.2 h, beq_eq_false_iff_ne.2 h']
theorem bin_lss_u32 {a b : UInt32} : Bin P .lss t x y (vU32 a) (vU32 b) (.bool (decide (a < b))) :=
  Bin_int (by simp) (by simp) fun w => by
    simp only [Op.intCmp, Sem.run_pure]
    congr 2
    simp only [decide_eq_decide, GT.gt, GE.ge, UInt32.lt_iff_toNat_lt]; omega
theorem bin_add_u64 {a b : UInt64} : Bin P .add t x y (vU64 a) (vU64 b) (vU64 (a + b)) :=
  Bin_int (by simp) (by simp) fun w => by
    have ha := a.toNat_lt; have hb := b.toNat_lt
    have e : ((a.toNat : Int) + (b.toNat : Int)) % 18446744073709551616 = ((a + b).toNat : Int) := by
      rw [UInt64.toNat_add]; omega
    simp only [Op.intArith, Sem.run_pure, wrap_u64', e]
theorem bin_sub_u64 {a b : UInt64} : Bin P .sub t x y (vU64 a) (vU64 b) (vU64 (a - b)) :=
  Bin_int (by simp) (by simp) fun w => by
    have ha := a.toNat_lt; have hb := b.toNat_lt
    have e : ((a.toNat : Int) - (b.toNat : Int)) % 18446744073709551616 = ((a - b).toNat : Int) := by
      rw [UInt64.toNat_sub]; omega
    simp only [Op.intArith, Sem.run_pure, wrap_u64', e]
theorem bin_and_u64 {a b : UInt64} : Bin P .and t x y (vU64 a) (vU64 b) (vU64 (a &&& b)) :=
  Bin_int (by simp) (by simp) fun w => by
    simp only [Op.intBits, Sem.run_pure, wrap_u64']
    congr 2
    have e : ∀ z : UInt64, BitVec.ofInt (IntKind.bits .u64) (z.toNat : Int) = z.toBitVec := fun z => by
      apply BitVec.eq_of_toNat_eq; have := z.toNat_lt; simp [IntKind.bits, BitVec.toNat_ofInt]
    rw [e, e]
    have := (a &&& b).toNat_lt
    have e2 : (((a &&& b).toNat : Nat) : Int) % 18446744073709551616 = ((a &&& b).toNat : Int) := by omega
    exact e2
theorem bin_or_u64 {a b : UInt64} : Bin P .or t x y (vU64 a) (vU64 b) (vU64 (a ||| b)) :=
  Bin_int (by simp) (by simp) fun w => by
    simp only [Op.intBits, Sem.run_pure, wrap_u64']
    congr 2
    have e : ∀ z : UInt64, BitVec.ofInt (IntKind.bits .u64) (z.toNat : Int) = z.toBitVec := fun z => by
      apply BitVec.eq_of_toNat_eq; have := z.toNat_lt; simp [IntKind.bits, BitVec.toNat_ofInt]
    rw [e, e]
    have := (a ||| b).toNat_lt
    have e2 : (((a ||| b).toNat : Nat) : Int) % 18446744073709551616 = ((a ||| b).toNat : Int) := by omega
    exact e2
theorem bin_andNot_u64 {a b : UInt64} : Bin P .andNot t x y (vU64 a) (vU64 b) (vU64 (a &&& ~~~b)) :=
  Bin_int (by simp) (by simp) fun w => by
    simp only [Op.intBits, Sem.run_pure, wrap_u64']
    congr 2
    have e : ∀ z : UInt64, BitVec.ofInt (IntKind.bits .u64) (z.toNat : Int) = z.toBitVec := fun z => by
      apply BitVec.eq_of_toNat_eq; have := z.toNat_lt; simp [IntKind.bits, BitVec.toNat_ofInt]
    rw [e, e]
    have := (a &&& ~~~b).toNat_lt
    have e2 : (((a &&& ~~~b).toNat : Nat) : Int) % 18446744073709551616 = ((a &&& ~~~b).toNat : Int) := by omega
    exact e2
theorem bin_eql_u64 {a b : UInt64} : Bin P .eql t x y (vU64 a) (vU64 b) (.bool (a == b)) :=
  Bin_int (by simp) (by simp) fun w => by
    simp only [Op.intCmp, Sem.run_pure]
    congr 2
    by_cases h : a = b
    · subst h; simp
    · have h' : ¬ (a.toNat : Int) = (b.toNat : Int) := fun q => h (UInt64.toNat_inj.1 (by omega))
      simp [h, h', bne, beq_eq_false_iff_ne.2 h, beq_eq_false_iff_ne.2 h']
theorem bin_neq_u64 {a b : UInt64} : Bin P .neq t x y (vU64 a) (vU64 b) (.bool (a != b)) :=
  Bin_int (by simp) (by simp) fun w => by
    simp only [Op.intCmp, Sem.run_pure]
    congr 2
    by_cases h : a = b
    · subst h; simp
    · have h' : ¬ (a.toNat : Int) = (b.toNat : Int) := fun q => h (UInt64.toNat_inj.1 (by omega))
      simp [h, h', bne, beq_eq_false_iff_ne.2 h, beq_eq_false_iff_ne.2 h']
theorem bin_lss_u64 {a b : UInt64} : Bin P .lss t x y (vU64 a) (vU64 b) (.bool (decide (a < b))) :=
  Bin_int (by simp) (by simp) fun w => by
    simp only [Op.intCmp, Sem.run_pure]
    congr 2
    simp only [decide_eq_decide, GT.gt, GE.ge, UInt64.lt_iff_toNat_lt]; omega
theorem bin_leq_u64 {a b : UInt64} : Bin P .leq t x y (vU64 a) (vU64 b) (.bool (decide (a ≤ b))) :=
  Bin_int (by simp) (by simp) fun w => by
    simp only [Op.intCmp, Sem.run_pure]
    congr 2
    simp only [decide_eq_decide, GT.gt, GE.ge, UInt64.le_iff_toNat_le]; omega
theorem bin_gtr_u64 {a b : UInt64} : Bin P .gtr t x y (vU64 a) (vU64 b) (.bool (decide (a > b))) :=
  Bin_int (by simp) (by simp) fun w => by
    simp only [Op.intCmp, Sem.run_pure]
    congr 2
    simp only [decide_eq_decide, GT.gt, GE.ge, UInt64.lt_iff_toNat_lt]; omega
theorem bin_geq_u64 {a b : UInt64} : Bin P .geq t x y (vU64 a) (vU64 b) (.bool (decide (a ≥ b))) :=
  Bin_int (by simp) (by simp) fun w => by
    simp only [Op.intCmp, Sem.run_pure]
    congr 2
    simp only [decide_eq_decide, GT.gt, GE.ge, UInt64.le_iff_toNat_le]; omega
theorem bin_quo_u64 {a b : UInt64} (hb : (b == 0) = false) : Bin P .quo t x y (vU64 a) (vU64 b) (vU64 (a / b)) :=
  Bin_int (by simp) (by simp) fun w => by
    have h0 : ¬ (b.toNat : Int) = 0 := fun q => by
      have : b = 0 := UInt64.toNat_inj.1 (by simpa using q)
      simp [this] at hb
    have ha := a.toNat_lt
    have h1 : a.toNat / b.toNat ≤ a.toNat := Nat.div_le_self _ _
    have e : ((a.toNat : Int).tdiv (b.toNat : Int)) % 18446744073709551616 = ((a / b).toNat : Int) := by
      rw [UInt64.toNat_div]
      have e1 : ((a.toNat : Int) / (b.toNat : Int)) = ((a.toNat / b.toNat : Nat) : Int) := (Int.natCast_ediv _ _).symm
      rw [Int.tdiv_eq_ediv_of_nonneg (by omega), e1]; have h5 := Int.natCast_nonneg (a.toNat / b.toNat)
      have h6 : ((a.toNat / b.toNat : Nat) : Int) ≤ (a.toNat : Int) := Int.ofNat_le.2 h1
      exact Int.emod_eq_of_lt h5 (Int.lt_of_le_of_lt h6 (by omega))
    simp only [Op.intDiv, if_neg h0, Sem.run_pure, wrap_u64', e]
theorem bin_rem_u64 {a b : UInt64} (hb : (b == 0) = false) : Bin P .rem t x y (vU64 a) (vU64 b) (vU64 (a % b)) :=
  Bin_int (by simp) (by simp) fun w => by
    have h0 : ¬ (b.toNat : Int) = 0 := fun q => by
      have : b = 0 := UInt64.toNat_inj.1 (by simpa using q)
      simp [this] at hb
    have ha := a.toNat_lt
    have h1 : a.toNat / b.toNat ≤ a.toNat := Nat.div_le_self _ _
    have e : (a.toNat : Int).tmod (b.toNat : Int) = ((a % b).toNat : Int) := by
      rw [UInt64.toNat_mod]
      rw [Int.tmod_eq_emod_of_nonneg (by omega), Int.natCast_emod]
    simp only [Op.intDiv, if_neg h0, Sem.run_pure, e]
theorem bin_shl_u64_u64 {a : UInt64} {n : UInt64} : Bin P .shl t x y (vU64 a) (vU64 n) (vU64 (shl64 a n.toNat)) := by
  intro w
  have h0 : ¬ ((n.toNat : Int) < 0) := by omega
  simp only [eqGuard, binOp, Op.shift, if_neg h0, Sem.run_pure, Sem.run_bind, Result.andThen_ok]
  have e : ((a.toNat : Int) * 2 ^ (min n.toNat 64)) % 18446744073709551616 = ((shl64 a n.toNat).toNat : Int) := by
    simp only [shl64, UInt64.toNat_ofNat']; rw [Int.natCast_emod, Int.natCast_mul, Int.natCast_pow]; rfl
  simp only [Bool.not_false, if_true, Sem.run_pure, Result.andThen_ok, wrap_u64', IntKind.bits, Int.toNat_natCast, e]
theorem bin_shr_u64_u64 {a : UInt64} {n : UInt64} : Bin P .shr t x y (vU64 a) (vU64 n) (vU64 (shr64 a n.toNat)) := by
  intro w
  have h0 : ¬ ((n.toNat : Int) < 0) := by omega
  simp only [eqGuard, binOp, Op.shift, if_neg h0, Sem.run_pure, Sem.run_bind, Result.andThen_ok]
  have ha := a.toNat_lt
  have h1 := Nat.div_le_self a.toNat (2 ^ (min n.toNat 64))
  have e : ((a.toNat : Int)).fdiv (2 ^ (min n.toNat 64)) = ((shr64 a n.toNat).toNat : Int) := by
    simp only [shr64, UInt64.toNat_ofNat']
    rw [Nat.mod_eq_of_lt (by omega), Int.fdiv_eq_ediv_of_nonneg _ (Int.pow_nonneg (by decide)), Int.natCast_ediv, Int.natCast_pow]; rfl
  simp only [Bool.not_false, if_true, Sem.run_pure, Result.andThen_ok, IntKind.bits, Int.toNat_natCast, e]
theorem bin_shr_u64_i64 {a : UInt64} {n : Int} (hn : decide (0 ≤ n) = true) : Bin P .shr t x y (vU64 a) (vI n) (vU64 (shr64 a n.toNat)) := by
  intro w
  have h0 : ¬ (n < 0) := by simpa using hn
  simp only [eqGuard, binOp, Op.shift, if_neg h0, Sem.run_pure, Sem.run_bind, Result.andThen_ok]
  have ha := a.toNat_lt
  have h1 := Nat.div_le_self a.toNat (2 ^ (min n.toNat 64))
  have e : ((a.toNat : Int)).fdiv (2 ^ (min n.toNat 64)) = ((shr64 a n.toNat).toNat : Int) := by
    simp only [shr64, UInt64.toNat_ofNat']
    rw [Nat.mod_eq_of_lt (by omega), Int.fdiv_eq_ediv_of_nonneg _ (Int.pow_nonneg (by decide)), Int.natCast_ediv, Int.natCast_pow]; rfl
  simp only [Bool.not_false, if_true, Sem.run_pure, Result.andThen_ok, IntKind.bits, Int.toNat_natCast, e]
theorem bin_add_i {a b : Int} : Bin P .add t x y (vI a) (vI b) (vI (wi (a + b))) := Bin_int (by simp) (by simp) fun w => by simp only [Op.intArith, Sem.run_pure, wi_wrap]
theorem bin_sub_i {a b : Int} : Bin P .sub t x y (vI a) (vI b) (vI (wi (a - b))) := Bin_int (by simp) (by simp) fun w => by simp only [Op.intArith, Sem.run_pure, wi_wrap]
theorem bin_mul_i {a b : Int} : Bin P .mul t x y (vI a) (vI b) (vI (wi (a * b))) := Bin_int (by simp) (by simp) fun w => by simp only [Op.intArith, Sem.run_pure, wi_wrap]
theorem bin_eql_i {a b : Int} : Bin P .eql t x y (vI a) (vI b) (.bool (a == b)) := Bin_int (by simp) (by simp) fun w => by simp only [Op.intCmp, Sem.run_pure]
theorem bin_neq_i {a b : Int} : Bin P .neq t x y (vI a) (vI b) (.bool (a != b)) := Bin_int (by simp) (by simp) fun w => by simp only [Op.intCmp, Sem.run_pure]
theorem bin_lss_i {a b : Int} : Bin P .lss t x y (vI a) (vI b) (.bool (decide (a < b))) := Bin_int (by simp) (by simp) fun w => by simp only [Op.intCmp, Sem.run_pure]
theorem bin_leq_i {a b : Int} : Bin P .leq t x y (vI a) (vI b) (.bool (decide (a ≤ b))) := Bin_int (by simp) (by simp) fun w => by simp only [Op.intCmp, Sem.run_pure]
theorem bin_gtr_i {a b : Int} : Bin P .gtr t x y (vI a) (vI b) (.bool (decide (a > b))) := Bin_int (by simp) (by simp) fun w => by simp only [Op.intCmp, Sem.run_pure]
theorem bin_geq_i {a b : Int} : Bin P .geq t x y (vI a) (vI b) (.bool (decide (a ≥ b))) := Bin_int (by simp) (by simp) fun w => by simp only [Op.intCmp, Sem.run_pure]
theorem bin_quo_i {a b : Int} (hb : (b == 0) = false) : Bin P .quo t x y (vI a) (vI b) (vI (quoi a b)) := Bin_int (by simp) (by simp) fun w => by
  have h0 : ¬ b = 0 := by simpa using hb
  simp only [Op.intDiv, if_neg h0, Sem.run_pure, wi_wrap, quoi]
theorem bin_rem_i {a b : Int} (hb : (b == 0) = false) : Bin P .rem t x y (vI a) (vI b) (vI (remi a b)) := Bin_int (by simp) (by simp) fun w => by
  have h0 : ¬ b = 0 := by simpa using hb
  simp only [Op.intDiv, if_neg h0, Sem.run_pure, remi]
theorem vS_toList (s : List UInt8) : (⟨s.toArray⟩ : ByteArray).toList = s := by simp [ByteArray.toList_eq]
theorem bin_eql_s {a b : List UInt8} : Bin P .eql t x y (vS a) (vS b) (.bool (a == b)) := by
  intro w; simp [eqGuard, binOp, Op.stringOp, vS_toList]
theorem bin_neq_s {a b : List UInt8} : Bin P .neq t x y (vS a) (vS b) (.bool (a != b)) := by
  intro w; simp [eqGuard, binOp, Op.stringOp, vS_toList, bne]
theorem bin_add_s {a b : List UInt8} (h : decide (a.length + b.length ≤ 9223372036854775807) = true) : Bin P .add t x y (vS a) (vS b) (vS (a ++ b)) := by
  intro w
  have h' : ¬ (((a.length + b.length : Nat) : Int) > IntKind.i64.max) := by
    have : a.length + b.length ≤ 9223372036854775807 := by simpa using h
    simp [IntKind.max, IntKind.bits, IntKind.signed]; omega
  have e : (⟨a.toArray⟩ : ByteArray).size + (⟨b.toArray⟩ : ByteArray).size = a.length + b.length := by simp [ByteArray.size]
  simp only [eqGuard, binOp, Op.stringOp, e, if_neg h', Sem.run_pure, Sem.run_bind, Result.andThen_ok]
  simp only [Bool.not_false, if_true, Sem.run_pure, Result.andThen_ok]
  congr 2
theorem bin_eql_b (ht : P.underlying t = some .bool) {a b : Bool} : Bin P .eql t x y (vB a) (vB b) (.bool (a == b)) := by
  intro w
  have hm : Op.maxDepth = 9999 + 1 := rfl
  simp only [eqGuard, binOp, Op.equal, hm, Sem.run_bind]
  rw [Op.equalIn]
  simp [run_underlying ht]
theorem Cnv_int {s d : TypeId} {ds : TypeDesc} {k k' : IntKind} {n : Int} (hs : P.underlying s = some ds) (hd : P.underlying d = some (.int k')) : Cnv P s d (.int k n) (.int k' (k'.wrap n)) := by
  intro w; simp [convert, run_underlying hs, run_underlying hd, Conv.intToInt]
theorem cnv_u8_u64 {s d : TypeId} {ds : TypeDesc} {n : UInt8} (hs : P.underlying s = some ds) (hd : P.underlying d = some (.int .u64)) : Cnv P s d (vU8 n) (vU64 n.toUInt64) := by have h := Cnv_int (k := .u8) (n := (n.toNat : Int)) hs hd; have hn := n.toNat_lt; rw [wrap_u64', Int.emod_eq_of_lt (by omega) (by omega)] at h; show Cnv P s d _ (.int .u64 (n.toUInt64.toNat : Int)); rw [UInt8.toNat_toUInt64]; exact h
theorem cnv_u32_u64 {s d : TypeId} {ds : TypeDesc} {n : UInt32} (hs : P.underlying s = some ds) (hd : P.underlying d = some (.int .u64)) : Cnv P s d (vU32 n) (vU64 n.toUInt64) := by have h := Cnv_int (k := .u32) (n := (n.toNat : Int)) hs hd; have hn := n.toNat_lt; rw [wrap_u64', Int.emod_eq_of_lt (by omega) (by omega)] at h; show Cnv P s d _ (.int .u64 (n.toUInt64.toNat : Int)); rw [UInt32.toNat_toUInt64]; exact h
theorem cnv_u32_i {s d : TypeId} {ds : TypeDesc} {n : UInt32} (hs : P.underlying s = some ds) (hd : P.underlying d = some (.int .i64)) : Cnv P s d (vU32 n) (vI (i32 n)) := by have h := Cnv_int (k := .u32) (n := (n.toNat : Int)) hs hd; have hn := n.toNat_lt; rw [wi_wrap, wi_in (by omega) (by omega)] at h; exact h
theorem cnv_u64_u8 {s d : TypeId} {ds : TypeDesc} {n : UInt64} (hs : P.underlying s = some ds) (hd : P.underlying d = some (.int .u8)) : Cnv P s d (vU64 n) (vU8 n.toUInt8) := by have h := Cnv_int (k := .u64) (n := (n.toNat : Int)) hs hd; have e : (n.toNat : Int) % 256 = (n.toUInt8.toNat : Int) := (by rw [UInt64.toNat_toUInt8, Int.natCast_emod]; try rfl); rw [IntKind.wrap_u8, e] at h; exact h
theorem cnv_u64_u32 {s d : TypeId} {ds : TypeDesc} {n : UInt64} (hs : P.underlying s = some ds) (hd : P.underlying d = some (.int .u32)) : Cnv P s d (vU64 n) (vU32 n.toUInt32) := by have h := Cnv_int (k := .u64) (n := (n.toNat : Int)) hs hd; have e : (n.toNat : Int) % 4294967296 = (n.toUInt32.toNat : Int) := (by rw [UInt64.toNat_toUInt32, Int.natCast_emod]; try rfl); rw [IntKind.wrap_u32, e] at h; exact h
theorem cnv_u64_i {s d : TypeId} {ds : TypeDesc} {n : UInt64} (hs : P.underlying s = some ds) (hd : P.underlying d = some (.int .i64)) : Cnv P s d (vU64 n) (vI (i64 n)) := by have h := Cnv_int (k := .u64) (n := (n.toNat : Int)) hs hd; rw [wi_wrap] at h; exact h
theorem cnv_i_u32 {s d : TypeId} {ds : TypeDesc} {n : Int} (hs : P.underlying s = some ds) (hd : P.underlying d = some (.int .u32)) : Cnv P s d (vI n) (vU32 (u32 n)) := by have h := Cnv_int (k := .i64) (n := n) hs hd; rw [IntKind.wrap_u32, ← u32_nat] at h; exact h
theorem cnv_i_u64 {s d : TypeId} {ds : TypeDesc} {n : Int} (hs : P.underlying s = some ds) (hd : P.underlying d = some (.int .u64)) : Cnv P s d (vI n) (vU64 (u64 n)) := by have h := Cnv_int (k := .i64) (n := n) hs hd; rw [wrap_u64', ← u64_nat] at h; exact h
end
end Go.Proofs.Ytjfdamiilndgeaa

end

section
namespace Go.Proofs.Ytjfdamiilndgeaa

/-! ## a step that writes into the part i, or lays new memory as part i -/
theorem HW.upd {R0 : PH} {w0 : World} {B : Nat → Prop} {own own' : List (Option Res)} {shr : List Fact} {w w' : World} {R : PH} {hs : Nat → PH} (h : HW R0 w0 B own shr w R hs) (i : Nat) (h' : PH)
    (hk : ∀ b, b < w.heap.size → hs i b = none → w'.heap[b]? = w.heap[b]?) (hsz : w.heap.size ≤ w'.heap.size) (hin : h'.inW w')
    (hdom : ∀ b o, h' b = some o → hs i b ≠ none ∨ w.heap.size ≤ b) (hos : w'.os = w.os) (htape : w'.tape = w.tape) (hout : w'.output = w.output)
    (hown : ∀ (j : Nat) (r : Res), own'[j]? = some (some r) → (j = i ∧ r.p R h') ∨ (j ≠ i ∧ own[j]? = some (some r))) :
    HW R0 w0 B own' shr w' R (fun j => if j = i then h' else hs j) := by
  have lt_of_in : ∀ {x : PH}, x.inW w → ∀ b o, x b = some o → b < w.heap.size := fun hx b o hb => (Array.getElem?_eq_some_iff.1 (hx b o hb)).1
  have keepIn : ∀ {x : PH}, x.inW w → x.disj (hs i) → x.inW w' := fun {x} hx hd b o hb => by
    have h1 : hs i b = none := by
      rcases hd b with h | h
      · rw [h] at hb; cases hb
      · exact h
    rw [hk b (lt_of_in hx b o hb) h1]; exact hx b o hb
  have disj' : ∀ {x : PH}, x.inW w → x.disj (hs i) → x.disj h' := fun {x} hx hd b => by
    cases hb : x b with
    | none => exact .inl rfl
    | some o =>
      right
      cases hb' : h' b with
      | none => rfl
      | some o' =>
        rcases hdom b o' hb' with q | q
        · rcases hd b with q' | q'
          · rw [q'] at hb; cases hb
          · exact absurd q' q
        · have := lt_of_in hx b o hb; omega
  refine ⟨h.r0, keepIn h.rw_ (h.rd i), h.sh, ?_, ?_, ?_, ?_, ?_, h.rnew, Nat.le_trans h.size hsz, ?_, hos.trans h.os, htape.trans h.tape, hout.trans h.output⟩
  · intro j r hj
    rcases hown j r hj with ⟨e, hr⟩ | ⟨e, hr⟩
    · simp only [e, if_true]; exact hr
    · simp only [e, if_false]; exact h.ow j r hr
  · intro j
    by_cases e : j = i
    · simp only [e, if_true]; exact hin
    · simp only [e, if_false]; exact keepIn (h.hw j) (h.dj j i e)
  · intro j l hjl
    by_cases e : j = i
    · have e' : l ≠ i := fun q => hjl (e.trans q.symm)
      simp only [e, e', if_true, if_false]; exact PH.disj_comm (disj' (h.hw l) (h.dj l i e'))
    · by_cases e' : l = i
      · simp only [e, e', if_true, if_false]; exact disj' (h.hw j) (h.dj j i e)
      · simp only [e, e', if_false]; exact h.dj j l hjl
  · intro j
    by_cases e : j = i
    · simp only [e, if_true]; exact disj' h.rw_ (h.rd i)
    · simp only [e, if_false]; exact h.rd j
  · intro j b o hb
    by_cases e : j = i
    · simp only [e, if_true] at hb
      rcases hdom b o hb with q | q
      · cases hb' : hs i b with
        | none => exact absurd hb' q
        | some o' => exact h.new i b o' hb'
      · exact .inr (Nat.le_trans h.size q)
    · simp only [e, if_false] at hb; exact h.new j b o hb
  · intro b hb hB
    have h1 : hs i b = none := by
      cases hb' : hs i b with
      | none => rfl
      | some o' =>
        rcases h.new i b o' hb' with q | q
        · exact absurd q hB
        · omega
    rw [hk b (Nat.lt_of_lt_of_le hb h.size) h1]; exact h.keep b hb hB

/-- the memory changes only as 'drew' changes it -/
theorem HW.drew {R0 : PH} {w0 : World} {B : Nat → Prop} {own : List (Option Res)} {shr : List Fact} {w : World} {R : PH} {hs : Nat → PH} (h : HW R0 w0 B own shr w R hs) : HW R0 w0 B own shr w.drew R hs :=
  ⟨h.r0, h.rw_, h.sh, h.ow, h.hw, h.dj, h.rd, h.new, h.rnew, h.size, h.keep, h.os, h.tape, h.output⟩

theorem HSat.alloc {R0 : PH} {w0 : World} {B : Nat → Prop} {own : List (Option Res)} {shr : List Fact} {w : World} (h : HSat R0 w0 B own shr w) (o : Obj) (r : Res) (hr : ∀ R, R0.le R → (∀ F ∈ shr, F.p R) → r.p R (PH.one w.heap.size o)) : HSat R0 w0 B (own ++ [some r]) shr (w.alloc o) := by
  obtain ⟨R, hs, hw⟩ := h
  refine ⟨R, _, hw.upd own.length (PH.one w.heap.size o) ?_ (by simp) ?_ ?_ rfl rfl rfl ?_⟩
  · intro b hb _; exact heap_alloc_old w o hb
  · intro b o' hb; obtain ⟨e, e'⟩ := PH.one_some hb; subst e; subst e'; exact heap_alloc_new w o'
  · intro b o' hb; obtain ⟨e, _⟩ := PH.one_some hb; right; omega
  · intro j r' hj
    by_cases e : j = own.length
    · subst e; simp at hj; subst hj; exact .inl ⟨rfl, hr R hw.r0 hw.sh⟩
    · right; refine ⟨e, ?_⟩
      rcases Nat.lt_or_ge j own.length with hlt | hge
      · rwa [List.getElem?_append_left hlt] at hj
      · have : j - own.length ≠ 0 := by omega
        rw [List.getElem?_append_right hge] at hj
        cases hq : j - own.length with
        | zero => omega
        | succ q => rw [hq] at hj; simp at hj

/-! ## a block of known cells -/
def cellsR (b : Nat) (t : TypeId) (cs : List Value) : Res := ⟨fun _ h => h b = some (.cells cs.toArray t (0, 0)), fun _ h => h⟩

theorem HSat.lookC {R0 : PH} {w0 : World} {B : Nat → Prop} {own : List (Option Res)} {shr : List Fact} {w : World} (h : HSat R0 w0 B own shr w) {i b : Nat} {t : TypeId} {cs : List Value} (hi : own[i]? = some (some (cellsR b t cs))) :
    w.heap[b]? = some (.cells cs.toArray t (0, 0)) := by
  obtain ⟨R, hs, hw⟩ := h
  exact hw.hw i b _ (hw.ow i _ hi)
theorem own_set {own : List (Option Res)} {i : Nat} {x : Res} {R h' : PH} (hr : x.p R h') : ∀ (j : Nat) (r : Res), (own.set i (some x))[j]? = some (some r) → (j = i ∧ r.p R h') ∨ (j ≠ i ∧ own[j]? = some (some r)) := by
  intro j r hj
  by_cases e : j = i
  · subst e
    rcases Nat.lt_or_ge j own.length with hlt | hge
    · simp [hlt] at hj; subst hj; exact .inl ⟨rfl, hr⟩
    · simp [Nat.not_lt.2 hge] at hj
  · right; refine ⟨e, ?_⟩
    rwa [List.getElem?_set_ne (fun q => e q.symm)] at hj
theorem HSat.setC {R0 : PH} {w0 : World} {B : Nat → Prop} {own : List (Option Res)} {shr : List Fact} {w w' : World} (h : HSat R0 w0 B own shr w) {i b : Nat} {t : TypeId} {cs cs' : List Value} (hi : own[i]? = some (some (cellsR b t cs)))
    (hb : w'.heap[b]? = some (.cells cs'.toArray t (0, 0))) (ho : ∀ k, k ≠ b → w'.heap[k]? = w.heap[k]?) (hsz : w'.heap.size = w.heap.size) (hos : w'.os = w.os) (htape : w'.tape = w.tape) (hout : w'.output = w.output) :
    HSat R0 w0 B (own.set i (some (cellsR b t cs'))) shr w' := by
  obtain ⟨R, hs, hw⟩ := h
  have hib := hw.ow i _ hi
  refine ⟨R, _, hw.upd i (PH.one b (.cells cs'.toArray t (0, 0))) ?_ (by omega) ?_ ?_ hos htape hout (own_set (PH.one_self b _))⟩
  · intro k hk hn
    by_cases e : k = b
    · subst e; rw [show hs i k = _ from hib] at hn; cases hn
    · exact ho k e
  · intro k o hk; obtain ⟨e, e'⟩ := PH.one_some hk; subst e; subst e'; exact hb
  · intro k o hk; obtain ⟨e, _⟩ := PH.one_some hk; subst e; left; rw [show hs i k = _ from hib]; simp

/-! ## types -/
/-- a type's cells, and whether a value of it is an aggregate -/
structure TyF (P : Program) (t : TypeId) (agg : Bool) (n : Nat) : Prop where
  ag : ∀ w, (isAgg t).run P w = .ok agg w
  sz : ∀ w, (sizeOf t).run P w = .ok n w
/-- a type's zero -/
def TyZ (P : Program) (t : TypeId) (z : Value) : Prop := ∀ w, (zeroValue t).run P w = .ok z w

section
variable {c : Cx} {k : List Item} {o : Oper} {fr : List (Nat × Option Value)} {own : List (Option Res)} {shr : List Fact} {d : Nat}

/-- an operation that yields a value in another world -/
theorem OpT_run {α : Type} {f : α → St} {o : Oper} {fr : List (Nat × Option Value)} {own : List (Option Res)} {shr : List Fact} {d : Nat} (hn : Nat.blt d c.n = true) (hd : o.dst = some d)
    (h : ∀ a w, Sat c ⟨fr, own, shr⟩ a w → ∃ (v : Value) (w' : World) (x : α), (execOp a.eval o).run c.P w = .ok (.value v) w' ∧ f x = ⟨(d, some v) :: fr, (f x).own, (f x).shr⟩ ∧ HSat c.R0 c.w0 c.B (f x).own (f x).shr w') :
    OpT c o ⟨fr, own, shr⟩ (fun s => ∃ x, s = f x) := by
  intro a w hs K Q hK
  obtain ⟨v, w', x, hr, he, hh⟩ := h a w hs
  unfold Oper.wp
  rw [hr, Oper.upon_value, hd]
  have := Sat_put (c := c) (shr := (f x).shr) (own := (f x).own) (fr := fr) (v := v) (w := w') (a := a) hn ⟨hs.1, hs.2.1, hs.2.2.1, hh⟩
  refine hK (f x) ⟨x, rfl⟩ _ _ ?_
  rw [he]; exact this

theorem OpT_box {t : TypeId} {x : Operand} {v : Value} (hn : Nat.blt d c.n = true) (hd : o.dst = some d) (ho : o.op = .box t x) (hx : ev fr x = some v) :
    OpT c o ⟨fr, own, shr⟩ (fun s => ∃ b, s = ⟨(d, some (.pointer (some ⟨b, 0, none⟩))) :: fr, own ++ [some (cellsR b t v.cells.toList)], shr⟩) :=
  OpT_run hn hd fun a w hs => ⟨_, w.alloc (.cells v.cells t), w.heap.size, by simp [execOp, ho, ev_eval hs.2.2.1 hx, Instr.box, newVar, newRow], rfl,
    hs.2.2.2.alloc _ _ (fun _ _ _ => by simp [cellsR, PH.one_self])⟩
theorem OpT_alloc {t : TypeId} {z : Value} (hn : Nat.blt d c.n = true) (hd : o.dst = some d) (ho : o.op = .alloc t) (hz : TyZ c.P t z) :
    OpT c o ⟨fr, own, shr⟩ (fun s => ∃ b, s = ⟨(d, some (.pointer (some ⟨b, 0, none⟩))) :: fr, own ++ [some (cellsR b t z.cells.toList)], shr⟩) :=
  OpT_run hn hd fun a w hs => ⟨_, w.alloc (.cells z.cells t), w.heap.size, by simp [execOp, ho, Instr.alloc, newVar, newRow, hz w], rfl,
    hs.2.2.2.alloc _ _ (fun _ _ _ => by simp [cellsR, PH.one_self])⟩

theorem cellC {w : World} {b off : Nat} {cs : List Value} {t : TypeId} (h : w.heap[b]? = some (.cells cs.toArray t (0, 0))) : w.cell? ⟨b, off, none⟩ = cs[off]? := by
  rw [cell_of_row w b off cs.toArray t (0, 0) h]; simp
/-- loading one cell of a block of one's own -/
theorem OpT_loadC {t : TypeId} {x : Operand} {b off i m : Nat} {tb : TypeId} {cs : List Value} {v : Value} (hn : Nat.blt d c.n = true) (hd : o.dst = some d) (ho : o.op = .load t x) (hx : ev fr x = some (.pointer (some ⟨b, off, none⟩)))
    (ht : TyF c.P t false m) (hi : own[i]? = some (some (cellsR b tb cs))) (hv : cs[off]? = some v) : OpT c o ⟨fr, own, shr⟩ (fun s => s = ⟨(d, some v) :: fr, own, shr⟩) :=
  OpT_val hn hd fun a w hs => by
    have h1 := cellC (off := off) (hs.2.2.2.lookC hi)
    rw [hv] at h1
    simp [execOp, ho, ev_eval hs.2.2.1 hx, Instr.loadAt, Instr.sureAddr, loadVar, ht.ag, h1]
/-- loading an aggregate -/
theorem OpT_loadCA {t : TypeId} {x : Operand} {b off i m : Nat} {tb : TypeId} {cs vs : List Value} (hn : Nat.blt d c.n = true) (hd : o.dst = some d) (ho : o.op = .load t x) (hx : ev fr x = some (.pointer (some ⟨b, off, none⟩)))
    (ht : TyF c.P t true m) (hi : own[i]? = some (some (cellsR b tb cs))) (hv : (cs.drop off).take m = vs) (hl : Nat.beq vs.length m = true) : OpT c o ⟨fr, own, shr⟩ (fun s => s = ⟨(d, some (.agg vs.toArray)) :: fr, own, shr⟩) :=
  OpT_val hn hd fun a w hs => by
    have h1 := hs.2.2.2.lookC hi
    have hm : vs.length = m := Nat.eq_of_beq_eq_true hl
    have h2 : (loadCells ⟨b, off, none⟩ m).run c.P w = .ok vs.toArray w := by
      rw [← hm]
      refine run_loadCells_list w _ vs ?_
      intro j v hj
      rw [Addr.add_lit, cellC h1]
      subst hv
      rw [List.getElem?_take] at hj
      split at hj
      · simpa using hj
      · cases hj
    simp [execOp, ho, ev_eval hs.2.2.1 hx, Instr.loadAt, Instr.sureAddr, loadVar, ht.ag, ht.sz, h2]

theorem OpT_skipRun {own' : List (Option Res)} {o : Oper} {fr : List (Nat × Option Value)} {own : List (Option Res)} {shr : List Fact} (hd : o.dst = none)
    (h : ∀ a w, Sat c ⟨fr, own, shr⟩ a w → ∃ w' : World, (execOp a.eval o).run c.P w = .ok .skip w' ∧ HSat c.R0 c.w0 c.B own' shr w') :
    OpT c o ⟨fr, own, shr⟩ (fun s => s = ⟨fr, own', shr⟩) := by
  intro a w hs K Q hK
  obtain ⟨w', hr, hh⟩ := h a w hs
  unfold Oper.wp
  rw [hr, Oper.upon_skip, hd]
  exact hK _ rfl _ _ ⟨hs.1, hs.2.1, hs.2.2.1, hh⟩

/-- storing into a block of one's own -/
theorem OpT_storeC {t : TypeId} {x y : Operand} {b off i m : Nat} {tb : TypeId} {cs cs' : List Value} {v : Value} {ag : Bool} (hd : o.dst = none) (ho : o.op = .store t x y) (hx : ev fr x = some (.pointer (some ⟨b, off, none⟩))) (hy : ev fr y = some v)
    (ht : TyF c.P t ag m) (hi : own[i]? = some (some (cellsR b tb cs))) (hm : Nat.beq v.cells.toList.length m = true) (hl : Nat.ble (off + m) cs.length = true) (h1 : ∀ u ∈ v.cells.toList, u.oneCell' = true)
    (hc : cs.take off ++ v.cells.toList ++ cs.drop (off + m) = cs') :
    OpT c o ⟨fr, own, shr⟩ (fun s => s = ⟨fr, own.set i (some (cellsR b tb cs')), shr⟩) :=
  OpT_skipRun hd fun a w hs => by
    have h0 := hs.2.2.2.lookC hi
    have hm' : v.cells.toList.length = m := Nat.eq_of_beq_eq_true hm
    have hl' : off + m ≤ cs.length := Nat.le_of_ble_eq_true hl
    have hst := run_storeCells_at c.P b off tb v.cells.toList 0 cs.toArray w h0 (by simpa [hm'] using hl') h1
    simp only [Nat.add_zero, hm', hc] at hst
    have hsz : v.cells.size = m := by simpa using hm'
    refine ⟨w.setRow b cs'.toArray, ?_, hs.2.2.2.setC hi (setRow_heap w b cs.toArray cs'.toArray tb (0, 0) h0) (fun k hk => setRow_other w b k _ hk) (by simp) rfl rfl rfl⟩
    simp [execOp, ho, ev_eval hs.2.2.1 hx, ev_eval hs.2.2.1 hy, Instr.storeAt, Instr.sureAddr, storeVar, ht.sz, hsz, hst]
theorem one_of {l : List Value} (h : l.all (·.oneCell') = true) : ∀ u ∈ l, u.oneCell' = true := List.all_eq_true.1 h

/-- where a field lies -/
def FldF (P : Program) (t : TypeId) (f off : Nat) : Prop := ∀ (a : Addr) (w : World), (Instr.fieldAt t (.pointer (some a)) f).run P w = .ok (.pointer (some (a.add off))) w
theorem OpT_fieldC {t : TypeId} {x : Operand} {b off f m : Nat} (hn : Nat.blt d c.n = true) (hd : o.dst = some d) (ho : o.op = .fieldAddr t x f) (hx : ev fr x = some (.pointer (some ⟨b, off, none⟩))) (hf : FldF c.P t f m) :
    OpT c o ⟨fr, own, shr⟩ (fun s => s = ⟨(d, some (.pointer (some ⟨b, off + m, none⟩))) :: fr, own, shr⟩) :=
  OpT_val hn hd fun a w hs => by
    have := hf ⟨b, off, none⟩ w
    rw [Addr.add_lit] at this
    simp [execOp, ho, ev_eval hs.2.2.1 hx, this]
/-- an array's type: how many elements, of how many cells -/
structure ArrF (P : Program) (t : TypeId) (n : Nat) (e : TypeId) (sz : Nat) : Prop where
  und : P.underlying t = some (.array n e)
  ez : ∀ w, (sizeOf e).run P w = .ok sz w
theorem OpT_indexC {t e : TypeId} {x y : Operand} {b off n sz : Nat} {kk : IntKind} {i : Int} (hn : Nat.blt d c.n = true) (hd : o.dst = some d) (ho : o.op = .indexAddr t x y) (hx : ev fr x = some (.pointer (some ⟨b, off, none⟩)))
    (hy : ev fr y = some (.int kk i)) (ht : ArrF c.P t n e sz) (hi : decide (0 ≤ i ∧ i < (n : Int)) = true) :
    OpT c o ⟨fr, own, shr⟩ (fun s => s = ⟨(d, some (.pointer (some ⟨b, off + i.toNat * sz, none⟩))) :: fr, own, shr⟩) :=
  OpT_val hn hd fun a w hs => by
    have hi' : 0 ≤ i ∧ i < (n : Int) := by simpa using hi
    have hu := run_underlying ht.und w
    simp only [execOp, ho, ev_eval hs.2.2.1 hx, ev_eval hs.2.2.1 hy, Instr.indexAt, asIntOf, Sem.run_bind, Sem.run_pure, Result.andThen_ok, hu, Instr.sureAddr, Sem.run_ite, if_pos hi', ht.ez, Addr.add_lit]
end
end Go.Proofs.Ytjfdamiilndgeaa

end

section
namespace Go.Proofs.Ytjfdamiilndgeaa

theorem Addr.add_add (a : Addr) (m n : Nat) : (a.add m).add n = a.add (m + n) := by
  unfold Addr.add
  by_cases h : m = 0 <;> by_cases h' : n = 0 <;> simp [h, h'] <;> omega

def CellsAt (h : PH) (a : Addr) (cs : List Value) : Prop := ∀ (j : Nat) (u : Value), cs[j]? = some u → h.cell (a.add j) = some u
theorem CellsAt.mono {h h' : PH} (hl : h.le h') {a : Addr} {cs : List Value} (hc : CellsAt h a cs) : CellsAt h' a cs := fun j u hj => PH.cell_mono hl (hc j u hj)
theorem CellsAt.sub {h : PH} {a : Addr} {cs : List Value} (hc : CellsAt h a cs) (off n : Nat) : CellsAt h (a.add off) ((cs.drop off).take n) := fun j u hj => by
  rw [Addr.add_add]
  rw [List.getElem?_take] at hj
  split at hj
  · exact hc (off + j) u (by simpa using hj)
  · cases hj

/-- how a value of a type reads out of cells -/
structure Shape (τ : Type) where
  sz : Nat
  agg : Bool
  rel : PH → List Value → τ → Prop
  mono : ∀ {h h' : PH} {cs : List Value} {x : τ}, h.le h' → rel h cs x → rel h' cs x
  len : ∀ {h : PH} {cs : List Value} {x : τ}, rel h cs x → cs.length = sz
  one : ∀ {h : PH} {cs : List Value} {x : τ}, rel h cs x → ∀ u ∈ cs, u.oneCell' = true

/-- plain data: no address in it -/
def Shape.plain {τ : Type} (sz : Nat) (agg : Bool) (cells : τ → List Value) (hl : ∀ x, (cells x).length = sz) (ho : ∀ x, (cells x).all (·.oneCell') = true) : Shape τ :=
  ⟨sz, agg, fun _ cs x => cs = cells x, fun _ h => h, fun h => by subst h; exact hl _, fun h => by subst h; exact List.all_eq_true.1 (ho _)⟩

/-- a slice value reads as a list -/
def SliceRel {τ : Type} (S : Shape τ) (h : PH) (v : Value) (xs : List τ) : Prop :=
  ∃ (base : Option Addr) (cap : Nat) (css : List (List Value)), v = .slice base xs.length cap ∧ xs.length ≤ cap ∧ css.length = xs.length ∧
    (∀ (i : Nat) (ci : List Value) (x : τ), css[i]? = some ci → xs[i]? = some x → S.rel h ci x) ∧
    (∀ (i : Nat) (ci : List Value), css[i]? = some ci → ∃ a, base = some a ∧ CellsAt h (a.add (i * S.sz)) ci)
theorem SliceRel.mono {τ : Type} {S : Shape τ} {h h' : PH} (hl : h.le h') {v : Value} {xs : List τ} (hs : SliceRel S h v xs) : SliceRel S h' v xs := by
  obtain ⟨base, cap, css, h1, h2, h3, h4, h5⟩ := hs
  exact ⟨base, cap, css, h1, h2, h3, fun i ci x a b => S.mono hl (h4 i ci x a b), fun i ci a => let ⟨b, e, hc⟩ := h5 i ci a; ⟨b, e, hc.mono hl⟩⟩
def Shape.slice {τ : Type} (S : Shape τ) : Shape (List τ) :=
  ⟨1, false, fun h cs xs => ∃ v, cs = [v] ∧ SliceRel S h v xs, fun hl ⟨v, e, hs⟩ => ⟨v, e, hs.mono hl⟩, fun ⟨v, e, _⟩ => by subst e; rfl,
   fun ⟨v, e, hs⟩ u hu => by
    obtain ⟨base, cap, css, h1, _⟩ := hs
    subst e; simp at hu; subst hu; subst h1; rfl⟩
/-- a struct with one slice in it -/
def Shape.s1 {τ σ : Type} (sz : Nat) (cells : τ → Value → List Value) (S : Shape σ) (proj : τ → List σ) (hl : ∀ x v, (cells x v).length = sz) (ho : ∀ x v, v.oneCell' = true → (cells x v).all (·.oneCell') = true) : Shape τ :=
  ⟨sz, true, fun h cs x => ∃ v, cs = cells x v ∧ SliceRel S h v (proj x), fun hm ⟨v, e, hs⟩ => ⟨v, e, hs.mono hm⟩, fun ⟨v, e, _⟩ => by subst e; exact hl _ _,
   fun ⟨v, e, hs⟩ => by
    subst e; refine List.all_eq_true.1 (ho _ _ ?_)
    obtain ⟨base, cap, css, h1, _⟩ := hs
    subst h1; rfl⟩
/-- a struct with two slices in it -/
def Shape.s2 {τ σ ρ : Type} (sz : Nat) (cells : τ → Value → Value → List Value) (S : Shape σ) (S' : Shape ρ) (proj : τ → List σ) (proj' : τ → List ρ) (hl : ∀ x v v', (cells x v v').length = sz)
    (ho : ∀ x v v', v.oneCell' = true → v'.oneCell' = true → (cells x v v').all (·.oneCell') = true) : Shape τ :=
  ⟨sz, true, fun h cs x => ∃ v v', cs = cells x v v' ∧ SliceRel S h v (proj x) ∧ SliceRel S' h v' (proj' x), fun hm ⟨v, v', e, hs, hs'⟩ => ⟨v, v', e, hs.mono hm, hs'.mono hm⟩, fun ⟨v, v', e, _⟩ => by subst e; exact hl _ _ _,
   fun ⟨v, v', e, hs, hs'⟩ => by
    subst e; refine List.all_eq_true.1 (ho _ _ _ ?_ ?_)
    · obtain ⟨base, cap, css, h1, _⟩ := hs
      subst h1; rfl
    · obtain ⟨base, cap, css, h1, _⟩ := hs'
      subst h1; rfl⟩

/-! facts -/
def Fact.sl {τ : Type} (S : Shape τ) (v : Value) (xs : List τ) : Fact := ⟨fun h => SliceRel S h v xs, fun hl h => h.mono hl⟩
def Fact.pt {τ : Type} (S : Shape τ) (p : Value) (x : τ) : Fact :=
  ⟨fun h => ∃ a cs, p = .pointer (some a) ∧ CellsAt h a cs ∧ S.rel h cs x, fun hl ⟨a, cs, e, hc, hr⟩ => ⟨a, cs, e, hc.mono hl, S.mono hl hr⟩⟩
def Fact.is {τ : Type} (S : Shape τ) (cs : List Value) (x : τ) : Fact := ⟨fun h => S.rel h cs x, fun hl h => S.mono hl h⟩
/-- a plain statement -/
def Fact.so (p : Prop) : Fact := ⟨fun _ => p, fun _ h => h⟩

theorem HSat.fact {R0 : PH} {w0 : World} {B : Nat → Prop} {own : List (Option Res)} {shr : List Fact} {w : World} (h : HSat R0 w0 B own shr w) {i : Nat} {F : Fact} (hi : shr[i]? = some F) : ∃ R, R.inW w ∧ F.p R := by
  obtain ⟨R, hs, hw⟩ := h
  exact ⟨R, hw.rw_, hw.sh F (List.mem_of_getElem? hi)⟩
theorem HSat.add {R0 : PH} {w0 : World} {B : Nat → Prop} {own : List (Option Res)} {shr : List Fact} {w : World} (h : HSat R0 w0 B own shr w) (G : Fact) (hG : ∀ R, R.inW w → (∀ F ∈ shr, F.p R) → G.p R) : HSat R0 w0 B own (shr ++ [G]) w := by
  obtain ⟨R, hs, hw⟩ := h
  exact ⟨R, hs, hw.r0, hw.rw_, fun F hF => by
    rcases List.mem_append.1 hF with h | h
    · exact hw.sh F h
    · simp at h; subst h; exact hG R hw.rw_ hw.sh, hw.ow, hw.hw, hw.dj, hw.rd, hw.new, hw.rnew, hw.size, hw.keep, hw.os, hw.tape, hw.output⟩

theorem flat_get {sz : Nat} : ∀ {css : List (List Value)}, (∀ ci ∈ css, ci.length = sz) → ∀ (i j : Nat) (ci : List Value), css[i]? = some ci → j < sz → css.flatten[i * sz + j]? = ci[j]?
  | [], _, i, j, ci, h, _ => by simp at h
  | d :: css, hl, 0, j, ci, h, hj => by
    simp at h; subst h
    have : d.length = sz := hl d (by simp)
    simp only [List.flatten_cons, Nat.zero_mul, Nat.zero_add]
    rw [List.getElem?_append_left (by omega)]
  | d :: css, hl, i + 1, j, ci, h, hj => by
    have hd : d.length = sz := hl d (by simp)
    simp only [List.flatten_cons]
    rw [List.getElem?_append_right (by rw [hd, Nat.add_mul]; omega)]
    have e : (i + 1) * sz + j - d.length = i * sz + j := by rw [hd, Nat.add_mul]; omega
    rw [e]
    exact flat_get (fun ci h => hl ci (by simp [h])) i j ci (by simpa using h) hj
theorem flat_len {sz : Nat} : ∀ {css : List (List Value)}, (∀ ci ∈ css, ci.length = sz) → css.flatten.length = css.length * sz
  | [], _ => by simp
  | d :: css, hl => by
    have := flat_len (css := css) (sz := sz) (fun ci h => hl ci (by simp [h]))
    simp [this, hl d (by simp), Nat.add_mul]; omega
theorem SliceRel.flat {τ : Type} {S : Shape τ} {h : PH} {v : Value} {xs : List τ} (hs : SliceRel S h v xs) : ∃ (base : Option Addr) (cap : Nat) (css : List (List Value)), v = .slice base xs.length cap ∧ xs.length ≤ cap ∧ css.length = xs.length ∧
    (∀ (i : Nat) (ci : List Value) (x : τ), css[i]? = some ci → xs[i]? = some x → S.rel h ci x) ∧ (∀ ci ∈ css, ci.length = S.sz) ∧ (∀ u ∈ css.flatten, u.oneCell' = true) ∧ (xs ≠ [] → base ≠ none) ∧ (∀ a, base = some a → CellsAt h a css.flatten) := by
  obtain ⟨base, cap, css, h1, h2, h3, h4, h5⟩ := hs
  have hx : ∀ (i : Nat) (ci : List Value), css[i]? = some ci → ∃ x, xs[i]? = some x := fun i ci hi => by
    have : i < css.length := (List.getElem?_eq_some_iff.1 hi).1
    exact ⟨xs[i]'(by omega), List.getElem?_eq_getElem _⟩
  have hlen : ∀ ci ∈ css, ci.length = S.sz := fun ci hci => by
    obtain ⟨i, hi⟩ := List.mem_iff_getElem?.1 hci
    obtain ⟨x, hx⟩ := hx i ci hi
    exact S.len (h4 i ci x hi hx)
  refine ⟨base, cap, css, h1, h2, h3, h4, hlen, ?_, ?_, ?_⟩
  · intro u hu
    obtain ⟨ci, hci, hu⟩ := List.mem_flatten.1 hu
    obtain ⟨i, hi⟩ := List.mem_iff_getElem?.1 hci
    obtain ⟨x, hx⟩ := hx i ci hi
    exact S.one (h4 i ci x hi hx) u hu
  · intro hne hb
    cases css with
    | nil => simp at h3; exact hne (List.eq_nil_of_length_eq_zero h3.symm)
    | cons c0 css => obtain ⟨a, e, _⟩ := h5 0 c0 rfl; rw [hb] at e; cases e
  · intro a hb j u hj
    have hj' : j < css.length * S.sz := by rw [← flat_len hlen]; exact (List.getElem?_eq_some_iff.1 hj).1
    have hpos : 0 < S.sz := by
      rcases Nat.eq_zero_or_pos S.sz with e | e
      · rw [e] at hj'; simp at hj'
      · exact e
    have hi : j / S.sz < css.length := Nat.div_lt_of_lt_mul (by rw [Nat.mul_comm]; exact hj')
    have hjm := Nat.mod_lt j hpos
    have e : j / S.sz * S.sz + j % S.sz = j := by rw [Nat.mul_comm]; exact Nat.div_add_mod j S.sz
    obtain ⟨a', ea, hc⟩ := h5 (j / S.sz) _ (List.getElem?_eq_getElem hi)
    rw [hb] at ea; simp at ea; subst ea
    have := flat_get hlen (j / S.sz) (j % S.sz) _ (List.getElem?_eq_getElem hi) hjm
    rw [e, hj] at this
    have h6 := hc (j % S.sz) u this.symm
    rw [Addr.add_add, e] at h6
    exact h6

/-- what is known of a slice's type: its element's cells, bytes, zero -/
structure SlF (P : Program) (t e : TypeId) (sz bytes : Nat) (z : Value) : Prop where
  und : P.underlying t = some (.slice e)
  info : ∃ i, P.info? e = some i ∧ i.zero = some z ∧ i.size = sz ∧ i.bytes = bytes
  zsz : z.cells.size = sz
  pos : 0 < sz
  bpos : 0 < bytes
theorem SlF.sz {P : Program} {t e : TypeId} {n b : Nat} {z : Value} (h : SlF P t e n b z) (w : World) : (sizeOf e).run P w = .ok n w := by
  obtain ⟨i, hi, _, hs, _⟩ := h.info
  simp [sizeOf, typeInfo, hi, hs]

section
variable {c : Cx} {k : List Item} {o : Oper} {fr : List (Nat × Option Value)} {own : List (Option Res)} {shr : List Fact} {d : Nat} {τ : Type} {S : Shape τ}

/-! reading a slice -/
theorem run_len_sl {P : Program} {ty t e : TypeId} {base : Option Addr} {n cp : Nat} (ht : P.underlying t = some (.slice e)) (w : World) : (Builtin.len_ #[t] ty #[.slice base n cp]).run P w = .ok (vI n) w := by
  simp [Builtin.len_, run_underlying ht, goInt]
theorem OpT_lenV {t e : TypeId} {x : Operand} {vx : Value} {n : Nat} (hn : Nat.blt d c.n = true) (hd : o.dst = some d) (ho : o.op = .call { callee := .builtin .len, args := #[x], argTypes := #[t] }) (hx : ev fr x = some vx) (ht : c.P.underlying t = some (.slice e))
    (hv : ∀ a w, Sat c ⟨fr, own, shr⟩ a w → ∃ base cp, vx = .slice base n cp) : OpT c o ⟨fr, own, shr⟩ (fun s => s = ⟨(d, some (vI n)) :: fr, own, shr⟩) :=
  OpT_val hn hd fun a w hs => by
    obtain ⟨base, cp, e⟩ := hv a w hs
    subst e
    have hl := run_len_sl (ty := o.type) (base := base) (n := n) (cp := cp) ht w
    simp only [execOp, ho, resolve, invoke, builtin, Sem.run_bind, Sem.run_pure, Result.andThen_ok, List.map_toArray, List.map_cons, List.map_nil, ev_eval hs.2.2.1 hx, hl]
theorem OpT_lenS {t e : TypeId} {x : Operand} {vx : Value} {i : Nat} {xs : List τ} (hn : Nat.blt d c.n = true) (hd : o.dst = some d) (ho : o.op = .call { callee := .builtin .len, args := #[x], argTypes := #[t] }) (hx : ev fr x = some vx) (ht : c.P.underlying t = some (.slice e))
    (hi : shr[i]? = some (Fact.sl S vx xs)) : OpT c o ⟨fr, own, shr⟩ (fun s => s = ⟨(d, some (vI (len xs))) :: fr, own, shr⟩) :=
  OpT_lenV hn hd ho hx ht fun a w hs => by
    obtain ⟨R, _, base, cap, css, h1, _⟩ := hs.2.2.2.fact hi
    exact ⟨base, cap, h1⟩
theorem OpT_lenE {t e : TypeId} {x : Operand} {base : Option Addr} {n cp : Nat} (hn : Nat.blt d c.n = true) (hd : o.dst = some d) (ho : o.op = .call { callee := .builtin .len, args := #[x], argTypes := #[t] }) (hx : ev fr x = some (.slice base n cp)) (ht : c.P.underlying t = some (.slice e)) :
    OpT c o ⟨fr, own, shr⟩ (fun s => s = ⟨(d, some (vI n)) :: fr, own, shr⟩) :=
  OpT_lenV hn hd ho hx ht fun _ _ _ => ⟨base, cp, rfl⟩

theorem ix_some {xs : List τ} {i : Int} {x : τ} (h : ix xs i = some x) : 0 ≤ i ∧ i < (xs.length : Int) ∧ xs[i.toNat]? = some x := by
  unfold ix at h
  cases hb : decide (0 ≤ i) with
  | false => rw [hb] at h; cases h
  | true =>
    rw [hb] at h
    have h0 : 0 ≤ i := by simpa using hb
    have := (List.getElem?_eq_some_iff.1 h).1
    exact ⟨h0, by omega, h⟩

theorem OpT_idxS {t e : TypeId} {x y : Operand} {vx : Value} {i : Nat} {kk : IntKind} {m : Int} {xs : List τ} {u : τ} {b : Nat} {z : Value} (hn : Nat.blt d c.n = true) (hd : o.dst = some d) (ho : o.op = .indexAddr t x y) (hx : ev fr x = some vx) (hy : ev fr y = some (.int kk m))
    (ht : SlF c.P t e S.sz b z) (hi : shr[i]? = some (Fact.sl S vx xs)) (hu : ix xs m = some u) :
    OpT c o ⟨fr, own, shr⟩ (fun s => ∃ p, s = ⟨(d, some p) :: fr, own, shr ++ [Fact.pt S p u]⟩) :=
  OpT_run hn hd fun a w hs => by
    obtain ⟨h0, h1, h2⟩ := ix_some hu
    obtain ⟨R, hs', hw⟩ := hs.2.2.2
    obtain ⟨base, cap, css, e1, e2, e3, e4, e5⟩ := hw.sh _ (List.mem_of_getElem? hi)
    have hlt : m.toNat < css.length := by omega
    obtain ⟨ad, eb, hc⟩ := e5 m.toNat _ (List.getElem?_eq_getElem hlt)
    subst eb; subst e1
    have hrun : (execOp a.eval o).run c.P w = .ok (.value (.pointer (some (ad.add (m.toNat * S.sz))))) w := by
      have hu := run_underlying ht.und w
      simp [execOp, ho, ev_eval hs.2.2.1 hx, ev_eval hs.2.2.1 hy, Instr.indexAt, asIntOf, hu, ht.sz, h0, h1]
    refine ⟨_, w, .pointer (some (ad.add (m.toNat * S.sz))), hrun, rfl, ?_⟩
    refine HSat.add ⟨R, hs', hw⟩ _ fun R' _ hF => ?_
    obtain ⟨base', cap', css', f1, f2, f3, f4, f5⟩ := hF _ (List.mem_of_getElem? hi)
    have hlt' : m.toNat < css'.length := by omega
    obtain ⟨ad', eb', hc'⟩ := f5 m.toNat _ (List.getElem?_eq_getElem hlt')
    subst eb'
    simp at f1
    obtain ⟨f1, _⟩ := f1
    subst f1
    exact ⟨_, _, rfl, hc', f4 m.toNat _ _ (List.getElem?_eq_getElem hlt') h2⟩

theorem loadCells_at {P : Program} {w : World} {R : PH} (hR : R.inW w) {a : Addr} {cs : List Value} (h : CellsAt R a cs) : (loadCells a cs.length).run P w = .ok cs.toArray w :=
  run_loadCells_list w a cs fun j v hj => PH.cell_inW hR (h j v hj)
/-- loading plain data of one cell -/
theorem OpT_loadP {t : TypeId} {x : Operand} {p v : Value} {i n : Nat} {u : τ} {cells : τ → List Value} {hl : ∀ x, (cells x).length = 1} {hone : ∀ x, (cells x).all (·.oneCell') = true} (hn : Nat.blt d c.n = true) (hd : o.dst = some d) (ho : o.op = .load t x) (hx : ev fr x = some p)
    (ht : TyF c.P t false n) (hi : shr[i]? = some (Fact.pt (Shape.plain 1 false cells hl hone) p u)) (hv : cells u = [v]) : OpT c o ⟨fr, own, shr⟩ (fun s => s = ⟨(d, some v) :: fr, own, shr⟩) :=
  OpT_val hn hd fun a w hs => by
    obtain ⟨R, hR, ad, cs, e, hc, hr⟩ := hs.2.2.2.fact hi
    subst e
    have : cs = [v] := by rw [← hv]; exact hr
    subst this
    have h1 := PH.cell_inW hR (hc 0 v rfl)
    rw [Addr.add_zero'] at h1
    simp [execOp, ho, ev_eval hs.2.2.1 hx, Instr.loadAt, Instr.sureAddr, loadVar, ht.ag, h1]
/-- loading plain data that is an aggregate -/
theorem OpT_loadPA {t : TypeId} {x : Operand} {p : Value} {i n : Nat} {u : τ} {cells : τ → List Value} {hl : ∀ x, (cells x).length = n} {hone : ∀ x, (cells x).all (·.oneCell') = true} {vs : List Value} (hn : Nat.blt d c.n = true) (hd : o.dst = some d) (ho : o.op = .load t x) (hx : ev fr x = some p)
    (ht : TyF c.P t true n) (hi : shr[i]? = some (Fact.pt (Shape.plain n true cells hl hone) p u)) (hv : cells u = vs) : OpT c o ⟨fr, own, shr⟩ (fun s => s = ⟨(d, some (.agg vs.toArray)) :: fr, own, shr⟩) :=
  OpT_val hn hd fun a w hs => by
    obtain ⟨R, hR, ad, cs, e, hc, hr⟩ := hs.2.2.2.fact hi
    subst e
    have : cs = vs := by rw [← hv]; exact hr
    subst this
    have h1 := loadCells_at (P := c.P) hR hc
    have h2 : cs.length = n := by rw [← hv]; exact hl u
    rw [h2] at h1
    simp [execOp, ho, ev_eval hs.2.2.1 hx, Instr.loadAt, Instr.sureAddr, loadVar, ht.ag, ht.sz, h1]
/-- loading a slice -/
theorem OpT_loadPS {t : TypeId} {x : Operand} {p : Value} {i n : Nat} {xs : List τ} (hn : Nat.blt d c.n = true) (hd : o.dst = some d) (ho : o.op = .load t x) (hx : ev fr x = some p)
    (ht : TyF c.P t false n) (hi : shr[i]? = some (Fact.pt (Shape.slice S) p xs)) : OpT c o ⟨fr, own, shr⟩ (fun s => ∃ v, s = ⟨(d, some v) :: fr, own, shr ++ [Fact.sl S v xs]⟩) :=
  OpT_run hn hd fun a w hs => by
    obtain ⟨R, hs', hw⟩ := hs.2.2.2
    obtain ⟨ad, cs, e, hc, v, e', hsl⟩ := hw.sh _ (List.mem_of_getElem? hi)
    subst e; subst e'
    have h1 := PH.cell_inW hw.rw_ (hc 0 v rfl)
    rw [Addr.add_zero'] at h1
    refine ⟨v, w, v, by simp [execOp, ho, ev_eval hs.2.2.1 hx, Instr.loadAt, Instr.sureAddr, loadVar, ht.ag, h1], rfl, ?_⟩
    exact ⟨R, hs', hw.r0, hw.rw_, fun F hF => by
      rcases List.mem_append.1 hF with h | h
      · exact hw.sh F h
      · simp at h; subst h; exact hsl, hw.ow, hw.hw, hw.dj, hw.rd, hw.new, hw.rnew, hw.size, hw.keep, hw.os, hw.tape, hw.output⟩
/-- a part of what is pointed at -/
theorem OpT_fieldP {σ : Type} {S' : Shape σ} {t : TypeId} {x : Operand} {p : Value} {i f off : Nat} {u : τ} {y : σ} (hn : Nat.blt d c.n = true) (hd : o.dst = some d) (ho : o.op = .fieldAddr t x f) (hx : ev fr x = some p) (hf : FldF c.P t f off)
    (hi : shr[i]? = some (Fact.pt S p u)) (hsub : ∀ h cs, S.rel h cs u → S'.rel h ((cs.drop off).take S'.sz) y) :
    OpT c o ⟨fr, own, shr⟩ (fun s => ∃ q, s = ⟨(d, some q) :: fr, own, shr ++ [Fact.pt S' q y]⟩) :=
  OpT_run hn hd fun a w hs => by
    obtain ⟨R, hs', hw⟩ := hs.2.2.2
    obtain ⟨ad, cs, e, hc, hr⟩ := hw.sh _ (List.mem_of_getElem? hi)
    subst e
    have hfr := hf ad w
    refine ⟨_, w, .pointer (some (ad.add off)), by simp [execOp, ho, ev_eval hs.2.2.1 hx, hfr], rfl, ?_⟩
    exact ⟨R, hs', hw.r0, hw.rw_, fun F hF => by
      rcases List.mem_append.1 hF with h | h
      · exact hw.sh F h
      · simp at h; subst h; exact ⟨_, _, rfl, hc.sub off S'.sz, hsub R cs hr⟩, hw.ow, hw.hw, hw.dj, hw.rd, hw.new, hw.rnew, hw.size, hw.keep, hw.os, hw.tape, hw.output⟩

theorem SliceRel.sub {R : PH} {base : Option Addr} {cap l h : Nat} {xs : List τ} (hs : SliceRel S R (.slice base xs.length cap) xs) (hlh : l ≤ h) (hh : h ≤ xs.length) {m : Nat} (hm : h ≤ m) : SliceRel S R (sliced base l h m S.sz) ((xs.drop l).take (h - l)) := by
  obtain ⟨base', cap', css, e1, e2, e3, e4, e5⟩ := hs
  simp at e1
  obtain ⟨e1, e1'⟩ := e1
  subst e1; subst e1'
  have hlen : ((xs.drop l).take (h - l)).length = h - l := by simp; omega
  refine ⟨_, m - l, (css.drop l).take (h - l), by rw [hlen]; rfl, by omega, by simp; omega, ?_, ?_⟩
  · intro i ci x hi hx
    rw [List.getElem?_take] at hi hx
    split at hi
    · rename_i hlt
      rw [if_pos hlt] at hx
      exact e4 (l + i) ci x (by simpa using hi) (by simpa using hx)
    · cases hi
  · intro i ci hi
    rw [List.getElem?_take] at hi
    split at hi
    · rename_i hlt
      obtain ⟨a, ea, hc⟩ := e5 (l + i) ci (by simpa using hi)
      subst ea
      have hml : ¬ m = l := by omega
      refine ⟨a.add (l * S.sz), by simp [hml], ?_⟩
      rw [Addr.add_add, ← Nat.add_mul]; exact hc
    · cases hi
/-- x[lo:hi] and its kin of a slice that is read -/
theorem OpT_sliceS {t e : TypeId} {x : Operand} {lo hi mx : Option Operand} {vx : Value} {i l h : Nat} {xs : List τ} {b : Nat} {z : Value} (hn : Nat.blt d c.n = true) (hd : o.dst = some d) (ho : o.op = .slice t x lo hi mx) (hx : ev fr x = some vx)
    (ht : SlF c.P t e S.sz b z) (hi' : shr[i]? = some (Fact.sl S vx xs)) (hlh : l ≤ h) (hh : h ≤ xs.length)
    (hb : ∀ a w cap, Fr a fr → xs.length ≤ cap → ∃ m, h ≤ m ∧ (Instr.sliceBounds true xs.length cap (lo.map a.eval) (hi.map a.eval) (mx.map a.eval)).run c.P w = .ok (l, h, m) w) :
    OpT c o ⟨fr, own, shr⟩ (fun s => ∃ v, s = ⟨(d, some v) :: fr, own, shr ++ [Fact.sl S v ((xs.drop l).take (h - l))]⟩) :=
  OpT_run hn hd fun a w hs => by
    obtain ⟨R, hs', hw⟩ := hs.2.2.2
    have hsl := hw.sh _ (List.mem_of_getElem? hi')
    have hsl' := hsl
    obtain ⟨base, cap, css, e1, e2, _⟩ := hsl'
    subst e1
    obtain ⟨m, hm, hr⟩ := hb a w cap hs.2.2.1 e2
    have hu := run_underlying ht.und w
    refine ⟨_, w, sliced base l h m S.sz, ?_, rfl, ?_⟩
    · simp [execOp, ho, ev_eval hs.2.2.1 hx, Instr.sliceAt, Instr.slice, hu, hr, ht.sz, sliced]
    · exact ⟨R, hs', hw.r0, hw.rw_, fun F hF => by
        rcases List.mem_append.1 hF with h | h
        · exact hw.sh F h
        · simp at h; subst h; exact SliceRel.sub hsl hlh hh hm, hw.ow, hw.hw, hw.dj, hw.rd, hw.new, hw.rnew, hw.size, hw.keep, hw.os, hw.tape, hw.output⟩
end
end Go.Proofs.Ytjfdamiilndgeaa

end

section
namespace Go.Proofs.Ytjfdamiilndgeaa

/-- a row of one's own: v is nil, or slices its block from the start on -/
def RowRel {τ : Type} (S : Shape τ) (R h : PH) (v : Value) (xs : List τ) : Prop :=
  ∃ css : List (List Value), css.length = xs.length ∧ (∀ (i : Nat) (ci : List Value) (x : τ), css[i]? = some ci → xs[i]? = some x → S.rel R ci x) ∧
    ((v = .slice none 0 0 ∧ xs = []) ∨
     ∃ (g cap : Nat) (cur : Array Value) (tg : TypeId), v = .slice (some ⟨g, 0, none⟩) xs.length cap ∧ h g = some (.cells cur tg (0, 0)) ∧ xs.length ≤ cap ∧ cap ≤ maxLen ∧ cur.size = cap * S.sz ∧ cur.toList.take (xs.length * S.sz) = css.flatten)
def rowS {τ : Type} (S : Shape τ) (v : Value) (xs : List τ) : Res :=
  ⟨fun R h => RowRel S R h v xs, fun hl ⟨css, h1, h2, h3⟩ => ⟨css, h1, fun i ci x a b => S.mono hl (h2 i ci x a b), h3⟩⟩

theorem css_len {τ : Type} {S : Shape τ} {R : PH} {css : List (List Value)} {xs : List τ} (h1 : css.length = xs.length) (h2 : ∀ (i : Nat) (ci : List Value) (x : τ), css[i]? = some ci → xs[i]? = some x → S.rel R ci x) : (∀ ci ∈ css, ci.length = S.sz) ∧ (∀ u ∈ css.flatten, u.oneCell' = true) := by
  have hx : ∀ (i : Nat) (ci : List Value), css[i]? = some ci → ∃ x, xs[i]? = some x := fun i ci hi => by
    have : i < css.length := (List.getElem?_eq_some_iff.1 hi).1
    exact ⟨xs[i]'(by omega), List.getElem?_eq_getElem _⟩
  refine ⟨fun ci hci => ?_, fun u hu => ?_⟩
  · obtain ⟨i, hi⟩ := List.mem_iff_getElem?.1 hci
    obtain ⟨x, hx⟩ := hx i ci hi
    exact S.len (h2 i ci x hi hx)
  · obtain ⟨ci, hci, hu⟩ := List.mem_flatten.1 hu
    obtain ⟨i, hi⟩ := List.mem_iff_getElem?.1 hci
    obtain ⟨x, hx⟩ := hx i ci hi
    exact S.one (h2 i ci x hi hx) u hu

/-! a run that appends within the capacity, whatever the block's type -/
theorem run_append_room' {P : Program} (w : World) (t ty e : TypeId) (i : TypeInfo) (ht : P.underlying t = some (.slice e)) (hi : P.info? e = some i)
    (g sLen sCap : Nat) (cur : Array Value) (tg : TypeId) (hg : w.heap[g]? = some (.cells cur tg (0, 0)))
    (a : Addr) (m c : Nat) (news : List Value) (hl : news.length = m * i.size) (hnews : ∀ (j : Nat) (u : Value), news[j]? = some u → w.cell? (a.add j) = some u) (h1 : ∀ u ∈ news, u.oneCell' = true)
    (hroom : sLen + m ≤ sCap) (hfit : sLen * i.size + news.length ≤ cur.size) :
    (Builtin.append_ #[t, t] ty #[.slice (some ⟨g, 0, none⟩) sLen sCap, .slice (some a) m c]).run P w =
      .ok (.slice (some ⟨g, 0, none⟩) (sLen + m) sCap) (w.setRow g (cur.toList.take (sLen * i.size) ++ news ++ cur.toList.drop (sLen * i.size + news.length)).toArray) := by
  have hf := run_firstCells_some (P := P) w i.size m a m c news hl hnews
  have hst := run_storeCells_at P g (sLen * i.size) tg news 0 cur w hg (by simpa using hfit) h1
  simp only [Nat.add_zero] at hst
  simp [Builtin.append_, run_underlying ht, sizeOf, typeInfo, hi, Builtin.lenOf, hroom, hf, Addr.add_lit, hst]
theorem run_append_none {P : Program} (w : World) (t ty e : TypeId) (i : TypeInfo) (ht : P.underlying t = some (.slice e)) (hi : P.info? e = some i)
    (base : Option Addr) (sLen sCap : Nat) (b : Option Addr) (c : Nat) (hle : sLen ≤ sCap) :
    (Builtin.append_ #[t, t] ty #[.slice base sLen sCap, .slice b 0 c]).run P w = .ok (.slice base sLen sCap) w := by
  cases b <;> cases base <;> simp [Builtin.append_, run_underlying ht, sizeOf, typeInfo, hi, Builtin.lenOf, hle, Builtin.firstCells, loadCells, loadCellsFrom, storeCells]

theorem HW.own_in {R0 : PH} {w0 : World} {B : Nat → Prop} {own : List (Option Res)} {shr : List Fact} {w : World} {R : PH} {hs : Nat → PH} (h : HW R0 w0 B own shr w R hs) {i g : Nat} {o : Obj} (hi : hs i g = some o) : w.heap[g]? = some o := h.hw i g o hi

/-- append(x, y...): x a row of one's own, y a slice that is read -/
theorem run_append_S {P : Program} {τ : Type} {S : Shape τ} {t e : TypeId} {sz b : Nat} {z : Value} (ht : SlF P t e S.sz b z) {R0 : PH} {w0 : World} {B : Nat → Prop} {own : List (Option Res)} {shr : List Fact} {w : World} {R : PH} {hs : Nat → PH}
    (hw : HW R0 w0 B own shr w R hs) {i : Nat} {vx vy : Value} {xs ys : List τ} (hi : own[i]? = some (some (rowS S vx xs))) {R' : PH} (hR' : R'.inW w) (hRR : ∀ cs x, S.rel R' cs x → S.rel R cs x) (hy : SliceRel S R' vy ys) (hfit : (xs.length + ys.length) * b ≤ 140737488355328) (ty : TypeId) :
    ∃ v' w', (Builtin.append_ #[t, t] ty #[vx, vy]).run P w = .ok v' w' ∧ HSat R0 w0 B (own.set i (some (rowS S v' (xs ++ ys)))) shr w' := by
  obtain ⟨base, cap, css, e1, e2, e3, e4, e5, e6, e7, e8⟩ := hy.flat
  obtain ⟨ass, a1, a2, a3⟩ := hw.ow i _ hi
  obtain ⟨al, ao⟩ := css_len a1 a2
  obtain ⟨ti, hti, hz, hsz, hb⟩ := ht.info
  have hrel : ∀ (j : Nat) (ci : List Value) (x : τ), (ass ++ css)[j]? = some ci → (xs ++ ys)[j]? = some x → S.rel R ci x := by
    intro j ci x h1 h2
    by_cases hj : j < ass.length
    · rw [List.getElem?_append_left hj] at h1
      rw [List.getElem?_append_left (by omega)] at h2
      exact a2 j ci x h1 h2
    · rw [List.getElem?_append_right (by omega)] at h1
      rw [List.getElem?_append_right (by omega), ← a1] at h2
      exact hRR _ _ (e4 _ ci x h1 h2)
  have hcl : (ass ++ css).length = (xs ++ ys).length := by simp [a1, e3]
  have hmax : xs.length + ys.length ≤ maxLen := by
    have := ht.bpos
    have : xs.length + ys.length ≤ (xs.length + ys.length) * b := Nat.le_mul_of_pos_right _ ht.bpos
    unfold maxLen; omega
  subst e1
  by_cases hy0 : ys = []
  · subst hy0
    simp only [List.length_nil] at *
    have hw' : ∀ v n cp, vx = .slice v n cp → n ≤ cp → ∃ v' w', (Builtin.append_ #[t, t] ty #[vx, .slice base 0 cap]).run P w = .ok v' w' ∧ HSat R0 w0 B (own.set i (some (rowS S v' (xs ++ [])))) shr w' := by
      intro v n cp hv hle
      subst hv
      refine ⟨_, w, run_append_none w t ty e ti ht.und hti v n cp base cap hle, R, hs, ?_⟩
      rw [List.append_nil]
      have : own.set i (some (rowS S (Value.slice v n cp) xs)) = own := by
        apply List.ext_getElem?
        intro j
        by_cases hj : i = j
        · subst hj
          have hlt := (List.getElem?_eq_some_iff.1 hi).1
          simp [hlt]; rw [List.getElem?_eq_getElem hlt] at hi; simpa using hi.symm
        · rw [List.getElem?_set_ne hj]
      rw [this]; exact hw
    rcases a3 with ⟨hv, hx⟩ | ⟨g, cp, cur, tg, hv, _, hle, _⟩
    · exact hw' none 0 0 hv (Nat.le_refl _)
    · exact hw' _ _ _ hv hle
  · have hne := e7 hy0
    obtain ⟨a, rfl⟩ : ∃ a, base = some a := by cases base with | none => exact absurd rfl hne | some a => exact ⟨a, rfl⟩
    have hypos : 0 < ys.length := by cases ys with | nil => exact absurd rfl hy0 | cons _ _ => simp
    have hnl : css.flatten.length = ys.length * ti.size := by rw [flat_len e5, e3, hsz]
    have hnews : ∀ (j : Nat) (u : Value), css.flatten[j]? = some u → w.cell? (a.add j) = some u := fun j u hj => PH.cell_inW hR' (e8 a rfl j u hj)
    have hyb : ys.length * b ≤ 140737488355328 := Nat.le_trans (Nat.mul_le_mul_right _ (Nat.le_add_left _ _)) hfit
    have fresh : ∀ (w1 : World) (olds : List Value) (newcap : Nat), w1.heap = w.heap → w1.os = w.os → w1.tape = w.tape → w1.output = w.output → olds = ass.flatten → xs.length + ys.length ≤ newcap → newcap ≤ maxLen →
        HSat R0 w0 B (own.set i (some (rowS S (.slice (some ⟨w.heap.size, 0, none⟩) (xs.length + ys.length) newcap) (xs ++ ys)))) shr
          (w1.alloc (.cells (olds.toArray ++ css.flatten.toArray ++ Builtin.zeroCells z.cells (newcap - (xs.length + ys.length))) e)) := by
      intro w1 olds newcap q1 q2 q3 q4 q5 q6 q7
      subst q5
      have hsize : w1.heap.size = w.heap.size := by rw [q1]
      refine ⟨R, _, hw.upd i (PH.one w.heap.size (.cells (ass.flatten.toArray ++ css.flatten.toArray ++ Builtin.zeroCells z.cells (newcap - (xs.length + ys.length))) e)) ?_ (by simp [hsize]) ?_ ?_ q2 q3 q4 (own_set ?_)⟩
      · intro k hk _
        rw [heap_alloc_old w1 _ (by rw [hsize]; exact hk), q1]
      · intro k o' hk; obtain ⟨k1, k2⟩ := PH.one_some hk; subst k1; subst k2
        have := heap_alloc_new w1 (.cells (ass.flatten.toArray ++ css.flatten.toArray ++ Builtin.zeroCells z.cells (newcap - (xs.length + ys.length))) e)
        rw [hsize] at this; exact this
      · intro k o' hk; obtain ⟨k1, _⟩ := PH.one_some hk; right; omega
      · refine ⟨ass ++ css, hcl, hrel, .inr ⟨w.heap.size, newcap, _, e, by simp, PH.one_self _ _, by simpa using q6, q7, ?_, ?_⟩⟩
        · simp only [Array.size_append, List.size_toArray, size_zeroCells, ht.zsz, flat_len al, flat_len e5, e3, a1, ← Nat.add_mul]
          congr 1; omega
        · simp only [Array.toList_append, List.append_assoc, List.flatten_append, List.length_append]
          rw [← List.append_assoc, List.take_left']
          simp [flat_len al, flat_len e5, e3, a1, Nat.add_mul]
    rcases a3 with ⟨hv, hx⟩ | ⟨g, cp, cur, tg, hv, hg, hle, hcm, hcs, htk⟩
    · subst hv; subst hx
      have hr := run_append_nil (P := P) w t ty e ti z ht.und hti hz a ys.length cap css.flatten hnl hnews hypos (by simp only [List.length_nil, Nat.zero_add] at hmax; unfold maxLen at hmax; omega) (by rw [hb]; omega)
      have hass : ass = [] := List.eq_nil_of_length_eq_zero (by simpa using a1)
      subst hass
      have hc1 := grownCap_ge w ys.length 0 e
      have hc2 := grownCap_le_maxLen w ys.length 0 e (by simpa using hmax)
      refine ⟨_, _, hr, ?_⟩
      have := fresh w.drew [] (grownCap w ys.length 0 e) rfl rfl rfl rfl rfl (by simpa using hc1) hc2
      simpa using this
    · subst hv
      have hgw := hw.own_in hg
      by_cases hroom : xs.length + ys.length ≤ cp
      · have hfit' : xs.length * ti.size + css.flatten.length ≤ cur.size := by rw [hnl, hcs, ← Nat.add_mul, hsz]; exact Nat.mul_le_mul_right _ hroom
        have hr := run_append_room' (P := P) w t ty e ti ht.und hti g xs.length cp cur tg hgw a ys.length cap css.flatten hnl hnews e6 hroom hfit'
        refine ⟨_, _, hr, R, _, hw.upd i (PH.one g (.cells (cur.toList.take (xs.length * ti.size) ++ css.flatten ++ cur.toList.drop (xs.length * ti.size + css.flatten.length)).toArray tg)) ?_ (by simp) ?_ ?_ rfl rfl rfl (own_set ?_)⟩
        · intro k hk hn
          by_cases ek : k = g
          · subst ek; rw [hg] at hn; cases hn
          · exact setRow_other w g k _ ek
        · intro k o' hk; obtain ⟨k1, k2⟩ := PH.one_some hk; subst k1; subst k2
          exact setRow_heap w _ cur _ tg (0, 0) hgw
        · intro k o' hk; obtain ⟨k1, _⟩ := PH.one_some hk; subst k1; left; rw [hg]; simp
        · refine ⟨ass ++ css, hcl, hrel, .inr ⟨g, cp, _, tg, by simp, PH.one_self _ _, by simpa using hroom, hcm, ?_, ?_⟩⟩
          · simp only [List.size_toArray, List.length_append, List.length_take, List.length_drop, Array.length_toList]
            rw [hsz] at hfit' ⊢; rw [hcs] at hfit' ⊢
            omega
          · rw [hsz, htk]
            simp only [List.flatten_append, List.length_append, List.append_assoc]
            rw [← List.append_assoc, List.take_left']
            simp [flat_len al, flat_len e5, e3, a1, Nat.add_mul]
      · have hholds : ∀ (j : Nat) (u : Value), ass.flatten[j]? = some u → w.cell? ((⟨g, 0, none⟩ : Addr).add j) = some u := by
          intro j u hj
          rw [Addr.add_lit, Nat.zero_add, cell_of_row w g j cur tg (0, 0) hgw]
          rw [← htk, List.getElem?_take] at hj
          split at hj
          · simpa using hj
          · cases hj
        have hr := run_append_grow (P := P) w t ty e ti z ht.und hti hz ⟨g, 0, none⟩ xs.length cp ass.flatten (by rw [flat_len al, a1, hsz]) hholds a ys.length cap css.flatten hnl hnews (by omega) (by unfold maxLen at hmax; omega) (growslice_fits (by omega) (by rw [hb]; exact hfit))
        have hc1 := grownCap_ge w (xs.length + ys.length) cp e
        have hc2 := grownCap_le_maxLen w (xs.length + ys.length) cp e hmax
        exact ⟨_, _, hr, fresh w.drew ass.flatten _ rfl rfl rfl rfl rfl hc1 hc2⟩

section
variable {c : Cx} {k : List Item} {o : Oper} {ops : Array Oper} {rest : List Oper} {fr : List (Nat × Option Value)} {own : List (Option Res)} {shr : List Fact} {d : Nat} {τ : Type} {S : Shape τ}

theorem OpT_append {t e : TypeId} {x y : Operand} {vx vy : Value} {i j b : Nat} {z : Value} {xs ys : List τ} (hn : Nat.blt d c.n = true) (hd : o.dst = some d) (ho : o.op = .call { callee := .builtin .append, args := #[x, y], argTypes := #[t, t] })
    (hx : ev fr x = some vx) (hy : ev fr y = some vy) (ht : SlF c.P t e S.sz b z) (hi : own[i]? = some (some (rowS S vx xs))) (hj : shr[j]? = some (Fact.sl S vy ys)) (hf : fits xs.length ys.length b = true) :
    OpT c o ⟨fr, own, shr⟩ (fun s => ∃ v, s = ⟨(d, some v) :: fr, own.set i (some (rowS S v (xs ++ ys))), shr⟩) :=
  OpT_run hn hd fun a w hs => by
    obtain ⟨R, hs', hw⟩ := hs.2.2.2
    obtain ⟨v', w', hr, hh⟩ := run_append_S (sz := 0) ht hw hi hw.rw_ (fun _ _ h => h) (hw.sh _ (List.mem_of_getElem? hj)) (Nat.le_of_ble_eq_true hf) o.type
    refine ⟨v', w', v', ?_, rfl, hh⟩
    simp only [execOp, ho, resolve, invoke, builtin, Sem.run_bind, Sem.run_pure, Result.andThen_ok, List.map_toArray, List.map_cons, List.map_nil, ev_eval hs.2.2.1 hx, ev_eval hs.2.2.1 hy, hr]

/-- a nil slice is a row of one's own -/
theorem HSat.nilrow {R0 : PH} {w0 : World} {B : Nat → Prop} {own : List (Option Res)} {shr : List Fact} {w : World} (S : Shape τ) (h : HSat R0 w0 B own shr w) : HSat R0 w0 B (own ++ [some (rowS S (.slice none 0 0) [])]) shr w := by
  obtain ⟨R, hs, hw⟩ := h
  refine ⟨R, _, hw.upd own.length PH.emp (fun _ _ _ => rfl) (Nat.le_refl _) (fun b o' hb => by cases hb) (fun b o' hb => by cases hb) rfl rfl rfl ?_⟩
  intro j r hj
  by_cases e : j = own.length
  · subst e; simp at hj; subst hj; exact .inl ⟨rfl, [], rfl, fun i ci x h => by simp at h, .inl ⟨rfl, rfl⟩⟩
  · right; refine ⟨e, ?_⟩
    rcases Nat.lt_or_ge j own.length with hlt | hge
    · rwa [List.getElem?_append_left hlt] at hj
    · have : j - own.length ≠ 0 := by omega
      rw [List.getElem?_append_right hge] at hj
      cases hq : j - own.length with
      | zero => omega
      | succ q => rw [hq] at hj; simp at hj
theorem Tops_nilrow (S : Shape τ) (h : Tops c ops k rest ⟨fr, own ++ [some (rowS S (.slice none 0 0) [])], shr⟩) : Tops c ops k rest ⟨fr, own, shr⟩ := fun a w hs => h a w ⟨hs.1, hs.2.1, hs.2.2.1, hs.2.2.2.nilrow S⟩
theorem Tk_nilrow (S : Shape τ) (h : Tk c k ⟨fr, own ++ [some (rowS S (.slice none 0 0) [])], shr⟩) : Tk c k ⟨fr, own, shr⟩ := fun a w hs => h a w ⟨hs.1, hs.2.1, hs.2.2.1, hs.2.2.2.nilrow S⟩

/-- what is owned becomes readable by all; nobody writes it any more -/
theorem HW.retire {R0 : PH} {w0 : World} {B : Nat → Prop} {own : List (Option Res)} {shr : List Fact} {w : World} {R : PH} {hs : Nat → PH} (h : HW R0 w0 B own shr w R hs) (i : Nat) (G : Fact) (hG : G.p (R.or (hs i))) :
    HW R0 w0 B (own.set i none) (shr ++ [G]) w (R.or (hs i)) (fun j => if j = i then PH.emp else hs j) := by
  have hle : R.le (R.or (hs i)) := PH.or_left
  refine ⟨PH.le_trans h.r0 hle, ?_, ?_, ?_, ?_, ?_, ?_, ?_, ?_, h.size, h.keep, h.os, h.tape, h.output⟩
  · intro b o hb
    rcases PH.or_some hb with q | q
    · exact h.rw_ b o q
    · exact h.hw i b o q
  · intro F hF
    rcases List.mem_append.1 hF with q | q
    · exact F.mono hle (h.sh F q)
    · simp at q; subst q; exact hG
  · intro j r hj
    by_cases e : j = i
    · subst e
      rcases Nat.lt_or_ge j own.length with hlt | hge
      · simp [hlt] at hj
      · simp [Nat.not_lt.2 hge] at hj
    · rw [List.getElem?_set_ne (fun q => e q.symm)] at hj
      simp only [e, if_false]
      exact r.mono hle (h.ow j r hj)
  · intro j
    by_cases e : j = i
    · simp only [e, if_true]; intro b o hb; cases hb
    · simp only [e, if_false]; exact h.hw j
  · intro j l hjl
    by_cases e : j = i
    · simp only [e, if_true]; exact fun b => .inl rfl
    · by_cases e' : l = i
      · simp only [e', if_true]; exact fun b => .inr rfl
      · simp only [e, e', if_false]; exact h.dj j l hjl
  · intro j
    by_cases e : j = i
    · simp only [e, if_true]; exact fun b => .inr rfl
    · simp only [e, if_false]
      intro b
      have h1 := h.rd j b
      have h2 := h.dj i j (fun q => e q.symm) b
      rcases h1 with q | q
      · rcases h2 with q' | q'
        · left; simp [PH.or, q, q']
        · right; exact q'
      · right; exact q
  · intro j b o hb
    by_cases e : j = i
    · simp only [e, if_true] at hb; cases hb
    · simp only [e, if_false] at hb; exact h.new j b o hb
  · intro b o hb
    rcases PH.or_some hb with q | q
    · exact h.rnew b o q
    · exact .inr (h.new i b o q)

theorem RowRel.slice {R h : PH} (hd : R.disj h) {v : Value} {xs : List τ} (hr : RowRel S R h v xs) : SliceRel S (R.or h) v xs := by
  obtain ⟨css, h1, h2, h3⟩ := hr
  obtain ⟨hl, _⟩ := css_len h1 h2
  rcases h3 with ⟨hv, hx⟩ | ⟨g, cap, cur, tg, hv, hg, hle, hcm, hcs, htk⟩
  · subst hv; subst hx
    have : css = [] := List.eq_nil_of_length_eq_zero (by simpa using h1)
    subst this
    exact ⟨none, 0, [], rfl, Nat.le_refl _, rfl, fun i ci x a => by simp at a, fun i ci a => by simp at a⟩
  · refine ⟨_, cap, css, hv, hle, h1, fun i ci x a b => S.mono PH.or_left (h2 i ci x a b), fun i ci a => ⟨_, rfl, ?_⟩⟩
    intro j u hj
    have hjl : j < S.sz := by
      rw [← hl ci (List.mem_of_getElem? a)]; exact (List.getElem?_eq_some_iff.1 hj).1
    rw [Addr.add_add, Addr.add_lit, Nat.zero_add]
    have hgg : (R.or h) g = some (.cells cur tg (0, 0)) := PH.or_right hd g _ hg
    have h5 := flat_get hl i j ci a hjl
    rw [hj, ← htk, List.getElem?_take] at h5
    split at h5
    · simp [PH.cell, hgg]; simpa using h5
    · cases h5
theorem Tk_retire {i : Nat} {v : Value} {xs : List τ} (hi : own[i]? = some (some (rowS S v xs))) (h : Tk c k ⟨fr, own.set i none, shr ++ [Fact.sl S v xs]⟩) : Tk c k ⟨fr, own, shr⟩ := fun a w hs => by
  obtain ⟨R, hs', hw⟩ := hs.2.2.2
  exact h a w ⟨hs.1, hs.2.1, hs.2.2.1, _, _, hw.retire i _ (RowRel.slice (hw.rd i) (hw.ow i _ hi))⟩
theorem Tops_retire {i : Nat} {v : Value} {xs : List τ} (hi : own[i]? = some (some (rowS S v xs))) (h : Tops c ops k rest ⟨fr, own.set i none, shr ++ [Fact.sl S v xs]⟩) : Tops c ops k rest ⟨fr, own, shr⟩ := fun a w hs => by
  obtain ⟨R, hs', hw⟩ := hs.2.2.2
  exact h a w ⟨hs.1, hs.2.1, hs.2.2.1, _, _, hw.retire i _ (RowRel.slice (hw.rd i) (hw.ow i _ hi))⟩

/-! new rows -/
theorem HSat.newrow {R0 : PH} {w0 : World} {B : Nat → Prop} {own : List (Option Res)} {shr : List Fact} {w : World} (h : HSat R0 w0 B own shr w) (cur : Array Value) (e : TypeId) (xs : List τ) (css : List (List Value)) (cap : Nat) (h1 : css.length = xs.length)
    (h2 : ∀ R, R0.le R → (∀ F ∈ shr, F.p R) → ∀ (i : Nat) (ci : List Value) (x : τ), css[i]? = some ci → xs[i]? = some x → S.rel R ci x) (hle : xs.length ≤ cap) (hcm : cap ≤ maxLen) (hcs : cur.size = cap * S.sz) (htk : cur.toList.take (xs.length * S.sz) = css.flatten) :
    HSat R0 w0 B (own ++ [some (rowS S (.slice (some ⟨w.heap.size, 0, none⟩) xs.length cap) xs)]) shr (w.alloc (.cells cur e)) :=
  h.alloc _ _ fun R hr hF => ⟨css, h1, h2 R hr hF, .inr ⟨_, cap, cur, e, rfl, PH.one_self _ _, hle, hcm, hcs, htk⟩⟩

/-- what a composite slice literal lays -/
def BldF (P : Program) (t : TypeId) (n : Nat) (ps : List (Nat × Value)) (e : TypeId) (cs : List Value) : Prop :=
  ∀ w, (Instr.buildSlice t n ps.toArray).run P w = .ok (.slice (some ⟨w.heap.size, 0, none⟩) n n) (w.alloc (.cells cs.toArray e))
def evs (fr : List (Nat × Option Value)) : List (Nat × Operand) → Option (List (Nat × Value))
  | [] => some []
  | (i, x) :: r => match ev fr x, evs fr r with | some v, some l => some ((i, v) :: l) | _, _ => none
theorem evs_eval {a : Act} {fr : List (Nat × Option Value)} (hf : Fr a fr) : ∀ {l : List (Nat × Operand)} {r : List (Nat × Value)}, evs fr l = some r → l.map (fun (i, x) => (i, a.eval x)) = r
  | [], r, h => by simp [evs] at h; subst h; rfl
  | (i, x) :: l, r, h => by
    simp only [evs] at h
    split at h
    · rename_i v l' hv hl
      simp at h; subst h
      simp [ev_eval hf hv, evs_eval hf hl]
    · cases h
theorem OpT_buildSlice {t e : TypeId} {n : Nat} {ps : Array (Nat × Operand)} {vs : List (Nat × Value)} {cs : List Value} {xs : List τ} {css : List (List Value)} (hn : Nat.blt d c.n = true) (hd : o.dst = some d) (ho : o.op = .buildSlice t n ps) (hx : evs fr ps.toList = some vs)
    (hb : BldF c.P t n vs e cs) (hf : css.flatten = cs) (hl : css.length = xs.length) (hnl : xs.length = n) (hm : Nat.ble n 140737488355328 = true) (hrel : ∀ R, (∀ F ∈ shr, F.p R) → ∀ (i : Nat) (ci : List Value) (x : τ), css[i]? = some ci → xs[i]? = some x → S.rel R ci x) :
    OpT c o ⟨fr, own, shr⟩ (fun s => ∃ v, s = ⟨(d, some v) :: fr, own ++ [some (rowS S v xs)], shr⟩) :=
  OpT_run hn hd fun a w hs => by
    have hps : ps.map (fun (i, x) => (i, a.eval x)) = vs.toArray := by
      apply Array.ext'; simpa using evs_eval hs.2.2.1 hx
    subst hnl
    refine ⟨_, w.alloc (.cells cs.toArray e), .slice (some ⟨w.heap.size, 0, none⟩) xs.length xs.length, ?_, rfl, ?_⟩
    · have h1 := hb w
      simp only [execOp, ho, hps, Sem.run_bind, h1, Result.andThen_ok, Sem.run_pure]
    · obtain ⟨R, hs', hw⟩ := hs.2.2.2
      obtain ⟨hl', _⟩ := css_len hl (hrel R hw.sh)
      have hfl : cs.length = xs.length * S.sz := by rw [← hf, flat_len hl', hl]
      refine HSat.newrow ⟨R, hs', hw⟩ cs.toArray e xs css xs.length hl (fun R' _ hF => hrel R' hF) (Nat.le_refl _) ?_ ?_ ?_
      · have := Nat.le_of_ble_eq_true hm; unfold maxLen; omega
      · simp [hfl]
      · rw [hf, List.take_of_length_le (by simp [hfl])]
theorem rel_plain {cells : τ → List Value} {sz : Nat} {ag : Bool} {hl : ∀ x, (cells x).length = sz} {hone : ∀ x, (cells x).all (·.oneCell') = true} {xs : List τ} {shr : List Fact} :
    ∀ R, (∀ F ∈ shr, F.p R) → ∀ (i : Nat) (ci : List Value) (x : τ), (xs.map cells)[i]? = some ci → xs[i]? = some x → (Shape.plain sz ag cells hl hone).rel R ci x := by
  intro R _ i ci x h1 h2
  simp only [List.getElem?_map, h2, Option.map_some, Option.some.injEq] at h1
  exact h1.symm
theorem madeCells_flat {z : List Value} (n : Nat) (hz : 0 < z.length) : (madeCells z.toArray (n * z.length)).toList = (List.replicate n z).flatten := by
  apply List.ext_getElem?
  intro i
  have hl : ∀ ci ∈ List.replicate n z, ci.length = z.length := fun ci h => by rw [(List.mem_replicate.1 h).2]
  by_cases hi : i < n * z.length
  · have h1 : i / z.length < n := Nat.div_lt_of_lt_mul (by rw [Nat.mul_comm]; exact hi)
    have h2 := Nat.mod_lt i hz
    have e : i / z.length * z.length + i % z.length = i := by rw [Nat.mul_comm]; exact Nat.div_add_mod i z.length
    have := flat_get hl (i / z.length) (i % z.length) z (by simp [h1]) h2
    rw [e] at this
    rw [this]
    simp [madeCells, hi, List.getElem?_eq_getElem h2]
  · rw [List.getElem?_eq_none (by simp [madeCells]; omega), List.getElem?_eq_none (by rw [flat_len hl]; simp; omega)]
/-- make([]T, l, c) -/
theorem OpT_make {t e : TypeId} {x y : Operand} {l m : Int} {b : Nat} {z : Value} {u : τ} {cells : τ → List Value} {sz : Nat} {ag : Bool} {hl : ∀ x, (cells x).length = sz} {hone : ∀ x, (cells x).all (·.oneCell') = true} (hn : Nat.blt d c.n = true) (hd : o.dst = some d) (ho : o.op = .makeSlice t x y) (hx : ev fr x = some (vI l)) (hy : ev fr y = some (vI m))
    (ht : SlF c.P t e sz b z) (hz : z.cells.toList = cells u) (hok : decide (0 ≤ l ∧ l ≤ m ∧ (b : Int) * m ≤ 140737488355328) = true) :
    OpT c o ⟨fr, own, shr⟩ (fun s => ∃ v, s = ⟨(d, some v) :: fr, own ++ [some (rowS (Shape.plain sz ag cells hl hone) v (List.replicate l.toNat u))], shr⟩) :=
  OpT_run hn hd fun a w hs => by
    obtain ⟨h0, h1, h2⟩ : 0 ≤ l ∧ l ≤ m ∧ (b : Int) * m ≤ 140737488355328 := by simpa using hok
    obtain ⟨ti, hti, htz, hsz, hb⟩ := ht.info
    have hbp := ht.bpos
    have hm : m ≤ 140737488355328 := by
      have h3 : m ≤ (b : Int) * m := by
        have h4 : (1 : Int) ≤ (b : Int) := by omega
        have := Int.mul_le_mul_of_nonneg_right h4 (show 0 ≤ m by omega)
        omega
      omega
    have hr := run_make (P := c.P) w t e ti z ht.und hti htz .i64 .i64 l m h0 h1 (by rw [hb]; omega) (by omega)
    have hzc : z.cells = (cells u).toArray := by rw [← hz]
    rw [hsz, hzc] at hr
    have hlen : (List.replicate l.toNat u).length = l.toNat := by simp
    refine ⟨.slice (some ⟨w.heap.size, 0, none⟩) l.toNat m.toNat, w.alloc (.cells (madeCells (cells u).toArray (m.toNat * sz)) e), .slice (some ⟨w.heap.size, 0, none⟩) l.toNat m.toNat, by simp [execOp, ho, ev_eval hs.2.2.1 hx, ev_eval hs.2.2.1 hy, hr], rfl, ?_⟩
    have hcl : (cells u).length = sz := hl u
    have hmc := madeCells_flat (z := cells u) m.toNat (by rw [hcl]; exact ht.pos)
    rw [hcl] at hmc
    have := HSat.newrow (S := Shape.plain sz ag cells hl hone) (own := own) (shr := shr) hs.2.2.2 (madeCells (cells u).toArray (m.toNat * sz)) e (List.replicate l.toNat u) (List.replicate l.toNat (cells u)) m.toNat (by simp)
      (fun R _ _ i ci x q1 q2 => by
        rw [List.getElem?_replicate] at q1 q2
        split at q1
        · rename_i hlt; rw [if_pos hlt] at q2; simp at q1 q2; subst q1; subst q2; rfl
        · cases q1) (by simp; omega) (by unfold maxLen; omega) (by simp [size_madeCells, Shape.plain]) (by
        have hsplit : m.toNat = l.toNat + (m.toNat - l.toNat) := by omega
        rw [hmc, hlen]
        show List.take (l.toNat * sz) _ = _
        rw [hsplit, ← List.replicate_append_replicate, List.flatten_append, List.take_left']
        rw [flat_len (sz := sz) (fun ci h => by rw [(List.mem_replicate.1 h).2, hcl])]; simp)
    rw [hlen] at this
    exact this

/-! bytes as strings -/
theorem push_all (l : List UInt8) : ∀ (acc : ByteArray), (l.map fun x => (x.toNat : Int)).foldl (fun r n => r.push (UInt8.ofNat n.toNat)) acc = ⟨acc.data ++ l.toArray⟩ := by
  induction l with
  | nil => intro acc; simp
  | cons x l ih =>
    intro acc
    simp only [List.map_cons, List.foldl_cons]
    rw [ih]
    simp [ByteArray.push]
def cU8 (x : UInt8) : List Value := [vU8 x]
def u8S : Shape UInt8 := Shape.plain 1 false cU8 (fun _ => rfl) (fun _ => rfl)
theorem flat_u8 {R : PH} : ∀ {css : List (List Value)} {xs : List UInt8}, css.length = xs.length → (∀ (i : Nat) (ci : List Value) (x : UInt8), css[i]? = some ci → xs[i]? = some x → u8S.rel R ci x) → css.flatten = xs.map (fun x => Value.int .u8 (x.toNat : Int))
  | [], [], _, _ => rfl
  | ci :: css, x :: xs, hl, h => by
    have h0 := h 0 ci x rfl rfl
    have : ci = [vU8 x] := h0
    subst this
    have := flat_u8 (R := R) (css := css) (xs := xs) (by simpa using hl) (fun i ci x a b => h (i + 1) ci x (by simpa using a) (by simpa using b))
    simp [this]
theorem OpT_strS {s t e : TypeId} {x : Operand} {vx : Value} {i : Nat} {xs : List UInt8} (hn : Nat.blt d c.n = true) (hd : o.dst = some d) (ho : o.op = .convert s t x) (hx : ev fr x = some vx)
    (hs : c.P.underlying s = some (.slice e)) (he : c.P.underlying e = some (.int .u8)) (ht : c.P.underlying t = some .string) (hi : shr[i]? = some (Fact.sl u8S vx xs)) : OpT c o ⟨fr, own, shr⟩ (fun s => s = ⟨(d, some (vS xs)) :: fr, own, shr⟩) :=
  OpT_val hn hd fun a w hsat => by
    obtain ⟨R, hR, hsl⟩ := hsat.2.2.2.fact hi
    obtain ⟨base, cap, css, e1, e2, e3, e4, e5, e6, e7, e8⟩ := SliceRel.flat hsl
    subst e1
    have hfl := flat_u8 e3 e4
    have hcv : (Conv.bytesToString (.slice base xs.length cap)).run c.P w = .ok (vS xs) w := by
      cases base with
      | none =>
        have : xs = [] := by
          cases xs with
          | nil => rfl
          | cons y ys => exact absurd rfl (e7 (by simp))
        subst this; rfl
      | some ad =>
        have h1 := loadCells_at (P := c.P) hR (e8 ad rfl)
        have h2 : css.flatten.length = xs.length := by rw [hfl]; simp
        rw [h2, hfl] at h1
        have := run_bytesToString (P := c.P) w ad xs.length cap (xs.map fun x => (x.toNat : Int)) (by rw [h1]; simp)
        rw [this, push_all]; simp
    have hu1 := run_underlying hs w; have hu2 := run_underlying ht w; have hu3 := run_underlying he w
    simp [execOp, ho, ev_eval hsat.2.2.1 hx, convert, hu1, hu2, hu3, hcv]
end
end Go.Proofs.Ytjfdamiilndgeaa

end

section
namespace Go.Proofs.Ytjfdamiilndgeaa

/-- called with these arguments, these owned parts lent and these facts known, the function returns as 'Post' says; nothing else is written -/
def Ctr (P : Program) (f : FuncId) (args : Array Value) (own0 : List Res) (shr0 : List Fact) (Post : Value → List Res → List Fact → Prop) : Prop :=
  ∀ (R0 : PH) (w0 : World) (hs : Nat → PH), R0.inW w0 → (∀ F ∈ shr0, F.p R0) → (∀ (i : Nat) (r : Res), own0[i]? = some r → r.p R0 (hs i)) → (∀ i, (hs i).inW w0) → (∀ i j, i ≠ j → (hs i).disj (hs j)) → (∀ i, R0.disj (hs i)) →
    Calls P f args w0 fun e w1 => ∃ rv own1 shr1, e = .returned rv ∧ Post rv own1 shr1 ∧ HSat R0 w0 (fun b => ∃ i, i < own0.length ∧ hs i b ≠ none) (own1.map some) shr1 w1

def QR (P : Program) (fn : Func) (R0 : PH) (w0 : World) (B : Nat → Prop) (Post : Value → List Res → List Fact → Prop) : Exit → Act → World → Prop :=
  bodyPost P fn fun e w1 => ∃ rv own1 shr1, e = .returned rv ∧ Post rv own1 shr1 ∧ HSat R0 w0 B (own1.map some) shr1 w1

def argfr : List Value → Nat → List (Nat × Option Value)
  | [], _ => []
  | v :: r, i => (i, some v) :: argfr r (i + 1)
theorem lk_argfr : ∀ {l : List Value} {i t : Nat} {v : Value}, lk (argfr l i) t = some v → i ≤ t ∧ l[t - i]? = some v
  | [], i, t, v, h => by simp [argfr, lk] at h
  | u :: l, i, t, v, h => by
    simp only [argfr, lk] at h
    by_cases e : t = i
    · subst e; simp at h; subst h; simp
    · rw [nbeq_ne e] at h
      obtain ⟨h1, h2⟩ := lk_argfr h
      refine ⟨by omega, ?_⟩
      have : t - i = (t - (i + 1)) + 1 := by omega
      rw [this]; simpa using h2

/-- the state at the body's start -/
theorem body_start {P : Program} {fn : Func} {args : List Value} {own0 : List Res} {shr0 : List Fact} {R0 : PH} {w0 : World} {Q : Exit → Act → World → Prop} (hn : Nat.ble args.length fn.ntmps = true) (hs : Nat → PH) (hR : R0.inW w0) (hF : ∀ F ∈ shr0, F.p R0) (ho : ∀ (i : Nat) (r : Res), own0[i]? = some r → r.p R0 (hs i)) (hw : ∀ i, (hs i).inW w0) (hd : ∀ i j, i ≠ j → (hs i).disj (hs j)) (hr : ∀ i, R0.disj (hs i)) :
    Sat ⟨P, R0, w0, (fun b => ∃ i, i < own0.length ∧ hs i b ≠ none), fn.ntmps, Q, []⟩ ⟨argfr args 0, own0.map some, shr0⟩ { tmps := args.toArray ++ Array.replicate (fn.ntmps - args.toArray.size) undef, defers := [] } w0 := by
  have hn' := Nat.le_of_ble_eq_true hn
  refine ⟨by simp; omega, rfl, ?_, R0, fun i => if i < own0.length then hs i else PH.emp, PH.le_refl _, hR, hF, ?_, ?_, ?_, ?_, ?_, fun b o h => .inl h, Nat.le_refl _, fun _ _ _ => rfl, rfl, rfl, rfl⟩
  · intro t v hl
    obtain ⟨_, h2⟩ := lk_argfr hl
    simp only [Nat.sub_zero] at h2
    have hlt := (List.getElem?_eq_some_iff.1 h2).1
    rw [Array.getElem?_append_left (by simpa using hlt)]
    simpa using h2
  · intro i r hi
    simp only [List.getElem?_map] at hi
    cases hq : own0[i]? with
    | none => rw [hq] at hi; simp at hi
    | some r' =>
      rw [hq] at hi; simp at hi; subst hi
      rw [if_pos (List.getElem?_eq_some_iff.1 hq).1]; exact ho i _ hq
  · intro i
    split
    · exact hw i
    · intro b o hb; cases hb
  · intro i j hij
    by_cases h1 : i < own0.length <;> by_cases h2 : j < own0.length <;> simp only [h1, h2, if_true, if_false]
    · exact hd i j hij
    · exact fun b => .inr rfl
    · exact fun b => .inl rfl
    · exact fun b => .inl rfl
  · intro i
    split
    · exact hr i
    · exact fun b => .inr rfl
  · intro i b o hb
    by_cases h1 : i < own0.length
    · simp only [h1, if_true] at hb; exact .inl ⟨i, h1, by rw [hb]; simp⟩
    · simp only [h1, if_false] at hb; cases hb

def BodyOk (P : Program) (f : FuncId) (args : List Value) (own0 : List Res) (shr0 : List Fact) (Post : Value → List Res → List Fact → Prop) : Prop :=
  ∃ fn code, P.funcs[f]? = some fn ∧ fn.body = some code ∧ Nat.ble args.length fn.ntmps = true ∧ ∀ R0 w0 B, Tk ⟨P, R0, w0, B, fn.ntmps, QR P fn R0 w0 B Post, []⟩ [.code code] ⟨argfr args 0, own0.map some, shr0⟩
theorem BodyOk.mk {P : Program} {f : FuncId} {fn : Func} {code : Code} {args : List Value} {own0 : List Res} {shr0 : List Fact} {Post : Value → List Res → List Fact → Prop} (hf : P.funcs[f]? = some fn) (hb : fn.body = some code) (hn : Nat.ble args.length fn.ntmps = true)
    (h : ∀ R0 w0 B, Tk ⟨P, R0, w0, B, fn.ntmps, QR P fn R0 w0 B Post, []⟩ [.code code] ⟨argfr args 0, own0.map some, shr0⟩) : BodyOk P f args own0 shr0 Post := ⟨fn, code, hf, hb, hn, h⟩
theorem BodyOk.ctr {P : Program} {f : FuncId} {args : List Value} {own0 : List Res} {shr0 : List Fact} {Post : Value → List Res → List Fact → Prop} (h : BodyOk P f args own0 shr0 Post) : Ctr P f args.toArray own0 shr0 Post := by
  obtain ⟨fn, code, hf, hb, hn, h⟩ := h
  intro R0 w0 hs hR hF ho hw hd hr
  exact calls_of_wp hf hb (h R0 w0 _ _ _ (body_start hn hs hR hF ho hw hd hr))
theorem Ctr.mk {P : Program} {f : FuncId} {fn : Func} {code : Code} {args : List Value} {own0 : List Res} {shr0 : List Fact} {Post : Value → List Res → List Fact → Prop} (hf : P.funcs[f]? = some fn) (hb : fn.body = some code) (hn : Nat.ble args.length fn.ntmps = true)
    (h : ∀ R0 w0 B, Tk ⟨P, R0, w0, B, fn.ntmps, QR P fn R0 w0 B Post, []⟩ [.code code] ⟨argfr args 0, own0.map some, shr0⟩) : Ctr P f args.toArray own0 shr0 Post := (BodyOk.mk hf hb hn h).ctr

/-! deferred calls -/
def CtrD (P : Program) (f : FuncId) (args : Array Value) (own0 : List Res) (shr0 : List Fact) (Post : Value → List Res → List Fact → Prop) : Prop :=
  ∀ (R0 : PH) (w0 : World) (hs : Nat → PH) (u : FrameMode), R0.inW w0 → (∀ F ∈ shr0, F.p R0) → (∀ (i : Nat) (r : Res), own0[i]? = some r → r.p R0 (hs i)) → (∀ i, (hs i).inW w0) → (∀ i j, i ≠ j → (hs i).disj (hs j)) → (∀ i, R0.disj (hs i)) →
    CallsD P f args u w0 fun e u' w1 => u' = u ∧ ∃ rv own1 shr1, e = .returned rv ∧ Post rv own1 shr1 ∧ HSat R0 w0 (fun b => ∃ i, i < own0.length ∧ hs i b ≠ none) (own1.map some) shr1 w1
theorem BodyOk.ctrD {P : Program} {f : FuncId} {args : List Value} {own0 : List Res} {shr0 : List Fact} {Post : Value → List Res → List Fact → Prop} (h : BodyOk P f args own0 shr0 Post) : CtrD P f args.toArray own0 shr0 Post := by
  obtain ⟨fn, code, hf, hb, hn, h⟩ := h
  intro R0 w0 hs u hR hF ho hw hd hr
  exact callsD_of_wp hf hb (h R0 w0 _ _ _ (body_start hn hs hR hF ho hw hd hr))
/-- a function that has a deferred call when it returns -/
def QRD (P : Program) (fn : Func) (R0 : PH) (w0 : World) (B : Nat → Prop) (Post : Value → List Res → List Fact → Prop) : Exit → Act → World → Prop :=
  bodyPostD P fn fun e w1 => ∃ rv own1 shr1, e = .returned rv ∧ Post rv own1 shr1 ∧ HSat R0 w0 B (own1.map some) shr1 w1
theorem Ctr.mkD {P : Program} {f : FuncId} {fn : Func} {code : Code} {args : List Value} {own0 : List Res} {shr0 : List Fact} {Post : Value → List Res → List Fact → Prop} (hf : P.funcs[f]? = some fn) (hb : fn.body = some code) (hn : Nat.ble args.length fn.ntmps = true)
    (h : ∀ R0 w0 B, Tk ⟨P, R0, w0, B, fn.ntmps, QRD P fn R0 w0 B Post, []⟩ [.code code] ⟨argfr args 0, own0.map some, shr0⟩) : Ctr P f args.toArray own0 shr0 Post := by
  intro R0 w0 hs hR hF ho hw hd hr
  exact calls_of_wp_defers hf hb (h R0 w0 _ _ _ (body_start hn hs hR hF ho hw hd hr))

/-! returning -/
section
variable {P : Program} {fn : Func} {R0 : PH} {w0 : World} {B : Nat → Prop} {Post : Value → List Res → List Fact → Prop} {n : Nat} {fr : List (Nat × Option Value)} {own : List (Option Res)} {shr : List Fact} {k : List Item}
theorem Sat.result {c : Cx} {v : Value} {a : Act} {w : World} (hs : Sat c ⟨fr, own, shr⟩ a w) (is js : List Nat) (own1 : List Res) (shr1 : List Fact) (hnd : nodupB is = true) (ho : pick own is = own1.map some) (hj : pickF shr js = some shr1) : HSat c.R0 c.w0 c.B (own1.map some) shr1 w := by
  obtain ⟨R, hs', hw⟩ := hs.2.2.2
  rw [← ho]
  exact ⟨_, _, hw.pick is hnd (pickF_mem hj)⟩
theorem ret_core {c : Cx} {fn : Func} (hQ : c.Q = QR c.P fn c.R0 c.w0 c.B Post) (hds : c.ds = []) {v : Value} (hv : ∀ a w, Sat c ⟨fr, own, shr⟩ a w → (results fn a.tmps).run c.P w = .ok v w) (is js : List Nat) {own1 : List Res} {shr1 : List Fact} (hnd : nodupB is = true) (ho : pick own is = own1.map some) (hj : pickF shr js = some shr1) (hp : Post v own1 shr1) :
    ∀ a w, Sat c ⟨fr, own, shr⟩ a w → c.Q .ret a w ∧ c.Q .normal a w := by
  intro a w hs
  have h1 := hv a w hs
  have h2 := hs.result is js own1 shr1 hnd ho hj (v := v)
  rw [hQ]
  exact ⟨⟨hs.2.1.trans hds, v, h1, v, own1, shr1, rfl, hp, h2⟩, ⟨hs.2.1.trans hds, v, h1, v, own1, shr1, rfl, hp, h2⟩⟩
theorem Tk_retV {c : Cx} {fn : Func} (hQ : c.Q = QR c.P fn c.R0 c.w0 c.B Post) (hds : c.ds = []) {v : Value} (hv : ∀ a w, Sat c ⟨fr, own, shr⟩ a w → (results fn a.tmps).run c.P w = .ok v w) (is js : List Nat) {own1 : List Res} {shr1 : List Fact} (hnd : nodupB is = true) (ho : pick own is = own1.map some) (hj : pickF shr js = some shr1) (hp : Post v own1 shr1) :
    Tk c (.code .ret :: k) ⟨fr, own, shr⟩ := Tk_ret fun a w hs => (ret_core hQ hds hv is js hnd ho hj hp a w hs).1
theorem Tk_endV {c : Cx} {fn : Func} (hQ : c.Q = QR c.P fn c.R0 c.w0 c.B Post) (hds : c.ds = []) {v : Value} (hv : ∀ a w, Sat c ⟨fr, own, shr⟩ a w → (results fn a.tmps).run c.P w = .ok v w) (is js : List Nat) {own1 : List Res} {shr1 : List Fact} (hnd : nodupB is = true) (ho : pick own is = own1.map some) (hj : pickF shr js = some shr1) (hp : Post v own1 shr1) :
    Tk c [] ⟨fr, own, shr⟩ := fun a w hs => (ret_core hQ hds hv is js hnd ho hj hp a w hs).2
end

/-! calling -/
def Callee (P : Program) (f : FuncId) : Prop := ∀ args w, (callFunc f args).run P w = .ok (.enter f args) w
def clear (own : List (Option Res)) : List Nat → List (Option Res)
  | [] => own
  | i :: is => clear (own.set i none) is
theorem clear_at : ∀ {is : List Nat} {own : List (Option Res)} {j : Nat} {r : Res}, (clear own is)[j]? = some (some r) → own[j]? = some (some r) ∧ j ∉ is
  | [], own, j, r, h => ⟨h, by simp⟩
  | i :: is, own, j, r, h => by
    obtain ⟨h1, h2⟩ := clear_at (own := own.set i none) h
    by_cases e : j = i
    · subst e
      rcases Nat.lt_or_ge j own.length with hlt | hge
      · simp [hlt] at h1
      · simp [Nat.not_lt.2 hge] at h1
    · rw [List.getElem?_set_ne (fun q => e q.symm)] at h1
      exact ⟨h1, by simp [e, h2]⟩
theorem clear_len : ∀ (is : List Nat) (own : List (Option Res)), (clear own is).length = own.length
  | [], _ => rfl
  | i :: is, own => by rw [clear, clear_len is]; simp

theorem HW.call {R0 : PH} {w0 : World} {B : Nat → Prop} {own : List (Option Res)} {shr shr1 : List Fact} {w w1 : World} {R : PH} {hs : Nat → PH} (h : HW R0 w0 B own shr w R hs) (is : List Nat) (own1 : List Res) (m : Nat) (hm : is.length = m) 
    (h1 : HSat R w (fun b => ∃ i, i < m ∧ (match is[i]? with | some j => hs j | none => PH.emp) b ≠ none) (own1.map some) shr1 w1) : HSat R0 w0 B (clear own is ++ own1.map some) (shr ++ shr1) w1 := by
  obtain ⟨R1, g, hg⟩ := h1
  have hB1 : ∀ b, (∃ i, i < m ∧ (match is[i]? with | some j => hs j | none => PH.emp) b ≠ none) → ∃ j, j ∈ is ∧ ∃ o, hs j b = some o := by
    rintro b ⟨i, hi, hb⟩
    cases e : is[i]? with
    | none => rw [e] at hb; exact absurd rfl hb
    | some j =>
      rw [e] at hb
      refine ⟨j, List.mem_of_getElem? e, ?_⟩
      cases q : hs j b with
      | none => exact absurd q hb
      | some o => exact ⟨o, rfl⟩
  have lt_of : ∀ j b o, hs j b = some o → b < w.heap.size := fun j b o hb => (Array.getElem?_eq_some_iff.1 (h.hw j b o hb)).1
  have kept : ∀ j b o, j ∉ is → hs j b = some o → ¬ (∃ i, i < m ∧ (match is[i]? with | some j => hs j | none => PH.emp) b ≠ none) := by
    intro j b o hj hb hB
    obtain ⟨j', hj', o', ho'⟩ := hB1 b hB
    rcases h.dj j j' (fun e => hj (e ▸ hj')) b with q | q
    · rw [hb] at q; cases q
    · rw [ho'] at q; cases q
  refine ⟨R1, fun j => if j < own.length then (if j ∈ is then PH.emp else hs j) else g (j - own.length), PH.le_trans h.r0 hg.r0, hg.rw_, ?_, ?_, ?_, ?_, ?_, ?_, ?_, Nat.le_trans h.size hg.size, ?_, hg.os.trans h.os, hg.tape.trans h.tape, hg.output.trans h.output⟩
  · intro F hF
    rcases List.mem_append.1 hF with q | q
    · exact F.mono hg.r0 (h.sh F q)
    · exact hg.sh F q
  · intro j r hj
    by_cases hlt : j < own.length
    · rw [List.getElem?_append_left (by rw [clear_len]; exact hlt)] at hj
      obtain ⟨q1, q2⟩ := clear_at hj
      simp only [hlt, q2, if_true, if_false]
      exact r.mono hg.r0 (h.ow j r q1)
    · rw [List.getElem?_append_right (by rw [clear_len]; omega), clear_len] at hj
      simp only [hlt, if_false]
      exact hg.ow _ r hj
  · intro j
    by_cases hlt : j < own.length
    · by_cases hj : j ∈ is
      · simp only [hlt, hj, if_true]; intro b o hb; cases hb
      · simp only [hlt, hj, if_true, if_false]
        intro b o hb
        rw [hg.keep b (lt_of j b o hb) (kept j b o hj hb)]; exact h.hw j b o hb
    · simp only [hlt, if_false]; exact hg.hw _
  · intro j l hjl
    have mixed : ∀ j l, j < own.length → j ∉ is → (hs j).disj (g l) := by
      intro j l hlt hj b
      cases hb : hs j b with
      | none => exact .inl rfl
      | some o =>
        right
        cases hb' : g l b with
        | none => rfl
        | some o' =>
          rcases hg.new l b o' hb' with q | q
          · exact absurd q (kept j b o hj hb)
          · have := lt_of j b o hb; omega
    by_cases h1 : j < own.length <;> by_cases h2 : l < own.length <;> by_cases h3 : j ∈ is <;> by_cases h4 : l ∈ is <;> simp only [h1, h2, h3, h4, if_true, if_false] <;>
      first
      | exact fun b => .inl rfl
      | exact fun b => .inr rfl
      | exact h.dj j l hjl
      | exact mixed j _ h1 h3
      | exact PH.disj_comm (mixed l _ h2 h4)
      | exact hg.dj _ _ (by omega)
  · intro j
    by_cases hlt : j < own.length
    · by_cases hj : j ∈ is
      · simp only [hlt, hj, if_true]; exact fun b => .inr rfl
      · simp only [hlt, hj, if_true, if_false]
        intro b
        cases hb : hs j b with
        | none => exact .inr rfl
        | some o =>
          left
          cases hb' : R1 b with
          | none => rfl
          | some o' =>
            rcases hg.rnew b o' hb' with q | q | q
            · rcases h.rd j b with q' | q'
              · rw [q] at q'; cases q'
              · rw [hb] at q'; cases q'
            · exact absurd q (kept j b o hj hb)
            · have := lt_of j b o hb; omega
    · simp only [hlt, if_false]; exact hg.rd _
  · intro j b o hb
    by_cases hlt : j < own.length
    · by_cases hj : j ∈ is
      · simp only [hlt, hj, if_true] at hb; cases hb
      · simp only [hlt, hj, if_true, if_false] at hb; exact h.new j b o hb
    · simp only [hlt, if_false] at hb
      rcases hg.new _ b o hb with q | q
      · obtain ⟨j', _, o', ho'⟩ := hB1 b q
        exact h.new j' b o' ho'
      · exact .inr (Nat.le_trans h.size q)
  · intro b o hb
    rcases hg.rnew b o hb with q | q | q
    · exact h.rnew b o q
    · obtain ⟨j', _, o', ho'⟩ := hB1 b q
      exact .inr (h.new j' b o' ho')
    · exact .inr (.inr (Nat.le_trans h.size q))
  · intro b hb hnB
    rw [hg.keep b (Nat.lt_of_lt_of_le hb h.size) (fun q => by
      obtain ⟨j', _, o', ho'⟩ := hB1 b q
      rcases h.new j' b o' ho' with q' | q'
      · exact hnB q'
      · omega)]
    exact h.keep b hb hnB

def evl (fr : List (Nat × Option Value)) : List Operand → Option (List Value)
  | [] => some []
  | x :: r => match ev fr x, evl fr r with | some v, some l => some (v :: l) | _, _ => none
theorem evl_eval {a : Act} {fr : List (Nat × Option Value)} (hf : Fr a fr) : ∀ {l : List Operand} {r : List Value}, evl fr l = some r → l.map a.eval = r
  | [], r, h => by simp [evl] at h; subst h; rfl
  | x :: l, r, h => by
    simp only [evl] at h
    split at h
    · rename_i v l' hv hl
      simp at h; subst h
      simp [ev_eval hf hv, evl_eval hf hl]
    · cases h
section
variable {c : Cx} {k : List Item} {o : Oper} {fr : List (Nat × Option Value)} {own : List (Option Res)} {shr : List Fact}
def putD (d : Option Nat) (v : Value) (fr : List (Nat × Option Value)) : List (Nat × Option Value) := match d with | some d => (d, some v) :: fr | none => fr
def dstOk (d : Option Nat) (n : Nat) : Bool := match d with | some d => Nat.blt d n | none => true
theorem OpT_call {f : FuncId} {fx : Operand} {as : Array Operand} {ats : Array TypeId} {vs : List Value} {cp : List Value} {args : Array Value} {own0 : List Res} {shr0 : List Fact} {Post : Value → List Res → List Fact → Prop} {dd : Option Nat} (hC : Ctr c.P f args own0 shr0 Post) (is js : List Nat) (hn : dstOk dd c.n = true) (hd : o.dst = dd)
    (ho : o.op = .call { callee := .value fx, args := as, argTypes := ats }) (hfx : ev fr fx = some (.func (.func f) #[] cp.toArray)) (hvs : evl fr as.toList = some vs) (hc : Callee c.P f) (ha : args = (vs ++ cp).toArray) (hnd : nodupB is = true) (hio : pick own is = own0.map some) (hjs : pickF shr js = some shr0) :
    OpT c o ⟨fr, own, shr⟩ (fun s => ∃ rv own1 shr1, Post rv own1 shr1 ∧ s = ⟨putD dd rv fr, clear own is ++ own1.map some, shr ++ shr1⟩) := by
  intro a w hs K Q hK
  have hev := hs.2.2.1
  obtain ⟨R, hs', hw⟩ := hs.2.2.2
  unfold Oper.wp
  have hmap : as.map a.eval = vs.toArray := by apply Array.ext'; simpa using evl_eval hev hvs
  have hrun : (execOp a.eval o).run c.P w = .ok (.enter f (vs.toArray ++ cp.toArray)) w := by
    have := hc (vs.toArray ++ cp.toArray) w
    simp only [List.append_toArray] at this
    simp only [execOp, ho, resolve, hmap, ev_eval hev hfx, Deferred.ofValue, Sem.run_bind, Sem.run_pure, Result.andThen_ok, invoke, List.append_toArray, List.nil_append, this]
  rw [hrun, Oper.upon_enter]
  have hil : is.length = own0.length := by
    have := congrArg List.length hio
    simpa [pick] using this
  have hall : ∀ (i : Nat), (match is[i]? with | some j => hs' j | none => PH.emp : PH).inW w := fun i => by
    cases e : is[i]? with
    | some j => exact hw.hw j
    | none => intro b o hb; cases hb
  have harg : vs.toArray ++ cp.toArray = args := by rw [ha]; simp
  rw [harg]
  have hw2 := hw.pick is hnd (pickF_mem hjs)
  refine (hC R w (fun (i : Nat) => match is[i]? with | some j => hs' j | none => PH.emp) hw.rw_ (fun F hF => hw.sh F (pickF_mem hjs F hF)) ?_ hall ?_ ?_).mono ?_
  · intro i r hi
    refine hw2.ow i r ?_
    rw [hio]; simp [hi]
  · exact hw2.dj
  · exact hw2.rd
  · rintro e w1 ⟨rv, own1, shr1, rfl, hp, hh⟩
    dsimp only
    have hcall := hw.call is own1 own0.length hil hh
    refine hK _ ⟨rv, own1, shr1, hp, rfl⟩ _ _ ?_
    rw [hd]
    cases dd with
    | none => exact ⟨hs.1, hs.2.1, hs.2.2.1, hcall⟩
    | some d => exact Sat_put (c := c) hn ⟨hs.1, hs.2.1, hs.2.2.1, hcall⟩
end

/-! regions that draw their order -/
def updL (L : Nat → Bool) (i j : Nat) : Bool := bif Nat.beq j i then true else L j
def memN (j : Nat) : List Nat → Bool
  | [] => false
  | i :: r => bif Nat.beq j i then true else memN j r
def ovr (L : Nat → Bool) (p f : List Nat) (j : Nat) : Bool := bif memN j p then true else bif memN j f then false else L j
theorem memN_iff {j : Nat} : ∀ {l : List Nat}, memN j l = true ↔ j ∈ l
  | [] => by simp [memN]
  | i :: r => by
    simp only [memN]
    by_cases e : j = i
    · subst e; simp
    · rw [nbeq_ne e]; simp [e, memN_iff (l := r)]
/-- operation i may come up in a state of 'Iv', and leads back into it -/
def Step1 (c : Cx) (ops : Array Oper) (Iv : (Nat → Bool) → Act → World → Prop) (i : Nat) (p f : List Nat) : Prop :=
  ∀ (L : Nat → Bool) (a : Act) (w : World), Iv (ovr L p (i :: f)) a w → ∀ (K : Act → World → Prop) (Q : Exit → Act → World → Prop), (∀ a' w', Iv (updL (ovr L p (i :: f)) i) a' w' → K a' w') → wpOp c.P ops Q i K a w
def StepsL (c : Cx) (ops : Array Oper) (Iv : (Nat → Bool) → Act → World → Prop) : Nat → List (List Nat × List Nat) → Prop
  | _, [] => True
  | i, (p, f) :: r => Step1 c ops Iv i p f ∧ StepsL c ops Iv (i + 1) r
def direct (ops : Array Oper) (i : Nat) : List Nat := match ops[i]? with | some o => (o.after.toList.filter (Region.binds .any)).map (·.on) | none => []
theorem StepsL.get {c : Cx} {ops : Array Oper} {Iv : (Nat → Bool) → Act → World → Prop} : ∀ {l : List (List Nat × List Nat)} {k : Nat}, StepsL c ops Iv k l → ∀ i, i < l.length → Step1 c ops Iv (k + i) (l.getD i ([], [])).1 (l.getD i ([], [])).2
  | [], _, _, i, h => by simp at h
  | (p, f) :: r, k, hs, 0, _ => by simpa using hs.1
  | (p, f) :: r, k, hs, i + 1, h => by
    have := StepsL.get hs.2 i (by simpa using h)
    rw [show k + (i + 1) = k + 1 + i by omega]
    simpa using this

theorem ready_spec {ops : Array Oper} {listed : Array Bool} {i : Nat} (h : i ∈ Region.ready .any ops listed) : i < ops.size ∧ listed.getD i true = false ∧ ∀ q ∈ direct ops i, listed.getD q false = true := by
  simp only [Region.ready, List.mem_filter, List.mem_range, Bool.and_eq_true, Bool.not_eq_true'] at h
  obtain ⟨h1, h2, h3⟩ := h
  refine ⟨h1, h2, ?_⟩
  intro q hq
  unfold direct at hq
  rw [Array.getElem?_eq_getElem h1] at hq h3
  simp only [Option.map_some, Option.getD_some] at h3
  simp only [List.mem_map, List.mem_filter] at hq
  obtain ⟨e, ⟨he, hb⟩, rfl⟩ := hq
  have := (Array.all_eq_true_iff_forall_mem.1 h3) e (by simpa using he)
  simpa [hb] using this
theorem ready_of {ops : Array Oper} {listed : Array Bool} {i : Nat} (h1 : i < ops.size) (h2 : listed.getD i true = false) (h3 : ∀ q ∈ direct ops i, listed.getD q false = true) : i ∈ Region.ready .any ops listed := by
  simp only [Region.ready, List.mem_filter, List.mem_range, Bool.and_eq_true, Bool.not_eq_true']
  refine ⟨h1, h2, ?_⟩
  rw [Array.getElem?_eq_getElem h1]
  simp only [Option.map_some, Option.getD_some]
  refine Array.all_eq_true_iff_forall_mem.2 fun e he => ?_
  cases hb : Region.binds .any e with
  | false => rfl
  | true =>
    have := h3 e.on (by
      unfold direct; rw [Array.getElem?_eq_getElem h1]
      simp only [List.mem_map, List.mem_filter]
      exact ⟨e, ⟨by simpa using he, hb⟩, rfl⟩)
    simpa using this

section
variable {c : Cx} {ops : Array Oper} {i : Nat} {o : Oper} {s : St} {K : Act → World → Prop} {Q : Exit → Act → World → Prop} {a : Act} {w : World} {Ks : St → Prop}
theorem wpOp_go (hi : ops[i]? = some o) (hg : o.guard = none) (hs : Sat c s a w) (ho : OpT c o s Ks) (hK : ∀ s', Ks s' → ∀ a' w', Sat c s' a' w' → K a' w') : wpOp c.P ops Q i K a w := by
  unfold wpOp
  rw [hi]
  simp only [Region.wanted, hg, if_true]
  exact .inl (ho a w hs K Q hK)
theorem wpOp_yes {j : Nat} {b : Bool} {d : Nat} (hi : ops[i]? = some o) (hg : o.guard = some (j, b)) (hd : ((ops[j]?).bind (·.dst)) = some d) (hs : Sat c s a w) (hl : lk s.fr d = some (.bool b)) (ho : OpT c o s Ks) (hK : ∀ s', Ks s' → ∀ a' w', Sat c s' a' w' → K a' w') : wpOp c.P ops Q i K a w := by
  have hw := wanted_of (ops := ops) hs.2.2.1 hg hd hl
  unfold wpOp
  rw [hi]
  simp only [hw, beq_self_eq_true, if_true]
  exact .inl (ho a w hs K Q hK)
theorem wpOp_no {fr : List (Nat × Option Value)} {own : List (Option Res)} {shr : List Fact} {j : Nat} {b : Bool} {d e : Nat} (hi : ops[i]? = some o) (hg : o.guard = some (j, b)) (hd : ((ops[j]?).bind (·.dst)) = some d) (hs : Sat c ⟨fr, own, shr⟩ a w) (hl : lk fr d = some (.bool (!b))) (he : o.dst = some e) (hn : Nat.blt e c.n = true)
    (hK : ∀ a' w', Sat c ⟨(e, some undef) :: fr, own, shr⟩ a' w' → K a' w') : wpOp c.P ops Q i K a w := by
  have hw := wanted_of (ops := ops) hs.2.2.1 hg hd hl
  unfold wpOp
  rw [hi]
  simp only [hw]
  rw [if_neg (by cases b <;> simp)]
  refine hK _ _ ?_
  rw [he]; exact Sat_put hn hs
end
end Go.Proofs.Ytjfdamiilndgeaa

end

section
namespace Go.Proofs.Ytjfdamiilndgeaa

section
variable {c : Cx} {k : List Item} {s : St} {ops : Array Oper} {rest : List Oper} {o : Oper} {fr : List (Nat × Option Value)} {own : List (Option Res)} {shr : List Fact} {d : Nat} {τ : Type} {S : Shape τ}

/-- what stands behind, once for all ways that lead there -/
theorem Tk_join {α : Type} {i : Item} (st : α → St) (p : α → Prop) (hJ : ∀ x, p x → Tk c k (st x)) (hM : (∀ x, p x → Tk c k (st x)) → Tk c (i :: k) s) : Tk c (i :: k) s := hM hJ
/-- a fact that says nothing -/
def Fact.tt : Fact := ⟨fun _ => True, fun _ _ => trivial⟩
def pickT (shr : List Fact) (js : List Nat) : List Fact := js.map fun j => (shr[j]?).getD Fact.tt
theorem pickT_p {shr : List Fact} {R : PH} (h : ∀ F ∈ shr, F.p R) {js : List Nat} : ∀ F ∈ pickT shr js, F.p R := by
  intro F hF
  obtain ⟨j, _, rfl⟩ := List.mem_map.1 hF
  cases e : shr[j]? with
  | none => trivial
  | some G => exact h G (List.mem_of_getElem? e)
theorem HW.facts {R0 : PH} {w0 : World} {B : Nat → Prop} {own : List (Option Res)} {shr shr' : List Fact} {w : World} {R : PH} {hs : Nat → PH} (h : HW R0 w0 B own shr w R hs) (hf : ∀ F ∈ shr', F.p R) : HW R0 w0 B own shr' w R hs :=
  ⟨h.r0, h.rw_, hf, h.ow, h.hw, h.dj, h.rd, h.new, h.rnew, h.size, h.keep, h.os, h.tape, h.output⟩
theorem Sat.wk {c : Cx} {s : St} {a : Act} {w : World} (h : Sat c s a w) {fr' : List (Nat × Option Value)} (is js : List Nat) {own' : List (Option Res)} {shr' : List Fact}
    (hn : nodupB is = true) (hf : FrSub s.fr fr') (ho : pick s.own is = own') (hs : pickT s.shr js = shr') : Sat c ⟨fr', own', shr'⟩ a w := by
  obtain ⟨h1, h2, h3, R, hs', hw⟩ := h
  refine ⟨h1, h2, h3.sub hf, ?_⟩
  subst ho; subst hs
  exact ⟨_, _, (hw.pick is hn (fun F hF => hF)).facts (pickT_p hw.sh)⟩
def upto : Nat → List Nat
  | 0 => []
  | n + 1 => n :: upto n
theorem mem_upto {n i : Nat} : i ∈ upto n ↔ i < n := by
  induction n with
  | zero => simp [upto]
  | succ n ih => simp [upto, ih]; omega
theorem allTrue {L : Nat → Bool} {n : Nat} (h : ∀ i, i < n → L i = true) : L = ovr L (upto n) [] := by
  funext j
  simp only [ovr]
  cases e : memN j (upto n) with
  | true => exact h j (mem_upto.1 (memN_iff.1 e))
  | false => rfl

/-! results -/
def wrapV : List Value → Value
  | [v] => v
  | vs => .tuple vs.toArray
def ResV (c : Cx) (fr : List (Nat × Option Value)) (own : List (Option Res)) : List ResultVar → List Value → Prop
  | [], [] => True
  | .tmp t :: r, v :: vs => lk fr t = some v ∧ ResV c fr own r vs
  | .cell t ty :: r, v :: vs => (∃ (b i : Nat) (tb : TypeId) (cs : List Value) (m : Nat), lk fr t = some (.pointer (some ⟨b, 0, none⟩)) ∧ own[i]? = some (some (cellsR b tb cs)) ∧ ((TyF c.P ty true m ∧ v = .agg (cs.take m).toArray ∧ Nat.ble m cs.length = true) ∨ (TyF c.P ty false m ∧ cs[0]? = some v))) ∧ ResV c fr own r vs
  | _, _ => False
theorem Array.mapM_toList' {α β : Type} (f : α → Sem β) (xs : Array α) : xs.mapM f = Array.mk <$> xs.toList.mapM f := Array.mapM_eq_mapM_toList
def resOne (tmps : Array Value) (r : ResultVar) : Sem Value :=
  match r with
  | .tmp t => pure (tmps.getD t undef)
  | .cell b t => do loadVar t (← asAddr (tmps.getD b undef))
theorem resOne_tmp {P : Program} {w : World} {tmps : Array Value} {t : Nat} {v : Value} (h : tmps[t]? = some v) : (resOne tmps (.tmp t)).run P w = .ok v w := by simp [resOne, h]
theorem resV_run {a : Act} {w : World} (hs : Sat c ⟨fr, own, shr⟩ a w) : ∀ {rs : List ResultVar} {vs : List Value}, ResV c fr own rs vs → (rs.mapM (resOne a.tmps)).run c.P w = .ok vs w
  | [], [], _ => by simp
  | .tmp t :: r, v :: vs, h => by
    have h1 := resOne_tmp (P := c.P) (w := w) (hs.2.2.1 t v h.1)
    have ih := resV_run hs h.2
    simp only [List.mapM_cons, Sem.run_bind, h1, Result.andThen_ok, ih, Sem.run_pure]
  | .cell t ty :: r, v :: vs, h => by
    obtain ⟨⟨b, i, tb, cs, m, h1, h2, h3⟩, h4⟩ := h
    have e1 := hs.2.2.1 t _ h1
    have ih := resV_run hs h4
    have h5 := hs.2.2.2.lookC h2
    have key : (resOne a.tmps (.cell t ty)).run c.P w = .ok v w := by
      rcases h3 with ⟨ht, rfl, hl⟩ | ⟨ht, hv⟩
      · have hm := Nat.le_of_ble_eq_true hl
        have h6 : (loadCells ⟨b, 0, none⟩ m).run c.P w = .ok (cs.take m).toArray w := by
          have hlen : (cs.take m).length = m := by simp; omega
          have h7 := run_loadCells_list (P := c.P) w ⟨b, 0, none⟩ (cs.take m) (fun j v hj => by
            rw [Addr.add_lit, Nat.zero_add, cellC h5]
            rw [List.getElem?_take] at hj
            split at hj
            · exact hj
            · cases hj)
          rwa [hlen] at h7
        simp [resOne, e1, asAddr, loadVar, ht.ag, ht.sz, h6]
      · have h6 := cellC (off := 0) h5
        rw [hv] at h6
        simp [resOne, e1, asAddr, loadVar, ht.ag, h6]
    simp only [List.mapM_cons, Sem.run_bind, key, Result.andThen_ok, ih, Sem.run_pure]
  | [], _ :: _, h => by cases h
  | .tmp _ :: _, [], h => by cases h
  | .cell _ _ :: _, [], h => by cases h
theorem resA {fn : Func} {rs : List ResultVar} {vs : List Value} (hr : fn.results = rs.toArray) (h : ResV c fr own rs vs) : ∀ a w, Sat c ⟨fr, own, shr⟩ a w → (results fn a.tmps).run c.P w = .ok (wrapV vs) w := fun a w hs => by
  have h1 := resV_run hs h
  have e : results fn a.tmps = (do let vs ← fn.results.mapM (resOne a.tmps); pure (if h : vs.size = 1 then vs[0] else .tuple vs)) := rfl
  rw [e, hr, Array.mapM_toList']
  simp only [Sem.run_bind, Sem.run_map, h1, Result.andThen_ok]
  match vs with
  | [] => rfl
  | [v] => rfl
  | v :: u :: vs => rfl

/-! built values -/
def BldV (P : Program) (t : TypeId) (ps : List (Nat × Value)) (v : Value) : Prop := ∀ w, (Instr.build t ps.toArray).run P w = .ok v w
theorem OpT_build {t : TypeId} {ps : Array (Nat × Operand)} {vs : List (Nat × Value)} {v : Value} (hn : Nat.blt d c.n = true) (hd : o.dst = some d) (ho : o.op = .build t ps) (hx : evs fr ps.toList = some vs) (hb : BldV c.P t vs v) : OpT c o ⟨fr, own, shr⟩ (fun s => s = ⟨(d, some v) :: fr, own, shr⟩) :=
  OpT_val hn hd fun a w hs => by
    have hps : ps.map (fun (i, x) => (i, a.eval x)) = vs.toArray := by
      apply Array.ext'; simpa using evs_eval hs.2.2.1 hx
    have h1 := hb w
    simp only [execOp, ho, hps, Sem.run_bind, h1, Result.andThen_ok, Sem.run_pure]

/-! rows of one's own, read -/
theorem RowRel.val {R h : PH} {v : Value} {xs : List τ} (hr : RowRel S R h v xs) : ∃ base cp, v = .slice base xs.length cp := by
  obtain ⟨css, _, _, h3⟩ := hr
  rcases h3 with ⟨hv, hx⟩ | ⟨g, cap, cur, tg, hv, _⟩
  · subst hx; exact ⟨none, 0, hv⟩
  · exact ⟨_, _, hv⟩
theorem OpT_lenO {t e : TypeId} {x : Operand} {vx : Value} {i : Nat} {xs : List τ} (hn : Nat.blt d c.n = true) (hd : o.dst = some d) (ho : o.op = .call { callee := .builtin .len, args := #[x], argTypes := #[t] }) (hx : ev fr x = some vx) (ht : c.P.underlying t = some (.slice e))
    (hi : own[i]? = some (some (rowS S vx xs))) : OpT c o ⟨fr, own, shr⟩ (fun s => s = ⟨(d, some (vI (len xs))) :: fr, own, shr⟩) :=
  OpT_lenV hn hd ho hx ht fun a w hs => by
    obtain ⟨R, hs', hw⟩ := hs.2.2.2
    exact RowRel.val (hw.ow i _ hi)

theorem OpT_loadLAA {t : TypeId} {x : Operand} {b i m : Nat} {tb : TypeId} {f : τ → Value} {xs : List τ} (hn : Nat.blt d c.n = true) (hd : o.dst = some d) (ho : o.op = .load t x) (hx : ev fr x = some (.pointer (some ⟨b, 0, none⟩)))
    (ht : TyF c.P t true m) (hi : own[i]? = some (some (cellsR b tb (xs.map f)))) (hl : xs.length = m) : OpT c o ⟨fr, own, shr⟩ (fun s => s = ⟨(d, some (.agg (xs.map f).toArray)) :: fr, own, shr⟩) :=
  by
  subst hl
  exact OpT_loadCA hn hd ho hx ht hi (by rw [List.drop_zero, List.take_of_length_le (by simp)]) (by simp)

/-! an array out of a slice that is read -/
/-- the first n of a list, as they are pointed at -/
def Fact.arr {τ : Type} (S : Shape τ) (p : Value) (n : Nat) (xs : List τ) : Fact :=
  ⟨fun h => xs.length = n ∧ ∃ (a : Addr) (css : List (List Value)), p = .pointer (some a) ∧ css.length = xs.length ∧ (∀ (i : Nat) (ci : List Value) (x : τ), css[i]? = some ci → xs[i]? = some x → S.rel h ci x) ∧ CellsAt h a css.flatten,
   fun hl ⟨h0, a, css, e, h1, h2, h3⟩ => ⟨h0, a, css, e, h1, fun i ci x p q => S.mono hl (h2 i ci x p q), h3.mono hl⟩⟩
theorem OpT_toArr {t e : TypeId} {x : Operand} {vx : Value} {i n sz : Nat} {xs : List τ} (hn : Nat.blt d c.n = true) (hd : o.dst = some d) (ho : o.op = .sliceToArrayPointer t x) (hx : ev fr x = some vx) (ht : ArrF c.P t n e sz) (hi : shr[i]? = some (Fact.sl S vx xs)) (hl : Nat.ble n xs.length = true) (hpos : Nat.blt 0 n = true) :
    OpT c o ⟨fr, own, shr⟩ (fun s => ∃ p, s = ⟨(d, some p) :: fr, own, shr ++ [Fact.arr S p n (xs.take n)]⟩) :=
  OpT_run hn hd fun a w hs => by
    have hl' := Nat.le_of_ble_eq_true hl
    have hpos' : 0 < n := Nat.blt_eq ▸ hpos
    obtain ⟨R, hs', hw⟩ := hs.2.2.2
    obtain ⟨base, cap, css, e1, e2, e3, e4, e5, e6, e7, e8⟩ := SliceRel.flat (hw.sh _ (List.mem_of_getElem? hi))
    have hne : xs ≠ [] := by intro q; subst q; simp at hl'; omega
    obtain ⟨ad, rfl⟩ : ∃ ad, base = some ad := by
      cases base with
      | none => exact absurd rfl (e7 hne)
      | some ad => exact ⟨ad, rfl⟩
    subst e1
    have hu := run_underlying ht.und w
    have hlt : ¬ xs.length < n := by omega
    refine ⟨.pointer (some ad), w, .pointer (some ad), by simp [execOp, ho, ev_eval hs.2.2.1 hx, Instr.arrayAt, hu, hlt], rfl, ?_⟩
    refine ⟨R, hs', hw.r0, hw.rw_, fun F hF => ?_, hw.ow, hw.hw, hw.dj, hw.rd, hw.new, hw.rnew, hw.size, hw.keep, hw.os, hw.tape, hw.output⟩
    rcases List.mem_append.1 hF with h | h
    · exact hw.sh F h
    · simp at h; subst h
      refine ⟨by simp; omega, ad, css.take n, rfl, by simp; omega, ?_, ?_⟩
      · intro j ci x q1 q2
        rw [List.getElem?_take] at q1 q2
        split at q1
        · rename_i hlt; rw [if_pos hlt] at q2; exact e4 j ci x q1 q2
        · cases q1
      · intro j u hj
        refine e8 ad rfl j u ?_
        have hsplit : css.flatten = (css.take n).flatten ++ (css.drop n).flatten := by rw [← List.flatten_append, List.take_append_drop]
        rw [hsplit, List.getElem?_append_left (List.getElem?_eq_some_iff.1 hj).1]; exact hj
theorem flat_map1 {R : PH} {cells : τ → List Value} {sz : Nat} {ag : Bool} {hl : ∀ x, (cells x).length = sz} {hone : ∀ x, (cells x).all (·.oneCell') = true} : ∀ {css : List (List Value)} {xs : List τ}, css.length = xs.length →
    (∀ (i : Nat) (ci : List Value) (x : τ), css[i]? = some ci → xs[i]? = some x → (Shape.plain sz ag cells hl hone).rel R ci x) → css = xs.map cells
  | [], [], _, _ => rfl
  | ci :: css, x :: xs, hl', h => by
    have h0 : ci = cells x := h 0 ci x rfl rfl
    subst h0
    have := flat_map1 (R := R) (css := css) (xs := xs) (hl := hl) (hone := hone) (ag := ag) (by simpa using hl') (fun i ci x a b => h (i + 1) ci x (by simpa using a) (by simpa using b))
    simp [this]
theorem OpT_loadArr {t : TypeId} {x : Operand} {p : Value} {i n m : Nat} {xs : List τ} {cells : τ → List Value} {sz : Nat} {ag : Bool} {hl : ∀ x, (cells x).length = sz} {hone : ∀ x, (cells x).all (·.oneCell') = true} (hn : Nat.blt d c.n = true) (hd : o.dst = some d) (ho : o.op = .load t x) (hx : ev fr x = some p)
    (ht : TyF c.P t true m) (hi : shr[i]? = some (Fact.arr (Shape.plain sz ag cells hl hone) p n xs)) (hm : m = n * sz) : OpT c o ⟨fr, own, shr⟩ (fun s => s = ⟨(d, some (.agg (xs.map cells).flatten.toArray)) :: fr, own, shr⟩) :=
  OpT_val hn hd fun a w hs => by
    obtain ⟨R, hR, h0, ad, css, e, h1, h2, h3⟩ := hs.2.2.2.fact hi
    subst e
    have e2 := flat_map1 h1 h2
    subst e2
    have hc := loadCells_at (P := c.P) hR h3
    have hlen : (xs.map cells).flatten.length = m := by
      rw [flat_len (sz := sz) (fun ci h => by obtain ⟨x, _, rfl⟩ := List.mem_map.1 h; exact hl x)]; simp [h0, hm]
    rw [hlen] at hc
    simp [execOp, ho, ev_eval hs.2.2.1 hx, Instr.loadAt, Instr.sureAddr, loadVar, ht.ag, ht.sz, hc]
theorem flat_one {f : τ → Value} : ∀ (xs : List τ), (xs.map fun x => [f x]).flatten = xs.map f
  | [] => rfl
  | x :: xs => by simp [flat_one xs]
end
end Go.Proofs.Ytjfdamiilndgeaa

end

section
namespace Go.Proofs.Ytjfdamiilndgeaa

section
variable {c : Cx} {k : List Item} {s : St} {ops : Array Oper} {rest : List Oper} {o : Oper} {fr : List (Nat × Option Value)} {own : List (Option Res)} {shr : List Fact} {d : Nat} {τ : Type} {S : Shape τ}

theorem nil_rel (S : Shape τ) (R : PH) : SliceRel S R (.slice none 0 0) [] := ⟨none, 0, [], rfl, Nat.le_refl _, rfl, fun i ci x a => by simp at a, fun i ci a => by simp at a⟩
theorem Tops_nilfact (S : Shape τ) (h : Tops c ops k rest ⟨fr, own, shr ++ [Fact.sl S (.slice none 0 0) []]⟩) : Tops c ops k rest ⟨fr, own, shr⟩ := fun a w hs => h a w ⟨hs.1, hs.2.1, hs.2.2.1, hs.2.2.2.add _ fun R _ _ => nil_rel S R⟩

theorem Tk_backw {σ : Type} {st : σ → St} {f : σ → Prop} (y : σ) (hf : f y) {fr' : List (Nat × Option Value)} (is js : List Nat) {own' : List (Option Res)} {shr' : List Fact} (hst : st y = ⟨fr', own', shr'⟩)
    (hn : nodupB is = true) (hfr : FrSub s.fr fr') (ho : pick s.own is = own') (hs : pickT s.shr js = shr') : Tk c (.back (fun a w => ∃ y, f y ∧ Sat c (st y) a w) :: k) s :=
  fun a w h => ⟨y, hf, by rw [hst]; exact h.wk is js hn hfr ho hs⟩

theorem rel_none {xs : List τ} {css : List (List Value)} (h : xs = []) {shr : List Fact} : ∀ R, (∀ F ∈ shr, F.p R) → ∀ (i : Nat) (ci : List Value) (x : τ), css[i]? = some ci → xs[i]? = some x → S.rel R ci x := by
  intro R _ i ci x _ h2; subst h; simp at h2

/-! a block of one's own, sliced whole -/
theorem len_of {a b : Nat} (h : (a == b) = true) : a = b := by simpa using h
/-! slice expressions -/
theorem bound_ok {P : Program} {w : World} {kk : IntKind} {i : Int} {y : Nat} {code : BoundsCode} (h0 : 0 ≤ i) (h1 : i ≤ (y : Int)) : (Instr.sliceBound (.int kk i) y code).run P w = .ok i.toNat w := by
  simp [Instr.sliceBound, asIntOf, h0, h1]
variable {t e : TypeId} {x : Operand} {vx : Value} {i : Nat} {xs : List τ} {b : Nat} {z : Value} {lo hi mx : Operand} {kl kh km : IntKind} {l m q : Int}
theorem OpT_sliceLH (hn : Nat.blt d c.n = true) (hd : o.dst = some d) (ho : o.op = .slice t x (some lo) (some hi) none) (hx : ev fr x = some vx) (hl : ev fr lo = some (.int kl l)) (hh : ev fr hi = some (.int kh m))
    (ht : SlF c.P t e S.sz b z) (hi' : shr[i]? = some (Fact.sl S vx xs)) (hc : decide (0 ≤ l ∧ l ≤ m ∧ m ≤ len xs) = true) : OpT c o ⟨fr, own, shr⟩ (fun s => ∃ v, s = ⟨(d, some v) :: fr, own, shr ++ [Fact.sl S v (sub xs l m)]⟩) := by
  obtain ⟨h0, h1, h2⟩ : 0 ≤ l ∧ l ≤ m ∧ m ≤ len xs := by simpa using hc
  unfold len at h2
  refine OpT_sliceS hn hd ho hx ht hi' (l := l.toNat) (h := m.toNat) (by omega) (by omega) fun a w cap hf hcap => ⟨cap, by omega, ?_⟩
  have b1 : ∀ code, (Instr.sliceBound (.int kh m) cap code).run c.P w = .ok m.toNat w := fun code => bound_ok (by omega) (by omega)
  have b2 : ∀ code, (Instr.sliceBound (.int kl l) m.toNat code).run c.P w = .ok l.toNat w := fun code => bound_ok (by omega) (by omega)
  simp [Instr.sliceBounds, ev_eval hf hl, ev_eval hf hh, b1, b2]
theorem OpT_sliceL (hn : Nat.blt d c.n = true) (hd : o.dst = some d) (ho : o.op = .slice t x (some lo) none none) (hx : ev fr x = some vx) (hl : ev fr lo = some (.int kl l))
    (ht : SlF c.P t e S.sz b z) (hi' : shr[i]? = some (Fact.sl S vx xs)) (hc : decide (0 ≤ l ∧ l ≤ len xs ∧ len xs ≤ len xs) = true) : OpT c o ⟨fr, own, shr⟩ (fun s => ∃ v, s = ⟨(d, some v) :: fr, own, shr ++ [Fact.sl S v (sub xs l (len xs))]⟩) := by
  obtain ⟨h0, h1, h2⟩ : 0 ≤ l ∧ l ≤ len xs ∧ len xs ≤ len xs := by simpa using hc
  unfold len at h1 ⊢
  refine OpT_sliceS hn hd ho hx ht hi' (l := l.toNat) (h := (xs.length : Int).toNat) (by omega) (by omega) fun a w cap hf hcap => ⟨cap, by omega, ?_⟩
  have b2 : ∀ code, (Instr.sliceBound (.int kl l) xs.length code).run c.P w = .ok l.toNat w := fun code => bound_ok (by omega) (by omega)
  simp [Instr.sliceBounds, ev_eval hf hl, b2]
theorem OpT_sliceH (hn : Nat.blt d c.n = true) (hd : o.dst = some d) (ho : o.op = .slice t x none (some hi) none) (hx : ev fr x = some vx) (hh : ev fr hi = some (.int kh m))
    (ht : SlF c.P t e S.sz b z) (hi' : shr[i]? = some (Fact.sl S vx xs)) (hc : decide (0 ≤ (0 : Int) ∧ 0 ≤ m ∧ m ≤ len xs) = true) : OpT c o ⟨fr, own, shr⟩ (fun s => ∃ v, s = ⟨(d, some v) :: fr, own, shr ++ [Fact.sl S v (sub xs 0 m)]⟩) := by
  obtain ⟨h0, h1, h2⟩ : 0 ≤ (0 : Int) ∧ 0 ≤ m ∧ m ≤ len xs := by simpa using hc
  unfold len at h2
  refine OpT_sliceS hn hd ho hx ht hi' (l := (0 : Int).toNat) (h := m.toNat) (by simp) (by omega) fun a w cap hf hcap => ⟨cap, by omega, ?_⟩
  have b1 : ∀ code, (Instr.sliceBound (.int kh m) cap code).run c.P w = .ok m.toNat w := fun code => bound_ok (by omega) (by omega)
  simp [Instr.sliceBounds, ev_eval hf hh, b1]
theorem OpT_min_u64 {x y : Operand} {ats : Array TypeId} {u v : UInt64} (hn : Nat.blt d c.n = true) (hd : o.dst = some d) (ho : o.op = .call { callee := .builtin .min, args := #[x, y], argTypes := ats }) (hx : ev fr x = some (vU64 u)) (hy : ev fr y = some (vU64 v)) :
    OpT c o ⟨fr, own, shr⟩ (fun s => s = ⟨(d, some (vU64 (minu64 u v))) :: fr, own, shr⟩) :=
  OpT_val hn hd fun a w hs => by
    by_cases h : v < u
    · have h' := UInt64.lt_iff_toNat_lt.1 h
      simp [execOp, ho, resolve, invoke, builtin, ev_eval hs.2.2.1 hx, ev_eval hs.2.2.1 hy, Builtin.min_, Builtin.min2, minu64, h, h']
    · have h' : ¬ v.toNat < u.toNat := fun q => h (UInt64.lt_iff_toNat_lt.2 q)
      simp [execOp, ho, resolve, invoke, builtin, ev_eval hs.2.2.1 hx, ev_eval hs.2.2.1 hy, Builtin.min_, Builtin.min2, minu64, h, h']
end

/-! a guard whose own operation was passed over -/
section
variable {c : Cx} {k : List Item} {ops : Array Oper} {rest : List Oper} {o : Oper} {fr : List (Nat × Option Value)} {own : List (Option Res)} {shr : List Fact} {j : Nat} {b : Bool} {d e i : Nat} {K : Act → World → Prop} {Q : Exit → Act → World → Prop} {a : Act} {w : World}
theorem wanted_undef (hf : Fr a fr) (hg : o.guard = some (j, b)) (hd : ((ops[j]?).bind (·.dst)) = some d) (hl : lk fr d = some undef) : Region.wanted o (yielded ops a.tmps) = false := by
  have h := hf d _ hl
  have : yielded ops a.tmps j = none := by
    cases ho : ops[j]? with
    | none => rw [ho] at hd; cases hd
    | some oj => rw [ho] at hd; simp at hd; simp [yielded, ho, hd, h, undef]
  simp [Region.wanted, hg, this]
theorem Tops_noU (hg : o.guard = some (j, b)) (hd : ((ops[j]?).bind (·.dst)) = some d) (hl : lk fr d = some undef)
    (he : o.dst = some e) (hn : Nat.blt e c.n = true) (h : Tops c ops k rest ⟨(e, some undef) :: fr, own, shr⟩) : Tops c ops k (o :: rest) ⟨fr, own, shr⟩ := fun a w hs => by
  have hw := wanted_undef (ops := ops) hs.2.2.1 hg hd hl
  refine wpList_step fun K hK => ?_
  rw [if_neg (by rw [hw]; simp)]
  refine hK _ _ (h _ _ ?_)
  rw [he]; exact Sat_put hn hs
theorem wpOp_noU (hi : ops[i]? = some o) (hg : o.guard = some (j, b)) (hd : ((ops[j]?).bind (·.dst)) = some d) (hs : Sat c ⟨fr, own, shr⟩ a w) (hl : lk fr d = some undef) (he : o.dst = some e) (hn : Nat.blt e c.n = true)
    (hK : ∀ a' w', Sat c ⟨(e, some undef) :: fr, own, shr⟩ a' w' → K a' w') : wpOp c.P ops Q i K a w := by
  have hw := wanted_undef (ops := ops) hs.2.2.1 hg hd hl
  unfold wpOp
  rw [hi]
  simp only [hw]
  rw [if_neg (by simp)]
  refine hK _ _ ?_
  rw [he]; exact Sat_put hn hs
end

theorem steps_nil {c : Cx} {ops : Array Oper} {Iv : (Nat → Bool) → Act → World → Prop} {i : Nat} : StepsL c ops Iv i [] := trivial
theorem steps_cons {c : Cx} {ops : Array Oper} {Iv : (Nat → Bool) → Act → World → Prop} {i : Nat} {p f : List Nat} {r : List (List Nat × List Nat)} (h : Step1 c ops Iv i p f) (hr : StepsL c ops Iv (i + 1) r) : StepsL c ops Iv i ((p, f) :: r) := ⟨h, hr⟩

/-! literals -/
theorem bldV {P : Program} {t : TypeId} {ps : List (Nat × Value)} {cs : Array Value} (h : P.built t ps = some cs) : BldV P t ps (.agg cs) := fun w => run_build w t ps.toArray cs h
theorem bldF {P : Program} {t e : TypeId} {sz b n : Nat} {z : Value} {ps : List (Nat × Value)} {cs : List Value} (ht : SlF P t e sz b z) (hs : n * sz ≤ 16777216)
    (hf : Instr.fill (fun i => some (i * sz, sz)) (if n * sz = 0 then #[] else (Array.range (n * sz)).map (z.cells[· % z.cells.size]!)) ps = some cs.toArray) : BldF P t n ps e cs := fun w => by
  obtain ⟨i, hi, hz, hsz, _⟩ := ht.info
  subst hsz
  have hn : ¬ n * i.size > 2 ^ 24 := by omega
  by_cases h0 : n * i.size = 0
  · rw [if_pos h0] at hf
    have e0 : Array.map (fun _ => (default : Value)) (Array.range 0) = #[] := Array.eq_empty_of_size_eq_zero (by simp)
    simp [Instr.buildSlice, run_underlying ht.und, sizeOf, typeInfo, hi, h0, newRow, e0, hf]
  · rw [if_neg h0] at hf
    simp [Instr.buildSlice, run_underlying ht.und, sizeOf, typeInfo, zeroValue, hi, hz, hn, h0, hf, newRow]

/-! results that are shared -/
theorem Ctr.sh {P : Program} {f : FuncId} {args : Array Value} {own0 : List Res} {shr0 : List Fact} {Post Post' : Value → List Res → List Fact → Prop} (hC : Ctr P f args own0 shr0 Post)
    (h : ∀ rv own shr, Post rv own shr → ∃ (l : List Res) (τ : Type) (S : Shape τ) (v : Value) (xs : List τ), own = l ++ [rowS S v xs] ∧ Post' rv l (shr ++ [Fact.sl S v xs])) : Ctr P f args own0 shr0 Post' := by
  intro R0 w0 hs h1 h2 h3 h4 h5 h6
  refine (hC R0 w0 hs h1 h2 h3 h4 h5 h6).mono ?_
  rintro e w1 ⟨rv, own1, shr1, rfl, hp, R, hs', hw⟩
  obtain ⟨l, τ, S, v, xs, rfl, hp'⟩ := h _ _ _ hp
  have hi : ((l ++ [rowS S v xs]).map some)[l.length]? = some (some (rowS S v xs)) := by simp
  have h7 := hw.retire l.length (Fact.sl S v xs) (RowRel.slice (hw.rd _) (hw.ow _ _ hi))
  refine ⟨rv, l, _, rfl, hp', _, _, h7.r0, h7.rw_, h7.sh, ?_, h7.hw, h7.dj, h7.rd, h7.new, h7.rnew, h7.size, h7.keep, h7.os, h7.tape, h7.output⟩
  intro i r hir
  refine h7.ow i r ?_
  have hlt : i < l.length := by
    have := (List.getElem?_eq_some_iff.1 hir).1
    simpa using this
  rw [List.getElem?_set_ne (by omega)]
  rw [List.map_append, List.getElem?_append_left (by simpa using hlt)]
  exact hir

/-! shapes of numbers -/
def iS : Shape Int := Shape.plain 1 false (fun x => [vI x]) (fun _ => rfl) (fun _ => rfl)
def bS : Shape Bool := Shape.plain 1 false (fun x => [vB x]) (fun _ => rfl) (fun _ => rfl)
def u32S : Shape UInt32 := Shape.plain 1 false (fun x => [vU32 x]) (fun _ => rfl) (fun _ => rfl)
def u64S : Shape UInt64 := Shape.plain 1 false (fun x => [vU64 x]) (fun _ => rfl) (fun _ => rfl)
end Go.Proofs.Ytjfdamiilndgeaa

end

section
namespace Go.Proofs.Ytjfdamiilndgeaa

/-! cheap weakening -/
/-- the slots ts of a list -/
def sel (fr : List (Nat × Option Value)) : List Nat → List (Nat × Option Value)
  | [] => []
  | t :: ts => (t, lk fr t) :: sel fr ts
theorem sel_sub (fr : List (Nat × Option Value)) : ∀ ts, FrSub fr (sel fr ts)
  | [] => trivial
  | _ :: ts => ⟨fun _ h => h, sel_sub fr ts⟩
/-- the first place of a slot -/
def fidx (d : Nat) : List (Nat × Option Value) → Option Nat
  | [] => none
  | (t, _) :: r => bif Nat.beq d t then some 0 else (fidx d r).map (· + 1)
/-- the place i of a list, laid anew -/
def setF : List (Nat × Option Value) → Nat → Nat × Option Value → List (Nat × Option Value)
  | [], _, _ => []
  | _ :: r, 0, x => x :: r
  | y :: r, i + 1, x => y :: setF r i x
theorem lk_setF {d : Nat} {v : Option Value} : ∀ {fr : List (Nat × Option Value)} {i : Nat}, fidx d fr = some i → ∀ t u, lk (setF fr i (d, v)) t = some u → lk ((d, v) :: fr) t = some u
  | [], i, h, t, u, _ => by simp [fidx] at h
  | (t', o) :: r, i, h, t, u, hl => by
    simp only [fidx] at h
    cases e : Nat.beq d t' with
    | true =>
      rw [e] at h; simp at h; subst h
      have e' := Nat.eq_of_beq_eq_true e
      subst e'
      simp only [setF, lk] at hl ⊢
      by_cases et : t = d
      · subst et; simpa using hl
      · rw [nbeq_ne et] at hl ⊢; exact hl
    | false =>
      rw [e] at h
      cases hq : fidx d r with
      | none => rw [hq] at h; simp at h
      | some j =>
        rw [hq] at h; simp at h; subst h
        have hne : d ≠ t' := fun q => by subst q; simp [Nat.beq_refl] at e
        simp only [setF, lk] at hl ⊢
        by_cases et : t = t'
        · subst et
          simp only [Nat.beq_refl, cond_true] at hl ⊢
          rw [nbeq_ne (fun q => hne q.symm)]; exact hl
        · rw [nbeq_ne et] at hl ⊢
          have := lk_setF hq t u hl
          simp only [lk] at this
          simpa only [cond_false] using this
section
variable {c : Cx} {k : List Item} {s : St} {ops : Array Oper} {rest : List Oper} {a : Act} {w : World}
theorem Sat.wkS {s : St} (h : Sat c s a w) (ts is js : List Nat) {fr' : List (Nat × Option Value)} {own' : List (Option Res)} {shr' : List Fact} (hn : nodupB is = true) (hf : sel s.fr ts = fr') (ho : pick s.own is = own') (hs : pickT s.shr js = shr') : Sat c ⟨fr', own', shr'⟩ a w :=
  h.wk is js hn (hf ▸ sel_sub s.fr ts) ho hs
theorem Tk_wkS (ts is js : List Nat) {fr' : List (Nat × Option Value)} {own' : List (Option Res)} {shr' : List Fact} (hn : nodupB is = true) (hf : sel s.fr ts = fr') (ho : pick s.own is = own') (hs : pickT s.shr js = shr') (h : Tk c k ⟨fr', own', shr'⟩) : Tk c k s :=
  fun a w hh => h a w (hh.wkS ts is js hn hf ho hs)
theorem Tk_jmpS {fr' : List (Nat × Option Value)} {own' : List (Option Res)} {shr' : List Fact} (h : Tk c k ⟨fr', own', shr'⟩) (ts is js : List Nat) (hn : nodupB is = true) (hf : sel s.fr ts = fr') (ho : pick s.own is = own') (hs : pickT s.shr js = shr') : Tk c k s := Tk_wkS ts is js hn hf ho hs h
theorem Tk_backS {σ : Type} {st : σ → St} {f : σ → Prop} (y : σ) (hf : f y) {fr' : List (Nat × Option Value)} (ts is js : List Nat) {own' : List (Option Res)} {shr' : List Fact} (hst : st y = ⟨fr', own', shr'⟩)
    (hn : nodupB is = true) (hfr : sel s.fr ts = fr') (ho : pick s.own is = own') (hs : pickT s.shr js = shr') : Tk c (.back (fun a w => ∃ y, f y ∧ Sat c (st y) a w) :: k) s :=
  Tk_backw y hf is js hst hn (hfr ▸ sel_sub s.fr ts) ho hs
theorem Tk_loopS {σ : Type} {body : Code} (ts is js : List Nat) (st : σ → St) (f : Nat → σ → Prop) (n : Nat) (x : σ) (hx : f n x) {fr' : List (Nat × Option Value)} {own' : List (Option Res)} {shr' : List Fact} (hst : st x = ⟨fr', own', shr'⟩)
    (hn : nodupB is = true) (hfr : sel s.fr ts = fr') (ho : pick s.own is = own') (hs : pickT s.shr js = shr') (h0 : ∀ x, ¬ f 0 x)
    (h : ∀ n x, f (n + 1) x → Tk c (.code body :: .back (fun a w => ∃ y, f n y ∧ Sat c (st y) a w) :: k) (st x)) : Tk c (.code (.loop body) :: k) s := by
  have h1 := Tk_loop (c := c) (k := k) st f h0 h n x hx
  rw [hst] at h1
  exact Tk_wkS ts is js hn hfr ho hs h1
/-- a slot is filled: the list is laid anew at its place -/
theorem Sat.putF {d i : Nat} {v : Value} {fr fr' : List (Nat × Option Value)} {own own' : List (Option Res)} {shr shr' : List Fact} (h : Sat c ⟨(d, some v) :: fr, own, shr⟩ a w) (hi : fidx d fr = some i) (is js : List Nat) (hf : setF fr i (d, some v) = fr') (hn : nodupB is = true) (ho : pick own is = own') (hs : pickT shr js = shr') : Sat c ⟨fr', own', shr'⟩ a w := by
  obtain ⟨h1, h2, h3, R, hs', hw⟩ := h
  refine ⟨h1, h2, ?_, ?_⟩
  · subst hf
    intro t u hl
    exact h3 t u (lk_setF hi t u hl)
  · subst ho; subst hs
    exact ⟨_, _, (hw.pick is hn (fun F hF => hF)).facts (pickT_p hw.sh)⟩
theorem Sat.sameF {fr fr' : List (Nat × Option Value)} {own own' : List (Option Res)} {shr shr' : List Fact} (h : Sat c ⟨fr, own, shr⟩ a w) (is js : List Nat) (hf : fr = fr') (hn : nodupB is = true) (ho : pick own is = own') (hs : pickT shr js = shr') : Sat c ⟨fr', own', shr'⟩ a w := by
  subst hf
  obtain ⟨h1, h2, h3, R, hs', hw⟩ := h
  subst ho; subst hs
  exact ⟨h1, h2, h3, _, _, (hw.pick is hn (fun F hF => hF)).facts (pickT_p hw.sh)⟩
def noneF : List Nat → List (Nat × Option Value)
  | [] => []
  | t :: ts => (t, none) :: noneF ts
theorem lk_noneF : ∀ (ts : List Nat) (t : Nat), lk (noneF ts) t = none
  | [], _ => rfl
  | x :: ts, t => by
    simp only [noneF, lk]
    cases Nat.beq t x with
    | true => rfl
    | false => exact lk_noneF ts t
def appF : List (Nat × Option Value) → List (Nat × Option Value) → List (Nat × Option Value)
  | [], l => l
  | x :: r, l => x :: appF r l
theorem lk_appF (ts : List Nat) : ∀ (fr : List (Nat × Option Value)) (t : Nat) (u : Value), lk (appF fr (noneF ts)) t = some u → lk fr t = some u
  | [], t, u, h => by rw [appF, lk_noneF] at h; cases h
  | (d, v) :: fr, t, u, h => by
    simp only [appF, lk] at h ⊢
    cases e : Nat.beq t d with
    | true => rw [e] at h; exact h
    | false => rw [e] at h; exact lk_appF ts fr t u h
/-- a region that draws: its first state -/
theorem Sat.startF {fr fr' : List (Nat × Option Value)} {own own' : List (Option Res)} {shr shr' : List Fact} (h : Sat c ⟨fr, own, shr⟩ a w) (ts is js : List Nat) (hf : appF fr (noneF ts) = fr') (hn : nodupB is = true) (ho : pick own is = own') (hs : pickT shr js = shr') : Sat c ⟨fr', own', shr'⟩ a w := by
  obtain ⟨h1, h2, h3, R, hs', hw⟩ := h
  refine ⟨h1, h2, ?_, ?_⟩
  · subst hf
    intro t u hl
    exact h3 t u (lk_appF ts fr t u hl)
  · subst ho; subst hs
    exact ⟨_, _, (hw.pick is hn (fun F hF => hF)).facts (pickT_p hw.sh)⟩
end

theorem rel_plainD {τ : Type} {S : Shape τ} {cells : τ → List Value} {sz : Nat} {ag : Bool} {hl : ∀ x, (cells x).length = sz} {hone : ∀ x, (cells x).all (·.oneCell') = true} (hS : S = Shape.plain sz ag cells hl hone) {xs : List τ} {css : List (List Value)} (hc : xs.map cells = css) {shr : List Fact} :
    ∀ R, (∀ F ∈ shr, F.p R) → ∀ (i : Nat) (ci : List Value) (x : τ), css[i]? = some ci → xs[i]? = some x → S.rel R ci x := by
  subst hS; subst hc; exact rel_plain

/-! equality of aggregates -/
section
variable {P : Program} {w : World} {d : Nat} {xs ys : Array Value} {r : Bool} {a b : Value}
end

section
variable {c : Cx} {k : List Item} {s : St} {o : Oper} {fr : List (Nat × Option Value)} {own : List (Option Res)} {shr : List Fact} {d : Nat} {τ : Type}
theorem OpT_makeD (S : Shape τ) {cells : τ → List Value} {sz : Nat} {ag : Bool} {hl : ∀ x, (cells x).length = sz} {hone : ∀ x, (cells x).all (·.oneCell') = true} (hS : S = Shape.plain sz ag cells hl hone) {t e : TypeId} {x y : Operand} {l m : Int} {b : Nat} {z : Value} {u : τ} (hn : Nat.blt d c.n = true) (hd : o.dst = some d) (ho : o.op = .makeSlice t x y) (hx : ev fr x = some (vI l)) (hy : ev fr y = some (vI m))
    (ht : SlF c.P t e sz b z) (hz : z.cells.toList = cells u) (hok : decide (0 ≤ l ∧ l ≤ m ∧ (b : Int) * m ≤ 140737488355328) = true) :
    OpT c o ⟨fr, own, shr⟩ (fun s => ∃ v, s = ⟨(d, some v) :: fr, own ++ [some (rowS S v (List.replicate l.toNat u))], shr⟩) := by
  subst hS; exact OpT_make hn hd ho hx hy ht hz hok
theorem OpT_loadArrD (S : Shape τ) {cells : τ → List Value} {sz : Nat} {ag : Bool} {hl : ∀ x, (cells x).length = sz} {hone : ∀ x, (cells x).all (·.oneCell') = true} (hS : S = Shape.plain sz ag cells hl hone) {f : τ → Value} (hf : ∀ x, cells x = [f x]) {t : TypeId} {x : Operand} {p : Value} {i n m : Nat} {xs : List τ} (hn : Nat.blt d c.n = true) (hd : o.dst = some d) (ho : o.op = .load t x) (hx : ev fr x = some p)
    (ht : TyF c.P t true m) (hi : shr[i]? = some (Fact.arr S p n xs)) (hm : m = n * sz) : OpT c o ⟨fr, own, shr⟩ (fun s => s = ⟨(d, some (.agg (xs.map f).toArray)) :: fr, own, shr⟩) := by
  subst hS
  have h := OpT_loadArr hn hd ho hx ht hi hm (c := c) (own := own)
  have e : (xs.map cells).flatten = xs.map f := by
    have : cells = fun x => [f x] := funext hf
    rw [this]; exact flat_one xs
  rw [e] at h; exact h
theorem OpT_storeLAA {t : TypeId} {x y : Operand} {b i n : Nat} {tb : TypeId} {f : τ → Value} {cs : List Value} {xs : List τ} (hd : o.dst = none) (ho : o.op = .store t x y) (hx : ev fr x = some (.pointer (some ⟨b, 0, none⟩))) (hy : ev fr y = some (.agg (xs.map f).toArray))
    (ht : TyF c.P t true n) (hi : own[i]? = some (some (cellsR b tb cs))) (h1 : (xs.length == n) = true) (h2 : (cs.length == n) = true) (hf : ∀ z, (f z).oneCell' = true) :
    OpT c o ⟨fr, own, shr⟩ (fun s => s = ⟨fr, own.set i (some (cellsR b tb (xs.map f))), shr⟩) := by
  have e1 := len_of h1
  have e2 := len_of h2
  refine OpT_storeC hd ho hx hy ht hi ?_ ?_ ?_ ?_
  · simp [Value.cells, e1]
  · simp [e2]
  · intro u hu
    simp [Value.cells] at hu
    obtain ⟨z, _, rfl⟩ := hu
    exact hf z
  · simp [Value.cells, e2]
end

/-- where a place of a row lies -/
def rowPtr (v : Value) (n : Nat) : Value := match v with | .slice (some a) _ _ => .pointer (some (a.add n)) | _ => undef

section
variable {c : Cx} {k : List Item} {s : St} {o : Oper} {fr : List (Nat × Option Value)} {own : List (Option Res)} {shr : List Fact} {d : Nat} {τ : Type}

theorem OpT_idxO {S : Shape τ} {t e : TypeId} {x y : Operand} {vx : Value} {i : Nat} {kk : IntKind} {m : Int} {xs : List τ} {u : τ} {b : Nat} {z : Value} (hn : Nat.blt d c.n = true) (hd : o.dst = some d) (ho : o.op = .indexAddr t x y) (hx : ev fr x = some vx) (hy : ev fr y = some (.int kk m))
    (ht : SlF c.P t e S.sz b z) (hi : own[i]? = some (some (rowS S vx xs))) (hu : ix xs m = some u) : OpT c o ⟨fr, own, shr⟩ (fun s => s = ⟨(d, some (rowPtr vx (Int.toNat m * S.sz))) :: fr, own, shr⟩) :=
  OpT_val hn hd fun a w hs => by
    obtain ⟨h0, h1, h2⟩ := ix_some hu
    obtain ⟨R, hs', hw⟩ := hs.2.2.2
    obtain ⟨css, _, _, h3⟩ := hw.ow i _ hi
    rcases h3 with ⟨_, hx0⟩ | ⟨g, cap, cur, tg, hv, _⟩
    · subst hx0; simp at h2
    · subst hv
      have hun := run_underlying ht.und w
      simp [execOp, ho, ev_eval hs.2.2.1 hx, ev_eval hs.2.2.1 hy, Instr.indexAt, asIntOf, hun, ht.sz, h0, h1, rowPtr]

/-- the block behind a row of plain data -/
theorem row_block {R h : PH} {S : Shape τ} {cells : τ → List Value} {sz : Nat} {ag : Bool} {hl : ∀ x, (cells x).length = sz} {hone : ∀ x, (cells x).all (·.oneCell') = true} (hS : S = Shape.plain sz ag cells hl hone) {v : Value} {xs : List τ} (hr : RowRel S R h v xs) (hne : xs ≠ []) :
    ∃ (g cap : Nat) (cur : Array Value) (tg : TypeId), v = .slice (some ⟨g, 0, none⟩) xs.length cap ∧ h g = some (.cells cur tg (0, 0)) ∧ xs.length ≤ cap ∧ cap ≤ maxLen ∧ cur.size = cap * sz ∧ cur.toList.take (xs.length * sz) = (xs.map cells).flatten := by
  subst hS
  obtain ⟨css, h1, h2, h3⟩ := hr
  have e := flat_map1 (R := R) (hl := hl) (hone := hone) (ag := ag) h1 h2
  subst e
  rcases h3 with ⟨_, hx⟩ | ⟨g, cap, cur, tg, a1, a2, a3, a4, a5, a6⟩
  · exact absurd hx hne
  · exact ⟨g, cap, cur, tg, a1, a2, a3, a4, a5, a6⟩
theorem row_cell {cells : τ → List Value} {sz : Nat} (hl : ∀ x, (cells x).length = sz) {xs : List τ} {cur : Array Value} (h : cur.toList.take (xs.length * sz) = (xs.map cells).flatten) {j : Nat} {u : τ} (hj : xs[j]? = some u) {q : Nat} (hq : q < sz) : cur[j * sz + q]? = (cells u)[q]? := by
  have h1 := flat_get (css := xs.map cells) (sz := sz) (fun ci hc => by obtain ⟨x, _, rfl⟩ := List.mem_map.1 hc; exact hl x) j q (cells u) (by simp [hj]) hq
  rw [← h, List.getElem?_take] at h1
  have hlt : j < xs.length := (List.getElem?_eq_some_iff.1 hj).1
  have : j * sz + q < xs.length * sz := by
    have : (j + 1) * sz ≤ xs.length * sz := Nat.mul_le_mul_right sz hlt
    rw [Nat.add_mul] at this; omega
  rw [if_pos this] at h1
  simpa using h1
theorem OpT_loadO {S : Shape τ} {cells : τ → List Value} {sz : Nat} {ag : Bool} {hl : ∀ x, (cells x).length = sz} {hone : ∀ x, (cells x).all (·.oneCell') = true} (hS : S = Shape.plain sz ag cells hl hone) {t : TypeId} {x : Operand} {i n : Nat} {m : Int} {vx v : Value} {xs : List τ} {u : τ} (hn : Nat.blt d c.n = true) (hd : o.dst = some d) (ho : o.op = .load t x) (hx : ev fr x = some (rowPtr vx (Int.toNat m * 1)))
    (ht : TyF c.P t false n) (hi : own[i]? = some (some (rowS S vx xs))) (hu : ix xs m = some u) (hv : cells u = [v]) (hsz : sz = 1) : OpT c o ⟨fr, own, shr⟩ (fun s => s = ⟨(d, some v) :: fr, own, shr⟩) :=
  OpT_val hn hd fun a w hs => by
    subst hsz
    obtain ⟨h0, h1, h2⟩ := ix_some hu
    obtain ⟨R, hs', hw⟩ := hs.2.2.2
    have hne : xs ≠ [] := by intro e; subst e; simp at h2
    obtain ⟨g, cap, cur, tg, a1, a2, a3, a4, a5, a6⟩ := row_block hS (hw.ow i _ hi) hne
    subst a1
    have hb := hw.hw i g _ a2
    have hc := row_cell hl a6 h2 (q := 0) (by decide)
    rw [hv] at hc
    have hcell : w.cell? ⟨g, m.toNat * 1, none⟩ = some v := by
      rw [cell_of_row w g _ cur tg (0, 0) hb]; simpa using hc
    have e := ev_eval hs.2.2.1 hx
    simp only [rowPtr, Addr.add_lit, Nat.zero_add] at e
    have hcell' : w.cell? ⟨g, m.toNat, none⟩ = some v := by simpa using hcell
    simp [execOp, ho, e, Instr.loadAt, Instr.sureAddr, loadVar, ht.ag, hcell']
theorem OpT_loadOA {S : Shape τ} {cells : τ → List Value} {sz : Nat} {ag : Bool} {hl : ∀ x, (cells x).length = sz} {hone : ∀ x, (cells x).all (·.oneCell') = true} (hS : S = Shape.plain sz ag cells hl hone) {t : TypeId} {x : Operand} {i : Nat} {m : Int} {vx : Value} {vs : List Value} {xs : List τ} {u : τ} (hn : Nat.blt d c.n = true) (hd : o.dst = some d) (ho : o.op = .load t x) (hx : ev fr x = some (rowPtr vx (Int.toNat m * sz)))
    (ht : TyF c.P t true sz) (hi : own[i]? = some (some (rowS S vx xs))) (hu : ix xs m = some u) (hv : cells u = vs) : OpT c o ⟨fr, own, shr⟩ (fun s => s = ⟨(d, some (.agg vs.toArray)) :: fr, own, shr⟩) :=
  OpT_val hn hd fun a w hs => by
    obtain ⟨h0, h1, h2⟩ := ix_some hu
    obtain ⟨R, hs', hw⟩ := hs.2.2.2
    have hne : xs ≠ [] := by intro e; subst e; simp at h2
    obtain ⟨g, cap, cur, tg, a1, a2, a3, a4, a5, a6⟩ := row_block hS (hw.ow i _ hi) hne
    subst a1
    have hb := hw.hw i g _ a2
    have hlen : vs.length = sz := by rw [← hv]; exact hl u
    have h3 : (loadCells ⟨g, m.toNat * sz, none⟩ sz).run c.P w = .ok vs.toArray w := by
      rw [← hlen]
      refine run_loadCells_list w _ vs ?_
      intro q z hq
      have hlt : q < sz := by rw [← hlen]; exact (List.getElem?_eq_some_iff.1 hq).1
      rw [hlen, Addr.add_lit, cell_of_row w g _ cur tg (0, 0) hb, row_cell hl a6 h2 hlt, hv]; exact hq
    have e := ev_eval hs.2.2.1 hx
    simp only [rowPtr, Addr.add_lit, Nat.zero_add] at e
    simp [execOp, ho, e, Instr.loadAt, Instr.sureAddr, loadVar, ht.ag, ht.sz, h3]

theorem flatten_set {cells : τ → List Value} {sz : Nat} (hl : ∀ x, (cells x).length = sz) : ∀ {xs : List τ} {j : Nat} (u : τ), j < xs.length → ((xs.set j u).map cells).flatten = ((xs.map cells).flatten).take (j * sz) ++ cells u ++ ((xs.map cells).flatten).drop (j * sz + sz)
  | [], j, u, h => by simp at h
  | x :: xs, 0, u, _ => by
    simp only [List.set_cons_zero, List.map_cons, List.flatten_cons, Nat.zero_mul, List.take_zero, List.nil_append, Nat.zero_add]
    rw [List.drop_left' (hl x)]
  | x :: xs, j + 1, u, h => by
    have ih := flatten_set hl (xs := xs) (j := j) u (by simpa using h)
    simp only [List.set_cons_succ, List.map_cons, List.flatten_cons, ih]
    have e1 : (j + 1) * sz = (cells x).length + j * sz := by rw [hl x, Nat.add_mul]; omega
    have e2 : (j + 1) * sz + sz = (cells x).length + (j * sz + sz) := by rw [e1]; omega
    rw [e2, e1, List.take_append, List.drop_append, List.take_of_length_le (by omega : (cells x).length ≤ (cells x).length + j * sz), List.drop_of_length_le (by omega : (cells x).length ≤ (cells x).length + (j * sz + sz))]
    simp [List.append_assoc]
theorem take_splice {α : Type} {l mid : List α} {p n m : Nat} (hm : mid.length = n) (hp : p + n ≤ m) (hl : m ≤ l.length) : (l.take p ++ mid ++ l.drop (p + n)).take m = (l.take m).take p ++ mid ++ (l.take m).drop (p + n) := by
  have h1 : (l.take p).length = p := by simp; omega
  rw [List.append_assoc, List.take_append, List.take_append, h1, hm]
  have h2 : List.take m (List.take p l) = List.take p (List.take m l) := by rw [List.take_take, List.take_take, Nat.min_comm]
  rw [h2, List.take_of_length_le (l := mid) (by omega), List.drop_take, List.append_assoc, show m - p - n = m - (p + n) by omega]
theorem OpT_storeO {S : Shape τ} {cells : τ → List Value} {sz : Nat} {ag ag' : Bool} {hl : ∀ x, (cells x).length = sz} {hone : ∀ x, (cells x).all (·.oneCell') = true} (hS : S = Shape.plain sz ag cells hl hone) {t : TypeId} {x y : Operand} {i : Nat} {m : Int} {vx v : Value} {xs : List τ} {u u0 : τ} (hd : o.dst = none) (ho : o.op = .store t x y) (hx : ev fr x = some (rowPtr vx (Int.toNat m * sz))) (hy : ev fr y = some v)
    (ht : TyF c.P t ag' sz) (hi : own[i]? = some (some (rowS S vx xs))) (hu : ix xs m = some u0) (hv : v.cells.toList = cells u) : OpT c o ⟨fr, own, shr⟩ (fun s => s = ⟨fr, own.set i (some (rowS S vx (xs.set m.toNat u))), shr⟩) :=
  OpT_skipRun hd fun a w hs => by
    obtain ⟨h0, h1, h2⟩ := ix_some hu
    obtain ⟨R, hs', hw⟩ := hs.2.2.2
    have hne : xs ≠ [] := by intro e; subst e; simp at h2
    obtain ⟨g, cap, cur, tg, a1, a2, a3, a4, a5, a6⟩ := row_block hS (hw.ow i _ hi) hne
    subst a1
    have hb := hw.hw i g _ a2
    have hlt : m.toNat < xs.length := (List.getElem?_eq_some_iff.1 h2).1
    have hfit : m.toNat * sz + sz ≤ xs.length * sz := by
      have := Nat.mul_le_mul_right sz hlt
      rw [Nat.succ_mul] at this; exact this
    have hcap : xs.length * sz ≤ cur.size := by rw [a5]; exact Nat.mul_le_mul_right sz a3
    have hst := run_storeCells_at c.P g (m.toNat * sz) tg (cells u) 0 cur w hb (by rw [hl u]; omega) (List.all_eq_true.1 (hone u))
    simp only [Nat.add_zero, hl u] at hst
    have hvs : v.cells = (cells u).toArray := by rw [← hv]
    have hsz : v.cells.size = sz := by rw [hvs]; simp [hl u]
    have e := ev_eval hs.2.2.1 hx
    simp only [rowPtr, Addr.add_lit, Nat.zero_add] at e
    refine ⟨w.setRow g (cur.toList.take (m.toNat * sz) ++ cells u ++ cur.toList.drop (m.toNat * sz + sz)).toArray, ?_, ?_⟩
    · rw [← hv] at hst
      rw [← hv]
      simp [execOp, ho, e, ev_eval hs.2.2.1 hy, Instr.storeAt, Instr.sureAddr, storeVar, ht.sz, hsz, hst]
    · have hb' := setRow_heap w g cur (cur.toList.take (m.toNat * sz) ++ cells u ++ cur.toList.drop (m.toNat * sz + sz)).toArray tg (0, 0) hb
      refine ⟨R, _, hw.upd i (PH.one g (.cells (cur.toList.take (m.toNat * sz) ++ cells u ++ cur.toList.drop (m.toNat * sz + sz)).toArray tg (0, 0))) ?_ (by simp) ?_ ?_ rfl rfl rfl (own_set ?_)⟩
      · intro b hb1 hb2
        by_cases eq : b = g
        · subst eq; rw [a2] at hb2; cases hb2
        · exact setRow_other w g b _ eq
      · intro b o' h; obtain ⟨e1, e2⟩ := PH.one_some h; subst e1; subst e2; exact hb'
      · intro b o' h; obtain ⟨e1, _⟩ := PH.one_some h; subst e1; left; rw [a2]; simp
      · subst hS
        refine ⟨(xs.set m.toNat u).map cells, by simp, ?_, .inr ⟨g, cap, _, tg, by simp, PH.one_self _ _, by simpa using a3, a4, ?_, ?_⟩⟩
        · intro j ci z p q
          simp only [List.getElem?_map, q, Option.map_some, Option.some.injEq] at p
          exact p.symm
        · have e5 : cur.toList.length = cap * sz := by simpa using a5
          simp only [List.size_toArray, List.length_append, List.length_take, List.length_drop, hl u, e5]
          show _ = cap * sz
          have : xs.length * sz ≤ cap * sz := Nat.mul_le_mul_right sz a3
          omega
        · show List.take ((xs.set m.toNat u).length * sz) _ = _
          rw [flatten_set hl u hlt, List.length_set, List.toList_toArray, take_splice (hl u) hfit (by simpa using hcap), a6]
end
end Go.Proofs.Ytjfdamiilndgeaa

end

section
namespace Go.Proofs.Ytjfdamiilndgeaa

/-- to each operation the set (as bits) of those that it waits for, directly or through others -/
def orAll (M : List Nat) : List Nat → Nat
  | [] => 0
  | q :: r => (M.getD q 0 ||| 2 ^ q) ||| orAll M r
def mkOk (ops : Array Oper) (M : List Nat) : Bool :=
  (M.length == ops.size) && (List.range ops.size).all fun i => (direct ops i).all (fun q => Nat.blt q i) && Nat.beq (M.getD i 0) (orAll M (direct ops i))
theorem orAll_bit {M : List Nat} {p : Nat} : ∀ {l : List Nat}, (orAll M l).testBit p = true → ∃ q ∈ l, q = p ∨ (M.getD q 0).testBit p = true
  | [], h => by simp [orAll] at h
  | q :: r, h => by
    simp only [orAll, Nat.testBit_or, Bool.or_eq_true] at h
    rcases h with (h | h) | h
    · exact ⟨q, by simp, .inr h⟩
    · rw [Nat.testBit_two_pow] at h
      exact ⟨q, by simp, .inl (by simpa using h)⟩
    · obtain ⟨q', h1, h2⟩ := orAll_bit h
      exact ⟨q', by simp [h1], h2⟩

section
variable {c : Cx} {ops : Array Oper} {M : List Nat} {k : List Item} {s : St}

/-- the operations below lo have come up, no other -/
def TAat (c : Cx) (ops : Array Oper) (k : List Item) (lo : Nat) (a : Act) (w : World) : Prop :=
  ∀ listed : Array Bool, listed.size = ops.size → (∀ j, j < ops.size → listed.getD j false = decide (j < lo)) → wpAny c.P .any ops (contQ c k) (ops.size - lo) listed a w
def TA (c : Cx) (ops : Array Oper) (k : List Item) (lo : Nat) (s : St) : Prop := ∀ a w, Sat c s a w → TAat c ops k lo a w

theorem Tk_drawT {id : Nat} (hm : c.P.follows .mixedOrders = true) (h : TA c ops k 0 s) : Tk c (.code (.region id ops true) :: k) s := fun a w hs => by
  show (Code.region id ops true).wp c.P (contQ c k) a w
  refine wp_region_any hm ?_
  obtain ⟨q1, q2, q3, R, hs', hw⟩ := hs
  refine h a _ ⟨q1, q2, q3, R, hs', hw.drew⟩ (Array.replicate ops.size false) (by simp) ?_
  intro j hj; simp [hj]
theorem mk_lt (h : mkOk ops M = true) {i q : Nat} (hi : i < ops.size) (hq : q ∈ direct ops i) : q < i := by
  simp only [mkOk, Bool.and_eq_true, List.all_eq_true, List.mem_range] at h
  have := (h.2 i hi).1 q hq
  exact Nat.blt_eq ▸ this
theorem mk_bit (h : mkOk ops M = true) {i p : Nat} (hi : i < ops.size) (hp : (M.getD i 0).testBit p = true) : ∃ q ∈ direct ops i, q = p ∨ (M.getD q 0).testBit p = true := by
  simp only [mkOk, Bool.and_eq_true, List.all_eq_true, List.mem_range] at h
  have := Nat.eq_of_beq_eq_true (h.2 i hi).2
  rw [this] at hp
  exact orAll_bit hp
/-- what has come up is closed: so is what is waited for -/
theorem mk_down (h : mkOk ops M = true) {L : Nat → Bool} (hcl : ∀ i, i < ops.size → L i = true → ∀ q ∈ direct ops i, L q = true) : ∀ n i, i ≤ n → i < ops.size → L i = true → ∀ p, (M.getD i 0).testBit p = true → L p = true := by
  intro n
  induction n with
  | zero =>
    intro i hin hi hl p hp
    obtain ⟨q, hq, _⟩ := mk_bit h hi hp
    have := mk_lt h hi hq; omega
  | succ n ih =>
    intro i hin hi hl p hp
    obtain ⟨q, hq, hqp⟩ := mk_bit h hi hp
    have hqi := mk_lt h hi hq
    rcases hqp with e | e
    · subst e; exact hcl i hi hl q hq
    · exact ih q (by omega) (by omega) (hcl i hi hl q hq) p e
theorem mk_ready (h : mkOk ops M = true) {L : Nat → Bool} (hcl : ∀ i, i < ops.size → L i = true → ∀ q ∈ direct ops i, L q = true) {i : Nat} (hi : i < ops.size) (hr : ∀ q ∈ direct ops i, L q = true) {p : Nat} (hp : (M.getD i 0).testBit p = true) : L p = true := by
  obtain ⟨q, hq, hqp⟩ := mk_bit h hi hp
  have hqi := mk_lt h hi hq
  rcases hqp with e | e
  · subst e; exact hr q hq
  · exact mk_down h hcl q q (Nat.le_refl _) (by omega) (hr q hq) p e

/-- all from hi on wait for all below hi -/
def cutB (M : List Nat) (hi : Nat) : Bool := (M.drop hi).all fun m => Nat.beq (m % 2 ^ hi) (2 ^ hi - 1)
theorem cut_bit {hi j q : Nat} (h : cutB M hi = true) (hj : hi ≤ j) (hjl : j < M.length) (hq : q < hi) : (M.getD j 0).testBit q = true := by
  have hm : M.getD j 0 ∈ M.drop hi := by
    have e : M.getD j 0 = M[j] := by simp [List.getD, hjl]
    rw [e]
    refine List.mem_of_getElem? (i := j - hi) ?_
    rw [List.getElem?_drop, show hi + (j - hi) = j by omega]; simp [hjl]
  have h1 := Nat.eq_of_beq_eq_true (List.all_eq_true.1 h _ hm)
  have h2 : ((M.getD j 0) % 2 ^ hi).testBit q = true := by rw [h1, Nat.testBit_two_pow_sub_one]; simpa using hq
  rw [Nat.testBit_mod_two_pow] at h2
  simp only [Bool.and_eq_true] at h2
  exact h2.2
theorem TA_end {n : Nat} (hn : ops.size = n) (h : Tk c k s) : TA c ops k n s := fun a w hs listed hsz hl => by
  have e : ops.size - n = 0 := by omega
  rw [e]
  refine ⟨?_, h a w hs⟩
  apply List.eq_nil_iff_forall_not_mem.2
  intro i hi
  obtain ⟨q1, q2, _⟩ := ready_spec hi
  have := hl i q1
  have hi' : i < listed.size := by omega
  have hlt : i < n := by omega
  simp [hi', hlt] at q2 this; rw [this] at q2; cases q2

/-- a stretch of operations from lo to hi, in any order -/
theorem TA_seg {lo hi : Nat} (htb : mkOk ops M = true) (hlh : Nat.ble lo hi = true) (hh : Nat.ble hi ops.size = true) (hcut : cutB M hi = true) (Iv : Cx → (Nat → Bool) → Act → World → Prop) (tb : List (List Nat × List Nat)) (hlen : tb.length = hi - lo)
    (hpf : ((List.range (hi - lo)).all fun i => ((tb.getD i ([], [])).1.all fun p => (M.getD (lo + i) 0).testBit p) && ((tb.getD i ([], [])).2.all fun t => (M.getD t 0).testBit (lo + i) && Nat.blt t hi)) = true)
    (h0 : ∀ a w, Sat c s a w → Iv c (fun j => Nat.blt j lo) a w) (hst : StepsL c ops (Iv c) lo tb) (he : ∀ (L : Nat → Bool) a w, (∀ i, i < hi → L i = true) → Iv c L a w → TAat c ops k hi a w) : TA c ops k lo s := by
  have hlh := Nat.le_of_ble_eq_true hlh
  have hh := Nat.le_of_ble_eq_true hh
  simp only [List.all_eq_true, Bool.and_eq_true, List.mem_range] at hpf
  have hML : M.length = ops.size := by
    simp only [mkOk, Bool.and_eq_true, beq_iff_eq] at htb; exact htb.1
  have key : ∀ (n : Nat) (listed : Array Bool) (a : Act) (w : World), listed.size = ops.size → (∀ i, i < ops.size → listed.getD i false = true → ∀ q ∈ direct ops i, listed.getD q false = true) →
      (∀ j, j < lo → listed.getD j false = true) → (∀ j, hi ≤ j → j < ops.size → listed.getD j false = false) → (listed.toList.filter (fun b => !b)).length = n + (ops.size - hi) → Iv c (fun j => listed.getD j false) a w → wpAny c.P .any ops (contQ c k) (n + (ops.size - hi)) listed a w := by
    have cnt : ∀ (l : List Bool) (h : Nat), h ≤ l.length → (∀ j, h ≤ j → j < l.length → l[j]? = some false) → (∀ i, i < h → l[i]? ≠ some false) ∨ (l.filter (fun b => !b)).length ≥ 1 + (l.length - h) := by
      intro l
      induction l with
      | nil => intro h hl _; left; intro i hi; simp at hl; omega
      | cons b l ih =>
        intro h hl hf
        cases h with
        | zero => left; intro i hi; omega
        | succ h =>
          have hf' : ∀ j, h ≤ j → j < l.length → l[j]? = some false := fun j h1 h2 => by simpa using hf (j + 1) (by omega) (by simp; omega)
          rcases ih h (by simpa using hl) hf' with hq | hq
          · cases b with
            | true =>
              left; intro i hi
              cases i with
              | zero => simp
              | succ i => simpa using hq i (by omega)
            | false =>
              right
              have h2 : (l.filter (fun b => !b)).length ≥ l.length - h := by
                have h3 : ∀ (l : List Bool) (h : Nat), (∀ j, h ≤ j → j < l.length → l[j]? = some false) → (l.filter (fun b => !b)).length ≥ l.length - h := by
                  intro l
                  induction l with
                  | nil => intro h _; simp
                  | cons b l ih2 =>
                    intro h hf
                    cases h with
                    | zero =>
                      have : b = false := by simpa using hf 0 (by omega) (by simp)
                      subst this
                      have := ih2 0 (fun j h1 h2 => by simpa using hf (j + 1) (by omega) (by simp; omega))
                      simp; omega
                    | succ h =>
                      have := ih2 h (fun j h1 h2 => by simpa using hf (j + 1) (by omega) (by simp; omega))
                      cases b <;> simp <;> omega
                exact h3 l h hf'
              simp; omega
          · right
            cases b <;> simp <;> omega
    intro n
    induction n with
    | zero =>
      intro listed a w hsz hcl hlo hhi hcount hv
      have hall : ∀ i, i < hi → listed.getD i false = true := by
        intro i hi1
        have h5 := cnt listed.toList hi (by simp; omega) (by
          intro j h1 h2
          have h3 : j < listed.size := by simpa using h2
          have := hhi j h1 (by omega)
          simp [h3] at this; simp [h3, this])
        rcases h5 with h5 | h5
        · have hi' : i < listed.size := by omega
          have := h5 i hi1
          cases e : listed.getD i false with
          | true => rfl
          | false => simp [hi'] at e this; rw [e] at this; cases this
        · simp only [Array.length_toList] at h5; omega
      rw [Nat.zero_add]
      refine he _ a w hall hv listed hsz ?_
      intro j hj
      by_cases e : j < hi
      · rw [hall j e]; simp [e]
      · rw [hhi j (by omega) hj]; simp [e]
    | succ n ih =>
      intro listed a w hsz hcl hlo hhi hcount hv
      rw [show n + 1 + (ops.size - hi) = (n + (ops.size - hi)) + 1 by omega]
      refine ⟨fun hr => ?_, fun i hi1 => ?_⟩
      · exfalso
        have hex : ∃ i, i < ops.size ∧ listed.getD i false = false := by
          have hne : listed.toList.filter (fun b => !b) ≠ [] := by intro q; rw [q] at hcount; simp at hcount; omega
          obtain ⟨b, hb⟩ := List.exists_mem_of_ne_nil _ hne
          obtain ⟨hb1, hb2⟩ := List.mem_filter.1 hb
          obtain ⟨i, hi, hib⟩ := List.mem_iff_getElem.1 hb1
          have hi' : i < listed.size := by simpa using hi
          refine ⟨i, by omega, ?_⟩
          have : listed[i] = b := by simpa using hib
          simp [hi', this]; simpa using hb2
        have hmin : ∀ n i, i ≤ n → i < ops.size → listed.getD i false = false → ∃ j, j ∈ Region.ready .any ops listed := by
          intro n
          induction n with
          | zero =>
            intro i hin hi hli
            have : i = 0 := by omega
            subst this
            refine ⟨0, ready_of hi (by have hi' : 0 < listed.size := by omega
                                       simp [hi'] at hli ⊢; exact hli) fun q hq => ?_⟩
            have := mk_lt htb hi hq; omega
          | succ n ihn =>
            intro i hin hi hli
            by_cases hd : ∀ q ∈ direct ops i, listed.getD q false = true
            · exact ⟨i, ready_of hi (by have hi' : i < listed.size := by omega
                                        simp [hi'] at hli ⊢; exact hli) hd⟩
            · have : ∃ q, q ∈ direct ops i ∧ listed.getD q false = false := by
                apply Classical.byContradiction
                intro hno
                exact hd fun q hq => by
                  cases e : listed.getD q false with
                  | true => rfl
                  | false => exact absurd ⟨q, hq, e⟩ hno
              obtain ⟨q, hq, hql⟩ := this
              have := mk_lt htb hi hq
              exact ihn q (by omega) (by omega) hql
        obtain ⟨i, hi, hli⟩ := hex
        obtain ⟨j, hj⟩ := hmin i i (Nat.le_refl _) hi hli
        rw [hr] at hj; cases hj
      · obtain ⟨q1, q2, q3⟩ := ready_spec hi1
        have hi' : i < listed.size := by omega
        have q4 : listed.getD i false = false := by simp [hi'] at q2 ⊢; exact q2
        have hilo : lo ≤ i := by
          rcases Nat.lt_or_ge i lo with h | h
          · rw [hlo i h] at q4; cases q4
          · exact h
        have hdone : ¬ (hi ≤ i) := by
          intro hge
          -- all below hi have come up: then nothing is left of the stretch
          have hall : ∀ q, q < hi → listed.getD q false = true := fun q hq => mk_ready htb hcl q1 q3 (cut_bit hcut hge (by omega) hq)
          have h6 : (listed.toList.filter (fun b => !b)).length ≤ ops.size - hi := by
            have h7 : ∀ (l : List Bool) (h : Nat), (∀ j, j < h → j < l.length → l[j]? = some true) → (l.filter (fun b => !b)).length ≤ l.length - h := by
              intro l
              induction l with
              | nil => intro h _; simp
              | cons b l ih2 =>
                intro h hf
                cases h with
                | zero => exact Nat.le_trans (List.length_filter_le _ _) (by omega)
                | succ h =>
                  have : b = true := by simpa using hf 0 (by omega) (by simp)
                  subst this
                  have := ih2 h (fun j h1 h2 => by simpa using hf (j + 1) (by omega) (by simp; omega))
                  simp; omega
            have := h7 listed.toList hi (fun j h1 h2 => by
              have h3 : j < listed.size := by simpa using h2
              have := hall j h1
              simp [h3] at this; simp [h3, this])
            simpa [hsz] using this
          omega
        have hihi : i < hi := by omega
        have hstep := hst.get (i - lo) (by omega)
        have hpfi := hpf (i - lo) (by omega)
        rw [show lo + (i - lo) = i by omega] at hstep hpfi
        have hP : ∀ p ∈ (tb.getD (i - lo) ([], [])).1, listed.getD p false = true := fun p hp => mk_ready htb hcl q1 q3 (hpfi.1 p hp)
        have hF : ∀ t ∈ (tb.getD (i - lo) ([], [])).2, listed.getD t false = false := by
          intro t ht
          have h8 := hpfi.2 t ht
          have h9 : t < hi := Nat.blt_eq ▸ h8.2
          cases e : listed.getD t false with
          | false => rfl
          | true => have := mk_down htb hcl t t (Nat.le_refl _) (by omega) e i h8.1; rw [q4] at this; cases this
        have hL : (fun j => listed.getD j false) = ovr (fun j => listed.getD j false) (tb.getD (i - lo) ([], [])).1 (i :: (tb.getD (i - lo) ([], [])).2) := by
          funext j
          simp only [ovr]
          cases h1 : memN j (tb.getD (i - lo) ([], [])).1 with
          | true => exact hP j (memN_iff.1 h1)
          | false =>
            cases h2 : memN j (i :: (tb.getD (i - lo) ([], [])).2) with
            | false => rfl
            | true =>
              rcases List.mem_cons.1 (memN_iff.1 h2) with q | q
              · subst q; exact q4
              · exact hF j q
        rw [hL] at hv
        refine hstep _ a w hv _ _ fun a' w' hv' => ?_
        have hset : ∀ j, (listed.setIfInBounds i true).getD j false = updL (fun j => listed.getD j false) i j := by
          intro j
          simp only [updL]
          by_cases e : j = i
          · subst e; simp [hi']
          · rw [nbeq_ne e]
            simp only [cond_false]
            simp only [Array.getD_eq_getD_getElem?, Array.getElem?_setIfInBounds, if_neg (fun q => e q.symm : ¬ i = j)]
        refine ih (listed.setIfInBounds i true) a' w' (by simpa using hsz) ?_ ?_ ?_ ?_ ?_
        · intro j hj hl q hq
          rw [hset] at hl ⊢
          simp only [updL] at hl ⊢
          by_cases e : j = i
          · subst e
            have := q3 q hq
            by_cases e' : q = j
            · subst e'; simp
            · rw [nbeq_ne e']; exact this
          · rw [nbeq_ne e] at hl
            have := hcl j hj hl q hq
            by_cases e' : q = i
            · subst e'; simp
            · rw [nbeq_ne e']; exact this
        · intro j hj
          rw [hset]; simp only [updL]
          rw [nbeq_ne (by omega)]; exact hlo j hj
        · intro j hj1 hj2
          rw [hset]; simp only [updL]
          rw [nbeq_ne (by omega)]; exact hhi j hj1 hj2
        · have hc2 : ∀ (l : List Bool) (i : Nat), l[i]? = some false → ((l.set i true).filter (fun b => !b)).length + 1 = (l.filter (fun b => !b)).length := by
            intro l
            induction l with
            | nil => intro i h; simp at h
            | cons b l ihl =>
              intro i h
              cases i with
              | zero => simp at h; subst h; simp
              | succ i =>
                have := ihl i (by simpa using h)
                cases b <;> simp <;> omega
          have h5 : listed.toList[i]? = some false := by
            have : listed[i]? = some false := by
              rw [Array.getElem?_eq_getElem hi']; simp [hi'] at q4; rw [q4]
            simpa using this
          have := hc2 listed.toList i h5
          rw [Array.toList_setIfInBounds]
          omega
        · have h6 : (fun j => (listed.setIfInBounds i true).getD j false) = updL (ovr (fun j => listed.getD j false) (tb.getD (i - lo) ([], [])).1 (i :: (tb.getD (i - lo) ([], [])).2)) i := by
            rw [← hL]; funext j; exact hset j
          rw [h6]; exact hv'
  intro a w hs listed hsz hl
  have e : ops.size - lo = (hi - lo) + (ops.size - hi) := by omega
  rw [e]
  refine key (hi - lo) listed a w hsz ?_ ?_ ?_ ?_ ?_
  · intro i hi1 h q hq
    have hqi := mk_lt htb hi1 hq
    rw [hl i hi1] at h
    rw [hl q (by omega)]
    simp at h ⊢; omega
  · intro j hj; rw [hl j (by omega)]; simp [hj]
  · intro j h1 h2; rw [hl j h2]; simp; omega
  · have h7 : ∀ (l : List Bool) (h : Nat), h ≤ l.length → (∀ j, j < l.length → l[j]? = some (decide (j < h))) → (l.filter (fun b => !b)).length = l.length - h := by
      intro l
      induction l with
      | nil => intro h _ _; simp
      | cons b l ih2 =>
        intro h hl hf
        cases h with
        | zero =>
          have : b = false := by simpa using hf 0 (by simp)
          subst this
          have := ih2 0 (by omega) (fun j h2 => by simpa using hf (j + 1) (by simp; omega))
          simp only [List.filter_cons, Bool.not_false, if_true, List.length_cons, Nat.sub_zero] at this ⊢; omega
        | succ h =>
          have : b = true := by simpa using hf 0 (by simp)
          subst this
          have := ih2 h (by simpa using hl) (fun j h2 => by simpa using hf (j + 1) (by simp; omega))
          simp; omega
    have := h7 listed.toList lo (by simp; omega) (fun j h2 => by
      have h3 : j < listed.size := by simpa using h2
      have := hl j (by omega)
      simp [h3] at this; simp [h3, this])
    rw [this]; simp only [Array.length_toList]; omega
  · have e9 : (fun j => listed.getD j false) = (fun j => Nat.blt j lo) := by
      funext j
      by_cases hj : j < ops.size
      · rw [hl j hj, Bool.eq_iff_iff]; simp
      · have h1 : listed.getD j false = false := by simp [show ¬ j < listed.size by omega]
        rw [h1, eq_comm]
        cases e : Nat.blt j lo with
        | false => rfl
        | true => have : j < lo := Nat.blt_eq ▸ e
                  omega
    rw [e9]; exact h0 a w hs

/-- one operation that all orders put here -/
theorem TA_op {lo : Nat} {o : Oper} {Ks : St → Prop} (htb : mkOk ops M = true) (hcut : cutB M (lo + 1) = true) (ho : ops[lo]? = some o) (hop : ∀ a w, Sat c s a w → ∀ (K : Act → World → Prop) (Q : Exit → Act → World → Prop), (∀ s', Ks s' → ∀ a' w', Sat c s' a' w' → K a' w') → wpOp c.P ops Q lo K a w) (h : ∀ s', Ks s' → TA c ops k (lo + 1) s') : TA c ops k lo s := by
  have hlt : lo < ops.size := (Array.getElem?_eq_some_iff.1 ho).1
  have hML : M.length = ops.size := by
    simp only [mkOk, Bool.and_eq_true, beq_iff_eq] at htb; exact htb.1
  intro a w hs listed hsz hl
  have hcl : ∀ i, i < ops.size → listed.getD i false = true → ∀ q ∈ direct ops i, listed.getD q false = true := by
    intro i hi1 h q hq
    have hqi := mk_lt htb hi1 hq
    rw [hl i hi1] at h
    rw [hl q (by omega)]
    simp at h ⊢; omega
  rw [show ops.size - lo = (ops.size - (lo + 1)) + 1 by omega]
  refine ⟨fun hr => ?_, fun i hi1 => ?_⟩
  · exfalso
    have : lo ∈ Region.ready .any ops listed := ready_of hlt (by
      have hi' : lo < listed.size := by omega
      have := hl lo hlt
      simp [hi'] at this ⊢; exact this) (fun q hq => by
      have := mk_lt htb hlt hq
      rw [hl q (by omega)]; simp; omega)
    rw [hr] at this; cases this
  · obtain ⟨q1, q2, q3⟩ := ready_spec hi1
    have hi' : i < listed.size := by omega
    have q4 : listed.getD i false = false := by simp [hi'] at q2 ⊢; exact q2
    rw [hl i q1] at q4
    have hge : lo ≤ i := by simp at q4; omega
    have hi0 : i = lo := by
      rcases Nat.lt_or_ge lo i with h1 | h1
      · have := mk_ready htb hcl q1 q3 (cut_bit (q := lo) hcut (by omega) (by omega) (by omega))
        rw [hl lo hlt] at this; simp at this
      · omega
    subst hi0
    refine hop a w hs _ _ fun s' hk a' w' hs' => ?_
    refine h s' hk a' w' hs' (listed.setIfInBounds i true) (by simpa using hsz) ?_
    intro j hj
    by_cases e : j = i
    · subst e; simp [hi']
    · have h0 := hl j hj
      simp only [Array.getD_eq_getD_getElem?, Array.getElem?_setIfInBounds, if_neg (fun q => e q.symm : ¬ i = j)] at h0 ⊢
      rw [h0]
      simp; omega
theorem TA_step {lo : Nat} {o : Oper} {s' : St} (htb : mkOk ops M = true) (hcut : cutB M (lo + 1) = true) (ho : ops[lo]? = some o) (hg : o.guard = none) (hop : OpT c o s (fun x => x = s')) (h : TA c ops k (lo + 1) s') : TA c ops k lo s :=
  TA_op htb hcut ho (fun a w hs K Q hK => wpOp_go ho hg hs hop hK) (fun _ e => e ▸ h)
theorem TA_ex {lo : Nat} {o : Oper} {α : Type} {f : α → St} (htb : mkOk ops M = true) (hcut : cutB M (lo + 1) = true) (ho : ops[lo]? = some o) (hg : o.guard = none) (hop : OpT c o s (fun x => ∃ y, x = f y)) (h : ∀ y, TA c ops k (lo + 1) (f y)) : TA c ops k lo s :=
  TA_op htb hcut ho (fun a w hs K Q hK => wpOp_go ho hg hs hop hK) (fun _ ⟨y, e⟩ => e ▸ h y)
theorem TA_exP {lo : Nat} {o : Oper} {Ks : St → Prop} (htb : mkOk ops M = true) (hcut : cutB M (lo + 1) = true) (ho : ops[lo]? = some o) (hg : o.guard = none) (hop : OpT c o s Ks) (h : ∀ s', Ks s' → TA c ops k (lo + 1) s') : TA c ops k lo s :=
  TA_op htb hcut ho (fun a w hs K Q hK => wpOp_go ho hg hs hop hK) h
theorem TA_yes {lo : Nat} {o : Oper} {Ks : St → Prop} {j : Nat} {b : Bool} {d : Nat} (htb : mkOk ops M = true) (hcut : cutB M (lo + 1) = true) (ho : ops[lo]? = some o) (hg : o.guard = some (j, b)) (hd : ((ops[j]?).bind (·.dst)) = some d) (hl : lk s.fr d = some (.bool b)) (hop : OpT c o s Ks) (h : ∀ s', Ks s' → TA c ops k (lo + 1) s') : TA c ops k lo s :=
  TA_op htb hcut ho (fun a w hs K Q hK => wpOp_yes ho hg hd hs hl hop hK) h
theorem TA_no {lo : Nat} {o : Oper} {j : Nat} {b : Bool} {d e : Nat} {fr : List (Nat × Option Value)} {own : List (Option Res)} {shr : List Fact} (htb : mkOk ops M = true) (hcut : cutB M (lo + 1) = true) (ho : ops[lo]? = some o) (hg : o.guard = some (j, b)) (hd : ((ops[j]?).bind (·.dst)) = some d) (hl : lk fr d = some (.bool (!b)))
    (he : o.dst = some e) (hn : Nat.blt e c.n = true) (h : TA c ops k (lo + 1) ⟨(e, some undef) :: fr, own, shr⟩) : TA c ops k lo ⟨fr, own, shr⟩ :=
  TA_op (Ks := fun x => x = ⟨(e, some undef) :: fr, own, shr⟩) htb hcut ho (fun a w hs K Q hK => wpOp_no ho hg hd hs hl he hn (fun a' w' hs' => hK _ rfl a' w' hs')) (fun _ e => e ▸ h)
theorem TA_noU {lo : Nat} {o : Oper} {j : Nat} {b : Bool} {d e : Nat} {fr : List (Nat × Option Value)} {own : List (Option Res)} {shr : List Fact} (htb : mkOk ops M = true) (hcut : cutB M (lo + 1) = true) (ho : ops[lo]? = some o) (hg : o.guard = some (j, b)) (hd : ((ops[j]?).bind (·.dst)) = some d) (hl : lk fr d = some undef)
    (he : o.dst = some e) (hn : Nat.blt e c.n = true) (h : TA c ops k (lo + 1) ⟨(e, some undef) :: fr, own, shr⟩) : TA c ops k lo ⟨fr, own, shr⟩ :=
  TA_op (Ks := fun x => x = ⟨(e, some undef) :: fr, own, shr⟩) htb hcut ho (fun a w hs K Q hK => wpOp_noU ho hg hd hs hl he hn (fun a' w' hs' => hK _ rfl a' w' hs')) (fun _ e => e ▸ h)
theorem TA_tb {lo : Nat} (M : List Nat) (h : mkOk ops M = true) (f : mkOk ops M = true → TA c ops k lo s) : TA c ops k lo s := f h
theorem TA_wkS {lo : Nat} (ts is js : List Nat) {fr' : List (Nat × Option Value)} {own' : List (Option Res)} {shr' : List Fact} (hn : nodupB is = true) (hf : sel s.fr ts = fr') (ho : pick s.own is = own') (hs : pickT s.shr js = shr') (h : TA c ops k lo ⟨fr', own', shr'⟩) : TA c ops k lo s :=
  fun a w hh => h a w (hh.wkS ts is js hn hf ho hs)
variable {fr : List (Nat × Option Value)} {own : List (Option Res)} {shr : List Fact} {τ : Type} {S : Shape τ} {lo : Nat}
theorem TA_retire {i : Nat} {v : Value} {xs : List τ} (hi : own[i]? = some (some (rowS S v xs))) (h : TA c ops k lo ⟨fr, own.set i none, shr ++ [Fact.sl S v xs]⟩) : TA c ops k lo ⟨fr, own, shr⟩ := fun a w hs => by
  obtain ⟨R, hs', hw⟩ := hs.2.2.2
  exact h a w ⟨hs.1, hs.2.1, hs.2.2.1, _, _, hw.retire i _ (RowRel.slice (hw.rd i) (hw.ow i _ hi))⟩
end
end Go.Proofs.Ytjfdamiilndgeaa

end

section
namespace Go.Proofs.Ytjfdamiilndgeaa

/-! a state seen otherwise -/
def VS (c : Cx) (s s' : St) : Prop := ∀ a w, Sat c s a w → Sat c s' a w
section
variable {c : Cx} {k : List Item} {s s' : St} {ops : Array Oper} {rest : List Oper} {lo : Nat}
theorem Tk_vs (h : VS c s s') (hk : Tk c k s') : Tk c k s := fun a w hs => hk a w (h a w hs)
theorem Tops_vs (h : VS c s s') (hk : Tops c ops k rest s') : Tops c ops k rest s := fun a w hs => hk a w (h a w hs)
theorem TA_vs (h : VS c s s') (hk : TA c ops k lo s') : TA c ops k lo s := fun a w hs => hk a w (h a w hs)
/-- a value is known by another name -/
theorem Tk_eqv {α : Type} {x y : α} (e : x = y) (f : α → St) (hk : Tk c k (f y)) : Tk c k (f x) := e ▸ hk
end

section
variable {c : Cx} {k : List Item} {s : St} {ops : Array Oper} {rest : List Oper} {o : Oper} {fr : List (Nat × Option Value)} {own : List (Option Res)} {shr : List Fact} {d : Nat} {τ σ : Type} {S : Shape τ} {S' : Shape σ}

theorem dyn_set {α : Type} {cells : α → List Value} {sz : Nat} (hl : ∀ x, (cells x).length = sz) {xs xs' : List α} {pre post cs cs' : List Value} {off : Nat} (hcs : pre ++ (xs.map cells).flatten ++ post = cs) (hcs' : pre ++ (xs'.map cells).flatten ++ post = cs') (hpre : pre.length = off) {j : Nat} {u : α} (hj : j < xs.length) (hxs : xs' = xs.set j u) :
    cs.take (off + j * sz) ++ cells u ++ cs.drop (off + j * sz + sz) = cs' := by
  subst hcs; subst hcs'; subst hpre; subst hxs
  have hll : ∀ ci ∈ xs.map cells, ci.length = sz := fun ci h => by obtain ⟨x, _, rfl⟩ := List.mem_map.1 h; exact hl x
  have hle : (j + 1) * sz ≤ xs.length * sz := Nat.mul_le_mul_right sz hj
  have hfl : ((xs.map cells).flatten).length = xs.length * sz := by rw [flat_len hll]; simp
  rw [flatten_set hl u hj]
  rw [Nat.add_mul] at hle
  rw [List.append_assoc pre, List.take_append, List.drop_append]
  rw [List.take_of_length_le (by omega : pre.length ≤ pre.length + j * sz), List.drop_of_length_le (by omega : pre.length ≤ pre.length + j * sz + sz)]
  rw [show pre.length + j * sz - pre.length = j * sz by omega, show pre.length + j * sz + sz - pre.length = j * sz + sz by omega]
  rw [List.take_append_of_le_length (by omega), List.drop_append_of_le_length (by omega)]
  simp [List.append_assoc]
theorem OpT_storeX {α : Type} (cells : α → List Value) (xs xs' : List α) (pre post : List Value) {t : TypeId} {x y : Operand} {b off i sz : Nat} {tb : TypeId} {cs cs' : List Value} {j : Int} {u : α} {v : Value} {ag : Bool} (hd : o.dst = none) (ho : o.op = .store t x y) (hx : ev fr x = some (.pointer (some ⟨b, off + Int.toNat j * sz, none⟩))) (hy : ev fr y = some v)
    (ht : TyF c.P t ag sz) (hi : own[i]? = some (some (cellsR b tb cs))) (hl : ∀ x, (cells x).length = sz) (hone : ∀ x, (cells x).all (·.oneCell') = true) (hv : v.cells.toList = cells u) (hcs : pre ++ (xs.map cells).flatten ++ post = cs) (hcs' : pre ++ (xs'.map cells).flatten ++ post = cs') (hpre : pre.length = off) (hj : decide (0 ≤ j ∧ j < (xs.length : Int)) = true) (hxs : xs' = xs.set j.toNat u) :
    OpT c o ⟨fr, own, shr⟩ (fun s => s = ⟨fr, own.set i (some (cellsR b tb cs')), shr⟩) := by
  have hj' : 0 ≤ j ∧ j < (xs.length : Int) := by simpa using hj
  have hlt : j.toNat < xs.length := by omega
  have hle : (j.toNat + 1) * sz ≤ xs.length * sz := Nat.mul_le_mul_right sz hlt
  have hll : ∀ ci ∈ xs.map cells, ci.length = sz := fun ci h => by obtain ⟨x, _, rfl⟩ := List.mem_map.1 h; exact hl x
  have hfl : ((xs.map cells).flatten).length = xs.length * sz := by rw [flat_len hll]; simp
  have hcl : off + xs.length * sz ≤ cs.length := by
    rw [← hcs]; simp only [List.length_append, hfl, hpre]; omega
  rw [Nat.add_mul] at hle
  refine OpT_storeC hd ho hx hy ht hi (by rw [hv, hl]; exact Nat.beq_refl sz) ?_ ?_ ?_
  · simp only [Nat.ble_eq]; omega
  · rw [hv]; exact List.all_eq_true.1 (hone u)
  · rw [hv]; exact dyn_set hl hcs hcs' hpre hlt hxs
/-! one more element of a row that is built -/
theorem rel_nil {xs : List τ} {css : List (List Value)} (h : xs = []) : ∀ R, (∀ F ∈ shr, F.p R) → ∀ (i : Nat) (ci : List Value) (x : τ), css[i]? = some ci → xs[i]? = some x → S.rel R ci x := rel_none h
theorem rel_cons {c0 : List Value} {x0 : τ} {xs : List τ} {css : List (List Value)} (h0 : ∀ R, (∀ F ∈ shr, F.p R) → S.rel R c0 x0) (hr : ∀ R, (∀ F ∈ shr, F.p R) → ∀ (i : Nat) (ci : List Value) (x : τ), css[i]? = some ci → xs[i]? = some x → S.rel R ci x) :
    ∀ R, (∀ F ∈ shr, F.p R) → ∀ (i : Nat) (ci : List Value) (x : τ), (c0 :: css)[i]? = some ci → (x0 :: xs)[i]? = some x → S.rel R ci x := fun R hF i ci x h1 h2 => by
  cases i with
  | zero => simp at h1 h2; subst h1; subst h2; exact h0 R hF
  | succ i => exact hr R hF i ci x (by simpa using h1) (by simpa using h2)
theorem rel_sl {i : Nat} {v : Value} {xs : List τ} (hi : shr[i]? = some (Fact.sl S v xs)) : ∀ R, (∀ F ∈ shr, F.p R) → (Shape.slice S).rel R [v] xs := fun R hF => ⟨v, rfl, hF _ (List.mem_of_getElem? hi)⟩
/-! slices and nil -/
theorem equal_nil {P : Program} {t e : TypeId} {base : Option Addr} {n cap : Nat} (ht : P.underlying t = some (.slice e)) (w : World) : (Op.equal t (.slice base n cap) (.slice none 0 0)).run P w = .ok base.isNone w := by
  show (Op.equalIn (9999 + 1) t (.slice base n cap) (.slice none 0 0)).run P w = _
  rw [Op.equalIn]
  cases base <;> simp only [Sem.run_bind, run_underlying ht, Result.andThen_ok, Sem.run_pure, Option.isNone]
def nilB (op : BinOp) (q : Bool) : Bool := match op with | .eql => q | _ => !q
theorem run_eqNil {P : Program} {t e : TypeId} {x y : Operand} {base : Option Addr} {n cap : Nat} {op : BinOp} (hop : op = .eql ∨ op = .neq) (ht : P.underlying t = some (.slice e)) : Bin P op t x y (.slice base n cap) (.slice none 0 0) (.bool (nilB op base.isNone)) := fun w => by
  have h := equal_nil (n := n) (cap := cap) (base := base) ht w
  have hg : (eqGuard op t x y (.slice base n cap) (.slice none 0 0)).run P w = .ok () w := by rcases hop with rfl | rfl <;> rfl
  rw [Sem.run_bind, hg, Result.andThen_ok]
  rcases hop with rfl | rfl
  · show (do pure (Value.bool (← Op.equal t (.slice base n cap) (.slice none 0 0))) : Sem Value).run P w = _
    rw [Sem.run_bind, h, Result.andThen_ok]; rfl
  · show (do pure (Value.bool (!(← Op.equal t (.slice base n cap) (.slice none 0 0)))) : Sem Value).run P w = _
    rw [Sem.run_bind, h, Result.andThen_ok]; rfl
theorem OpT_eqNil {t e : TypeId} {x y : Operand} {t2 : TypeId} {vx : Value} {op : BinOp} {i : Nat} {xs : List τ} (hn : Nat.blt d c.n = true) (hd : o.dst = some d) (ho : o.op = .binOp op t x y t2) (hop : op = .eql ∨ op = .neq) (hx : ev fr x = some vx) (hy : ev fr y = some (.slice none 0 0)) (ht : c.P.underlying t = some (.slice e)) (hi : shr[i]? = some (Fact.sl S vx xs)) :
    OpT c o ⟨fr, own, shr⟩ (fun s => ∃ q : Bool, (q = true → xs = []) ∧ s = ⟨(d, some (.bool (nilB op q))) :: fr, own, shr⟩) := by
  intro a w hs K Q hK
  have hu := run_underlying ht w
  obtain ⟨R, hR, base, cap, css, h1, h2, h3, h4, h5⟩ := hs.2.2.2.fact hi
  subst h1
  have hq : base.isNone = true → xs = [] := fun hb => by
    cases base with
    | some _ => simp at hb
    | none =>
      cases css with
      | nil => simp at h3; exact List.eq_nil_of_length_eq_zero h3.symm
      | cons c0 css => obtain ⟨a, e, _⟩ := h5 0 c0 rfl; cases e
  have hrun : (execOp a.eval o).run c.P w = .ok (.value (.bool (nilB op base.isNone))) w := by
    have h9 := run_eqNil (P := c.P) (x := x) (y := y) (base := base) (n := xs.length) (cap := cap) hop ht
    simp only [execOp, ho, ev_eval hs.2.2.1 hx, ev_eval hs.2.2.1 hy]
    simp only [Sem.run_bind, h9 w]; rfl
  unfold Oper.wp
  rw [hrun, Oper.upon_value, hd]
  exact hK _ ⟨base.isNone, hq, rfl⟩ _ _ (Sat_put (c := c) hn hs)
theorem OpT_eqNilN {t e : TypeId} {x y : Operand} {t2 : TypeId} {op : BinOp} (hn : Nat.blt d c.n = true) (hd : o.dst = some d) (ho : o.op = .binOp op t x y t2) (hop : op = .eql ∨ op = .neq) (hx : ev fr x = some (.slice none 0 0)) (hy : ev fr y = some (.slice none 0 0)) (ht : c.P.underlying t = some (.slice e)) :
    OpT c o ⟨fr, own, shr⟩ (fun s => s = ⟨(d, some (.bool (nilB op true))) :: fr, own, shr⟩) :=
  OpT_val hn hd fun a w hs => by
    have h9 := run_eqNil (P := c.P) (x := x) (y := y) (base := none) (n := 0) (cap := 0) hop ht
    simp only [execOp, ho, ev_eval hs.2.2.1 hx, ev_eval hs.2.2.1 hy]
    simp only [Sem.run_bind, h9 w]; rfl
theorem OpT_capN {t e : TypeId} {x : Operand} (hn : Nat.blt d c.n = true) (hd : o.dst = some d) (ho : o.op = .call { callee := .builtin .cap, args := #[x], argTypes := #[t] }) (hx : ev fr x = some (.slice none 0 0)) (ht : c.P.underlying t = some (.slice e)) :
    OpT c o ⟨fr, own, shr⟩ (fun s => s = ⟨(d, some (vI 0)) :: fr, own, shr⟩) :=
  OpT_val hn hd fun a w hs => by
    simp [execOp, ho, resolve, invoke, builtin, ev_eval hs.2.2.1 hx, Builtin.cap_, run_underlying ht, goInt]
theorem OpT_sliceN {t e : TypeId} {x hi : Operand} (hn : Nat.blt d c.n = true) (hd : o.dst = some d) (ho : o.op = .slice t x none (some hi) none) (hx : ev fr x = some (.slice none 0 0)) (hh : ev fr hi = some (vI 0)) (ht : c.P.underlying t = some (.slice e)) (hz : ∃ n, ∀ w, (sizeOf e).run c.P w = .ok n w) :
    OpT c o ⟨fr, own, shr⟩ (fun s => s = ⟨(d, some (.slice none 0 0)) :: fr, own, shr⟩) :=
  OpT_val hn hd fun a w hs => by
    obtain ⟨n, hz⟩ := hz
    simp [execOp, ho, ev_eval hs.2.2.1 hx, ev_eval hs.2.2.1 hh, Instr.sliceAt, Instr.slice, Instr.sliceBounds, Instr.sliceBound, asIntOf, run_underlying ht, hz]
/-- append(nil, make([]T, n)...) -/
theorem OpT_appendZ (S : Shape τ) {cells : τ → List Value} {sz : Nat} {ag : Bool} {hl : ∀ x, (cells x).length = sz} {hone : ∀ x, (cells x).all (·.oneCell') = true} (hS : S = Shape.plain sz ag cells hl hone) {t e t2 : TypeId} {x y : Operand} {l : Int} {b : Nat} {z : Value} {u : τ} (hn : Nat.blt d c.n = true) (hd : o.dst = some d) (ho : o.op = .call { callee := .builtin .append, args := #[x, y], argTypes := #[t, t2] }) (hx : ev fr x = some (.slice none 0 0)) (hy : ev fr y = some (vI l))
    (ht : SlF c.P t e S.sz b z) (ht2 : c.P.underlying t2 = some (.int .i64)) (hz : z.cells.toList = cells u) (hok : decide (0 ≤ l ∧ (b : Int) * l ≤ 140737488355328) = true) :
    OpT c o ⟨fr, own, shr⟩ (fun s => ∃ v, s = ⟨(d, some v) :: fr, own ++ [some (rowS S v (List.replicate l.toNat u))], shr⟩) := by
  subst hS
  refine OpT_run hn hd fun a w hs => ?_
  obtain ⟨h0, h2⟩ : 0 ≤ l ∧ (b : Int) * l ≤ 140737488355328 := by simpa using hok
  obtain ⟨ti, hti, htz, hsz, hb⟩ := ht.info
  have hbp := ht.bpos
  have hm : l ≤ 140737488355328 := by
    have h3 : l ≤ (b : Int) * l := by
      have h4 : (1 : Int) ≤ (b : Int) := by omega
      have := Int.mul_le_mul_of_nonneg_right h4 h0
      omega
    omega
  have hwr : IntKind.i64.wrap l = l := by rw [wi_wrap, wi_in (by omega) (by omega)]
  have hl0 : ¬ l < 0 := by omega
  have hl2 : ¬ (281474976710656 : Int) < l * (b : Int) := by rw [Int.mul_comm]; omega
  have hcl : (cells u).length = sz := hl u
  have hzc : z.cells = (cells u).toArray := by rw [← hz]
  by_cases hl00 : l = 0
  · subst hl00
    refine ⟨.slice none 0 0, w, .slice none 0 0, ?_, rfl, ?_⟩
    · simp [execOp, ho, resolve, invoke, builtin, ev_eval hs.2.2.1 hx, ev_eval hs.2.2.1 hy, Builtin.append_, run_underlying ht.und, run_underlying ht2, ht.sz, asInt, asIntOf, typeInfo, hti, hwr]
    · exact hs.2.2.2.nilrow _
  · have hn0 : l.toNat ≠ 0 := by omega
    have hpos : 0 < sz := ht.pos
    have hsz' : ti.size = sz := hsz
    have hk : ¬ l.toNat * sz = 0 := by rw [Nat.mul_eq_zero]; omega
    have h63' : ¬ (9223372036854775807 < ((l.toNat : Nat) : Int)) := by omega
    have hnb : l.toNat * b ≤ 140737488355328 := by
      have : ((l.toNat * b : Nat) : Int) ≤ 140737488355328 := by rw [Int.natCast_mul, Int.toNat_of_nonneg h0, Int.mul_comm]; exact h2
      omega
    have h48' : ¬ (281474976710656 < Builtin.nextslicecap l.toNat 0 * b) := by rw [nextslicecap_zero (by omega)]; omega
    have hle0 : ¬ l ≤ 0 := by omega
    have hmx : ¬ (9223372036854775807 : Int) < max l 0 := by omega
    have hrun : (execOp a.eval o).run c.P w = .ok (.value (.slice (some ⟨w.heap.size, 0, none⟩) l.toNat (grownCap w l.toNat 0 e))) (w.drew.alloc (.cells (Builtin.zeroCells z.cells l.toNat ++ Builtin.zeroCells z.cells (grownCap w l.toNat 0 e - l.toNat)) e)) := by
      simp [execOp, ho, resolve, invoke, builtin, ev_eval hs.2.2.1 hx, ev_eval hs.2.2.1 hy, Builtin.append_, run_underlying ht.und, run_underlying ht2, sizeOf, typeInfo, zeroValue, hti, htz, hsz', hb, asInt, asIntOf, hwr, hl0, hl2, hn0, hk, hl00, hle0, hmx, h63', h48', Question.forced, run_firstCells_none, newRow, grownCap, hpos]
      all_goals first | omega | skip
    refine ⟨_, _, .slice (some ⟨w.heap.size, 0, none⟩) l.toNat (grownCap w l.toNat 0 e), hrun, rfl, ?_⟩
    have hc1 := grownCap_ge w l.toNat 0 e
    have hc2 := grownCap_le_maxLen w l.toNat 0 e (by unfold maxLen; omega)
    have hzl : ∀ n, (Builtin.zeroCells z.cells n).toList = (List.replicate n (cells u)).flatten := fun n => by
      have := madeCells_flat (z := cells u) n (by rw [hcl]; exact hpos)
      rw [← this]
      simp only [Builtin.zeroCells, madeCells, hzc, List.size_toArray]
    obtain ⟨R, hs', hw⟩ := hs.2.2.2
    have h7 := HSat.newrow (S := Shape.plain sz ag cells hl hone) (own := own) (shr := shr) (w := w.drew) ⟨R, hs', hw.drew⟩ (Builtin.zeroCells z.cells l.toNat ++ Builtin.zeroCells z.cells (grownCap w l.toNat 0 e - l.toNat)) e (List.replicate l.toNat u) (List.replicate l.toNat (cells u)) (grownCap w l.toNat 0 e) (by simp)
      (fun R _ _ i ci x q1 q2 => by
        rw [List.getElem?_replicate] at q1 q2
        split at q1
        · rename_i hlt; rw [if_pos hlt] at q2; simp at q1 q2; subst q1; subst q2; rfl
        · cases q1) (by simpa using hc1) hc2 (by
        have : (Builtin.zeroCells z.cells l.toNat ++ Builtin.zeroCells z.cells (grownCap w l.toNat 0 e - l.toNat)).size = grownCap w l.toNat 0 e * sz := by
          rw [Array.size_append, size_zeroCells, size_zeroCells, ht.zsz, ← Nat.add_mul]
          congr 1; omega
        exact this) (by
        rw [Array.toList_append, hzl, List.take_left']
        rw [flat_len (sz := sz) (fun ci h => by rw [(List.mem_replicate.1 h).2, hcl])]; simp [Shape.plain])
    simpa using h7
/-- x[:m] of a row of one's own -/
theorem OpT_sliceO {t e : TypeId} {x hi : Operand} {vx : Value} {i b : Nat} {z : Value} {xs : List τ} {kh : IntKind} {m : Int} (hn : Nat.blt d c.n = true) (hd : o.dst = some d) (ho : o.op = .slice t x none (some hi) none) (hx : ev fr x = some vx) (hh : ev fr hi = some (.int kh m)) (ht : SlF c.P t e S.sz b z) (hi' : own[i]? = some (some (rowS S vx xs))) (hc : decide (0 ≤ m ∧ m ≤ len xs) = true) :
    OpT c o ⟨fr, own, shr⟩ (fun s => ∃ v, s = ⟨(d, some v) :: fr, own.set i (some (rowS S v (xs.take m.toNat))), shr⟩) :=
  OpT_run hn hd fun a w hs => by
    obtain ⟨h0, h1⟩ : 0 ≤ m ∧ m ≤ len xs := by simpa using hc
    unfold len at h1
    obtain ⟨R, hs', hw⟩ := hs.2.2.2
    obtain ⟨css, a1, a2, a3⟩ := hw.ow i _ hi'
    have hb : ∀ cap, xs.length ≤ cap → ∀ code, (Instr.sliceBound (.int kh m) cap code).run c.P w = .ok m.toNat w := fun cap hcap code => bound_ok (by omega) (by omega)
    have hlt : i < own.length := (List.getElem?_eq_some_iff.1 hi').1
    have fin : ∀ v', RowRel S R (hs' i) v' (xs.take m.toNat) → HSat c.R0 c.w0 c.B (own.set i (some (rowS S v' (xs.take m.toNat)))) shr w := fun v' hr => by
      refine ⟨R, hs', hw.r0, hw.rw_, hw.sh, ?_, hw.hw, hw.dj, hw.rd, hw.new, hw.rnew, hw.size, hw.keep, hw.os, hw.tape, hw.output⟩
      intro j r hj
      by_cases e : j = i
      · subst e; simp [hlt] at hj; subst hj; exact hr
      · rw [List.getElem?_set_ne (fun q => e q.symm)] at hj; exact hw.ow j r hj
    rcases a3 with ⟨hv, hx0⟩ | ⟨g, cap, cur, tg, hv, hg, hle, hcm, hcs, htk⟩
    · subst hv; subst hx0
      have hm0 : m = 0 := by simp at h1; omega
      subst hm0
      refine ⟨.slice none 0 0, w, .slice none 0 0, ?_, rfl, fin _ ?_⟩
      · simp [execOp, ho, ev_eval hs.2.2.1 hx, ev_eval hs.2.2.1 hh, Instr.sliceAt, Instr.slice, Instr.sliceBounds, Instr.sliceBound, asIntOf, run_underlying ht.und, ht.sz]
      · exact ⟨[], by simp, fun i ci x h => by simp at h, .inl ⟨rfl, by simp⟩⟩
    · subst hv
      refine ⟨.slice (some ⟨g, 0, none⟩) m.toNat cap, w, .slice (some ⟨g, 0, none⟩) m.toNat cap, ?_, rfl, fin _ ?_⟩
      · have hun := run_underlying ht.und w
        have hb' := hb cap hle
        by_cases hc0 : cap = 0
        · subst hc0
          simp [execOp, ho, ev_eval hs.2.2.1 hx, ev_eval hs.2.2.1 hh, Instr.sliceAt, Instr.slice, Instr.sliceBounds, hun, ht.sz, hb']
        · simp [execOp, ho, ev_eval hs.2.2.1 hx, ev_eval hs.2.2.1 hh, Instr.sliceAt, Instr.slice, Instr.sliceBounds, hun, ht.sz, hb', hc0, Addr.add_zero']
      · obtain ⟨hll, _⟩ := css_len a1 a2
        have hml : (xs.take m.toNat).length = m.toNat := by simp; omega
        refine ⟨css.take m.toNat, by simp [a1], ?_, .inr ⟨g, cap, cur, tg, by rw [hml], hg, by omega, hcm, hcs, ?_⟩⟩
        · intro j ci y q1 q2
          rw [List.getElem?_take] at q1 q2
          split at q1
          · rename_i hj; rw [if_pos hj] at q2; exact a2 j ci y q1 q2
          · cases q1
        · rw [hml]
          have h5 : (css.take m.toNat).flatten = (css.flatten).take (m.toNat * S.sz) := by
            have : css.flatten = (css.take m.toNat).flatten ++ (css.drop m.toNat).flatten := by rw [← List.flatten_append, List.take_append_drop]
            rw [this, List.take_left']
            rw [flat_len (sz := S.sz) (fun ci h => hll ci (List.mem_of_mem_take h)), List.length_take, a1, Nat.min_eq_left (by omega)]
          rw [h5, ← htk, List.take_take, Nat.min_eq_left (Nat.mul_le_mul_right _ (by omega))]

/-- a function value is made -/
theorem OpT_makeFunc {f : FuncId} {cs : Array Operand} {vs : List Value} (hn : Nat.blt d c.n = true) (hd : o.dst = some d) (ho : o.op = .makeFunc (.func f) #[] cs) (hx : evl fr cs.toList = some vs) : OpT c o ⟨fr, own, shr⟩ (fun y => y = ⟨(d, some (.func (.func f) #[] vs.toArray)) :: fr, own, shr⟩) :=
  OpT_val hn hd fun a w hs => by
    have hmap : cs.map a.eval = vs.toArray := by apply Array.ext'; simpa using evl_eval hs.2.2.1 hx
    simp [execOp, ho, hmap, Instr.makeFunc]

/-! calls that put lent parts back where they were -/
theorem OpT.vs {Ks Ks' : St → Prop} {s : St} (h : OpT c o s Ks) (hv : ∀ x, Ks x → ∃ y, Ks' y ∧ VS c x y) : OpT c o s Ks' := fun a w hs K Q hK =>
  h a w hs K Q fun x hx a' w' hs' => by
    obtain ⟨y, hy, hxy⟩ := hv x hx
    exact hK y hy a' w' (hxy a' w' hs')
theorem vs_pick (is : List Nat) {own' : List (Option Res)} (hn : nodupB is = true) (ho : pick own is = own') : VS c ⟨fr, own, shr⟩ ⟨fr, own', shr⟩ := fun a w hs => by
  obtain ⟨R, hs', hw⟩ := hs.2.2.2
  subst ho
  exact ⟨hs.1, hs.2.1, hs.2.2.1, _, _, hw.pick is hn (fun F hF => hF)⟩
theorem OpT_callP (perm : List Nat) {f : FuncId} {fx : Operand} {as : Array Operand} {ats : Array TypeId} {vs : List Value} {cp : List Value} {args : Array Value} {own0 : List Res} {shr0 : List Fact} {Post : Value → List Res → List Fact → Prop} {dd : Option Nat} (hC : Ctr c.P f args own0 shr0 Post) (is js : List Nat) (hn : dstOk dd c.n = true) (hd : o.dst = dd)
    (ho : o.op = .call { callee := .value fx, args := as, argTypes := ats }) (hfx : ev fr fx = some (.func (.func f) #[] cp.toArray)) (hvs : evl fr as.toList = some vs) (hc : Callee c.P f) (ha : args = (vs ++ cp).toArray) (hnd : nodupB is = true) (hio : pick own is = own0.map some) (hjs : pickF shr js = some shr0) (hpm : nodupB perm = true) :
    OpT c o ⟨fr, own, shr⟩ (fun s => ∃ rv own1 shr1, Post rv own1 shr1 ∧ s = ⟨putD dd rv fr, pick (clear own is ++ own1.map some) perm, shr ++ shr1⟩) :=
  (OpT_call hC is js hn hd ho hfx hvs hc ha hnd hio hjs).vs (by
    rintro x ⟨rv, own1, shr1, hp, rfl⟩
    exact ⟨_, ⟨rv, own1, shr1, hp, rfl⟩, vs_pick perm hpm rfl⟩)

/-! deferred calls -/
theorem contQ_ds (c : Cx) (ds : List Deferred) : ∀ (k : List Item), contQ { c with ds := ds } k = contQ c k
  | [] => rfl
  | .code x :: k => by rw [contQ_code, contQ_code, contQ_ds c ds k]
  | .blk id :: k => by rw [contQ_blk, contQ_blk, contQ_ds c ds k]
  | .back J :: k => by rw [contQ_back, contQ_back, contQ_ds c ds k]
  | .sc :: k => by rw [contQ_sc, contQ_sc, contQ_ds c ds k]
theorem Tops_defer {f : FuncId} {x : Operand} {cp : List Value} (hg : o.guard = none) (hd : o.dst = none) (ho : o.op = .defer { callee := .value x, args := #[], argTypes := #[] }) (hx : ev fr x = some (.func (.func f) #[] cp.toArray))
    (h : Tops { c with ds := ⟨.fn (.func f) cp.toArray, #[]⟩ :: c.ds } ops k rest ⟨fr, own, shr⟩) : Tops c ops k (o :: rest) ⟨fr, own, shr⟩ := fun a w hs =>
  wpList_plain hg fun K hK => by
    unfold Oper.wp
    have hrun : (execOp a.eval o).run c.P w = .ok (.defer ⟨.fn (.func f) cp.toArray, #[]⟩) w := by
      simp [execOp, ho, resolve, ev_eval hs.2.2.1 hx, Deferred.ofValue]
    rw [hrun, Oper.upon_defer, hd]
    refine hK _ _ ?_
    have h1 := h { a with defers := ⟨.fn (.func f) cp.toArray, #[]⟩ :: a.defers } w ⟨hs.1, by simp [hs.2.1], hs.2.2.1, hs.2.2.2⟩
    rw [contQ_ds] at h1
    exact h1
/-- the frame is left: its results -/
def Tleave (c : Cx) (fn : Func) (Post : Value → List Res → List Fact → Prop) (s : St) : Prop :=
  ∀ a w, Sat c s a w → ∃ v own1 shr1, (results fn a.tmps).run c.P w = .ok v w ∧ Post v own1 shr1 ∧ HSat c.R0 c.w0 c.B (own1.map some) shr1 w
theorem Tleave_mk {fn : Func} {Post : Value → List Res → List Fact → Prop} {v : Value} (hv : ∀ a w, Sat c ⟨fr, own, shr⟩ a w → (results fn a.tmps).run c.P w = .ok v w) (is js : List Nat) {own1 : List Res} {shr1 : List Fact} (hnd : nodupB is = true) (ho : pick own is = own1.map some) (hj : pickF shr js = some shr1) (hp : Post v own1 shr1) : Tleave c fn Post ⟨fr, own, shr⟩ :=
  fun a w hs => ⟨v, own1, shr1, hv a w hs, hp, hs.result is js own1 shr1 hnd ho hj (v := v)⟩
theorem leave_core {fn : Func} {Post Post1 : Value → List Res → List Fact → Prop} {f : FuncId} {cp : List Value} {own0 : List Res} {shr0 : List Fact} (hds : c.ds = [⟨.fn (.func f) cp.toArray, #[]⟩]) (hc : Callee c.P f) (hC : CtrD c.P f cp.toArray own0 shr0 Post1) (is js : List Nat) (hnd : nodupB is = true) (hio : pick own is = own0.map some) (hjs : pickF shr js = some shr0)
    (h : ∀ rv own1 shr1, Post1 rv own1 shr1 → Tleave c fn Post ⟨fr, clear own is ++ own1.map some, shr ++ shr1⟩) : ∀ a w, Sat c ⟨fr, own, shr⟩ a w → Leaves c.P fn a.tmps (fun e w1 => ∃ rv own1 shr1, e = .returned rv ∧ Post rv own1 shr1 ∧ HSat c.R0 c.w0 c.B (own1.map some) shr1 w1) a.defers .returning w := fun a w hs => by
  obtain ⟨R, hs', hw⟩ := hs.2.2.2
  rw [hs.2.1, hds]
  have hinv : (invoke (.fn (.func f) cp.toArray) #[]).run c.P w = .ok (.enter f cp.toArray) w := by
    have := hc cp.toArray w
    simp only [invoke, List.append_toArray, List.nil_append, this]
  refine leaves_cons (by simp) hinv ?_
  have hil : is.length = own0.length := by
    have := congrArg List.length hio
    simpa [pick] using this
  have hall : ∀ (i : Nat), (match is[i]? with | some j => hs' j | none => PH.emp : PH).inW w := fun i => by
    cases e : is[i]? with
    | some j => exact hw.hw j
    | none => intro b o hb; cases hb
  have hw2 := hw.pick is hnd (pickF_mem hjs)
  refine (hC R w (fun (i : Nat) => match is[i]? with | some j => hs' j | none => PH.emp) .returning hw.rw_ (fun F hF => hw.sh F (pickF_mem hjs F hF)) ?_ hall hw2.dj hw2.rd).mono ?_
  · intro i r hi
    refine hw2.ow i r ?_
    rw [hio]; simp [hi]
  · rintro e u' w1 ⟨rfl, rv, own1, shr1, rfl, hp, hh⟩
    dsimp only
    have hcall := hw.call is own1 own0.length hil hh
    obtain ⟨v, own2, shr2, h1, h2, h3⟩ := h rv own1 shr1 hp a w1 ⟨hs.1, hs.2.1, hs.2.2.1, hcall⟩
    exact ⟨v, h1, v, own2, shr2, rfl, h2, h3⟩
theorem Tk_retD {fn : Func} {Post Post1 : Value → List Res → List Fact → Prop} (hQ : c.Q = QRD c.P fn c.R0 c.w0 c.B Post) {f : FuncId} {cp : List Value} {own0 : List Res} {shr0 : List Fact} (hds : c.ds = [⟨.fn (.func f) cp.toArray, #[]⟩]) (hc : Callee c.P f) (hC : CtrD c.P f cp.toArray own0 shr0 Post1) (is js : List Nat) (hnd : nodupB is = true) (hio : pick own is = own0.map some) (hjs : pickF shr js = some shr0)
    (h : ∀ rv own1 shr1, Post1 rv own1 shr1 → Tleave c fn Post ⟨fr, clear own is ++ own1.map some, shr ++ shr1⟩) : Tk c (.code .ret :: k) ⟨fr, own, shr⟩ := Tk_ret fun a w hs => by
  rw [hQ]; exact leave_core hds hc hC is js hnd hio hjs h a w hs
/-- a return ahead of any deferred call -/
theorem Tk_retE {fn : Func} {Post : Value → List Res → List Fact → Prop} (hQ : c.Q = QRD c.P fn c.R0 c.w0 c.B Post) (hds : c.ds = []) (h : Tleave c fn Post ⟨fr, own, shr⟩) : Tk c (.code .ret :: k) ⟨fr, own, shr⟩ := Tk_ret fun a w hs => by
  obtain ⟨v, own2, shr2, h1, h2, h3⟩ := h a w hs
  rw [hQ]
  show Leaves c.P fn a.tmps _ a.defers .returning w
  rw [hs.2.1, hds]
  exact ⟨v, h1, v, own2, shr2, rfl, h2, h3⟩
end

/-! parts of rows of one's own -/
def subV (v : Value) (sz l h : Nat) : Value := match v with | .slice base _ cap => .slice (if cap = l then base else base.map (·.add (l * sz))) (h - l) (cap - l) | _ => undef
theorem sub_rel {τ : Type} {S : Shape τ} {R h : PH} (hd : R.disj h) {v : Value} {xs : List τ} (hr : RowRel S R h v xs) {l m : Int} (hc : decide (0 ≤ l ∧ l ≤ m ∧ m ≤ len xs) = true) : SliceRel S (R.or h) (subV v S.sz l.toNat m.toNat) (sub xs l m) := by
  obtain ⟨h0, h1, h2⟩ : 0 ≤ l ∧ l ≤ m ∧ m ≤ len xs := by simpa using hc
  unfold len at h2
  obtain ⟨base, cp, e⟩ := RowRel.val hr
  have hs := RowRel.slice hd hr
  subst e
  have hcap : xs.length ≤ cp := by
    obtain ⟨_, cap', css, e1, e2, _⟩ := hs
    simp at e1; omega
  exact SliceRel.sub hs (by omega) (by omega) (by omega : m.toNat ≤ cp)
section
variable {c : Cx} {k : List Item} {s : St} {ops : Array Oper} {rest : List Oper} {o : Oper} {fr : List (Nat × Option Value)} {own : List (Option Res)} {shr : List Fact} {d : Nat} {τ σ : Type} {S : Shape τ} {S' : Shape σ}
theorem vs_subSl {i : Nat} {v : Value} {xs : List τ} {l m : Int} (hi : shr[i]? = some (Fact.sl S v xs)) (hc : decide (0 ≤ l ∧ l ≤ m ∧ m ≤ len xs) = true) : VS c ⟨fr, own, shr⟩ ⟨fr, own, shr ++ [Fact.sl S (subV v S.sz l.toNat m.toNat) (sub xs l m)]⟩ := fun a w hs =>
  ⟨hs.1, hs.2.1, hs.2.2.1, hs.2.2.2.add _ fun R _ hF => by
    have hsl := hF _ (List.mem_of_getElem? hi)
    obtain ⟨h0, h1, h2⟩ : 0 ≤ l ∧ l ≤ m ∧ m ≤ len xs := by simpa using hc
    unfold len at h2
    have hsl' := hsl
    obtain ⟨base, cap, css, e1, e2, _⟩ := hsl'
    subst e1
    exact SliceRel.sub hsl (by omega) (by omega) (by omega : m.toNat ≤ cap)⟩
theorem OpT_subS {t e : TypeId} {x : Operand} {lo hi : Option Operand} {vx : Value} {i : Nat} {l m : Int} {xs : List τ} {b : Nat} {z : Value} (hn : Nat.blt d c.n = true) (hd : o.dst = some d) (ho : o.op = .slice t x lo hi none) (hx : ev fr x = some vx)
    (ht : SlF c.P t e S.sz b z) (hi' : own[i]? = some (some (rowS S vx xs))) (hc : decide (0 ≤ l ∧ l ≤ m ∧ m ≤ len xs) = true)
    (hb : ∀ a w cap, Fr a fr → xs.length ≤ cap → (Instr.sliceBounds true xs.length cap (lo.map a.eval) (hi.map a.eval) none).run c.P w = .ok (l.toNat, m.toNat, cap) w) :
    OpT c o ⟨fr, own, shr⟩ (fun s => s = ⟨(d, some (subV vx S.sz l.toNat m.toNat)) :: fr, own, shr⟩) :=
  OpT_val hn hd fun a w hs => by
    obtain ⟨R, hs', hw⟩ := hs.2.2.2
    have hr := hw.ow i _ hi'
    have hsl := RowRel.slice (hw.rd i) hr
    obtain ⟨base, cp, e⟩ := RowRel.val hr
    subst e
    have hcap : xs.length ≤ cp := by
      obtain ⟨_, cap', css, e1, e2, _⟩ := hsl
      simp at e1; omega
    have hu := run_underlying ht.und w
    have hbb := hb a w cp hs.2.2.1 hcap
    simp [execOp, ho, ev_eval hs.2.2.1 hx, Instr.sliceAt, Instr.slice, hu, hbb, ht.sz, subV]
variable {t e : TypeId} {x : Operand} {vx : Value} {i : Nat} {xs : List τ} {b : Nat} {z : Value} {lo hi : Operand} {kl kh : IntKind} {l m : Int}
theorem OpT_subLH (hn : Nat.blt d c.n = true) (hd : o.dst = some d) (ho : o.op = .slice t x (some lo) (some hi) none) (hx : ev fr x = some vx) (hl : ev fr lo = some (.int kl l)) (hh : ev fr hi = some (.int kh m))
    (ht : SlF c.P t e S.sz b z) (hi' : own[i]? = some (some (rowS S vx xs))) (hc : decide (0 ≤ l ∧ l ≤ m ∧ m ≤ len xs) = true) : OpT c o ⟨fr, own, shr⟩ (fun s => s = ⟨(d, some (subV vx S.sz l.toNat m.toNat)) :: fr, own, shr⟩) := by
  obtain ⟨h0, h1, h2⟩ : 0 ≤ l ∧ l ≤ m ∧ m ≤ len xs := by simpa using hc
  unfold len at h2
  refine OpT_subS hn hd ho hx ht hi' hc fun a w cap hf hcap => ?_
  have b1 : ∀ code, (Instr.sliceBound (.int kh m) cap code).run c.P w = .ok m.toNat w := fun code => bound_ok (by omega) (by omega)
  have b2 : ∀ code, (Instr.sliceBound (.int kl l) m.toNat code).run c.P w = .ok l.toNat w := fun code => bound_ok (by omega) (by omega)
  simp [Instr.sliceBounds, ev_eval hf hl, ev_eval hf hh, b1, b2]
theorem OpT_subL (hn : Nat.blt d c.n = true) (hd : o.dst = some d) (ho : o.op = .slice t x (some lo) none none) (hx : ev fr x = some vx) (hl : ev fr lo = some (.int kl l))
    (ht : SlF c.P t e S.sz b z) (hi' : own[i]? = some (some (rowS S vx xs))) (hc : decide (0 ≤ l ∧ l ≤ len xs ∧ len xs ≤ len xs) = true) : OpT c o ⟨fr, own, shr⟩ (fun s => s = ⟨(d, some (subV vx S.sz l.toNat (len xs).toNat)) :: fr, own, shr⟩) := by
  obtain ⟨h0, h1, h2⟩ : 0 ≤ l ∧ l ≤ len xs ∧ len xs ≤ len xs := by simpa using hc
  refine OpT_subS hn hd ho hx ht hi' hc fun a w cap hf hcap => ?_
  unfold len at h1 ⊢
  have b2 : ∀ code, (Instr.sliceBound (.int kl l) xs.length code).run c.P w = .ok l.toNat w := fun code => bound_ok (by omega) (by omega)
  simp [Instr.sliceBounds, ev_eval hf hl, b2]
/-- append(x, y...): both rows of one's own, or a part of such -/
theorem or_inW {R h : PH} {w : World} (h1 : R.inW w) (h2 : h.inW w) : (R.or h).inW w := fun b o hb => by
  rcases PH.or_some hb with q | q
  · exact h1 b o q
  · exact h2 b o q
theorem OpT_appendB {cells : τ → List Value} {sz : Nat} {ag : Bool} {hl : ∀ x, (cells x).length = sz} {hone : ∀ x, (cells x).all (·.oneCell') = true} (hS : S = Shape.plain sz ag cells hl hone) {t e : TypeId} {x y : Operand} {vx vy : Value} {i j b : Nat} {z : Value} {xs ys : List τ} (hn : Nat.blt d c.n = true) (hd : o.dst = some d) (ho : o.op = .call { callee := .builtin .append, args := #[x, y], argTypes := #[t, t] })
    (hx : ev fr x = some vx) (hy : ev fr y = some vy) (ht : SlF c.P t e S.sz b z) (hi : own[i]? = some (some (rowS S vx xs))) (hj : own[j]? = some (some (rowS S vy ys))) (hf : fits xs.length ys.length b = true) :
    OpT c o ⟨fr, own, shr⟩ (fun s => ∃ v, s = ⟨(d, some v) :: fr, own.set i (some (rowS S v (xs ++ ys))), shr⟩) :=
  OpT_run hn hd fun a w hs => by
    obtain ⟨R, hs', hw⟩ := hs.2.2.2
    obtain ⟨v', w', hr, hh⟩ := run_append_S (sz := 0) ht hw hi (or_inW hw.rw_ (hw.hw j)) (fun cs x h => by subst hS; exact h) (RowRel.slice (hw.rd j) (hw.ow j _ hj)) (Nat.le_of_ble_eq_true hf) o.type
    refine ⟨v', w', v', ?_, rfl, hh⟩
    simp only [execOp, ho, resolve, invoke, builtin, Sem.run_bind, Sem.run_pure, Result.andThen_ok, List.map_toArray, List.map_cons, List.map_nil, ev_eval hs.2.2.1 hx, ev_eval hs.2.2.1 hy, hr]
/-- a short array out of a slice that is read -/
theorem OpT_loadArrE (S : Shape τ) {cells : τ → List Value} {sz : Nat} {ag : Bool} {hl : ∀ x, (cells x).length = sz} {hone : ∀ x, (cells x).all (·.oneCell') = true} (hS : S = Shape.plain sz ag cells hl hone) {f : τ → Value} (hf : ∀ x, cells x = [f x]) {t : TypeId} {x : Operand} {p : Value} {i n m : Nat} {xs ys : List τ} {cs : Array Value} (hn : Nat.blt d c.n = true) (hd : o.dst = some d) (ho : o.op = .load t x) (hx : ev fr x = some p)
    (ht : TyF c.P t true m) (hi : shr[i]? = some (Fact.arr S p n xs)) (hm : m = n * sz) (hxs : xs = ys) (hcs : (ys.map f).toArray = cs) : OpT c o ⟨fr, own, shr⟩ (fun s => s = ⟨(d, some (.agg cs)) :: fr, own, shr⟩) := by
  subst hxs; subst hcs
  exact OpT_loadArrD S hS hf hn hd ho hx ht hi hm
end

/-! calls that borrow -/
def RBof (R : PH) (hs : Nat → PH) : List Nat → PH
  | [] => R
  | j :: r => (RBof R hs r).or (hs j)
theorem RBof_le {R : PH} {hs : Nat → PH} : ∀ {bs : List Nat}, R.le (RBof R hs bs)
  | [] => PH.le_refl _
  | _ :: r => PH.le_trans (RBof_le (bs := r)) PH.or_left
theorem RBof_some {R : PH} {hs : Nat → PH} {b : Nat} {o : Obj} : ∀ {bs : List Nat}, RBof R hs bs b = some o → R b = some o ∨ ∃ j, j ∈ bs ∧ hs j b = some o
  | [], h => .inl h
  | j :: r, h => by
    rcases PH.or_some h with q | q
    · rcases RBof_some (bs := r) q with q | ⟨j', h1, h2⟩
      · exact .inl q
      · exact .inr ⟨j', by simp [h1], h2⟩
    · exact .inr ⟨j, by simp, q⟩
theorem RBof_disj {R : PH} {hs : Nat → PH} (hd : ∀ i j, i ≠ j → (hs i).disj (hs j)) (hr : ∀ i, R.disj (hs i)) {bs : List Nat} {i : Nat} (hi : i ∉ bs) : (RBof R hs bs).disj (hs i) := fun b => by
  cases e : RBof R hs bs b with
  | none => exact .inl rfl
  | some o =>
    right
    rcases RBof_some e with q | ⟨j, h1, h2⟩
    · rcases hr i b with q' | q'
      · rw [q] at q'; cases q'
      · exact q'
    · rcases hd j i (fun e => hi (e ▸ h1)) b with q' | q'
      · rw [h2] at q'; cases q'
      · exact q'
theorem RBof_has {R : PH} {hs : Nat → PH} (hd : ∀ i j, i ≠ j → (hs i).disj (hs j)) (hr : ∀ i, R.disj (hs i)) : ∀ {bs : List Nat}, nodupB bs = true → ∀ j, j ∈ bs → (hs j).le (RBof R hs bs)
  | [], _, j, h => by cases h
  | i :: r, hn, j, h => by
    simp only [nodupB] at hn
    cases e : notin i r with
    | false => rw [e] at hn; cases hn
    | true =>
      rw [e] at hn
      have hni : i ∉ r := fun hm => by
        obtain ⟨q, hq⟩ := List.mem_iff_getElem?.1 hm
        exact notin_ne e q hq
      rcases List.mem_cons.1 h with q | q
      · subst q; exact PH.or_right (RBof_disj hd hr hni)
      · exact PH.le_trans (RBof_has hd hr hn j q) PH.or_left
/-- a fact that holds where parts are borrowed -/
def BorP (own : List (Option Res)) (shr : List Fact) (bs : List Nat) (F : Fact) : Prop :=
  ∀ (R : PH) (hs : Nat → PH) (RB : PH), (∀ G ∈ shr, G.p R) → (∀ (i : Nat) (r : Res), own[i]? = some (some r) → r.p R (hs i)) → (∀ i, R.disj (hs i)) → R.le RB → (∀ j, j ∈ bs → (hs j).le RB) → F.p RB
def RI (r : Res) : Prop := ∀ (R R' h : PH), r.p R h → r.p R' h
section
variable {own : List (Option Res)} {shr : List Fact} {bs : List Nat} {τ : Type} {S : Shape τ}
theorem or_le {R h RB : PH} (h1 : R.le RB) (h2 : h.le RB) : (R.or h).le RB := fun b o hb => by
  rcases PH.or_some hb with q | q
  · exact h1 b o q
  · exact h2 b o q
theorem bor_shr {F : Fact} (i : Nat) (hi : shr[i]? = some F) : BorP own shr bs F := fun _ _ _ hF _ _ hl _ => F.mono hl (hF F (List.mem_of_getElem? hi))
theorem bor_row {v : Value} {xs : List τ} (j : Nat) (hj : own[j]? = some (some (rowS S v xs))) (hm : memN j bs = true) : BorP own shr bs (Fact.sl S v xs) := fun R hs RB _ ho hd hl hb =>
  (RowRel.slice (hd j) (ho j _ hj)).mono (or_le hl (hb j (memN_iff.1 hm)))
theorem bor_sub {v : Value} {xs : List τ} {l m : Int} (j : Nat) (hj : own[j]? = some (some (rowS S v xs))) (hm : memN j bs = true) (hc : decide (0 ≤ l ∧ l ≤ m ∧ m ≤ len xs) = true) : BorP own shr bs (Fact.sl S (subV v S.sz l.toNat m.toNat) (sub xs l m)) := fun R hs RB _ ho hd hl hb =>
  (sub_rel (hd j) (ho j _ hj) hc).mono (or_le hl (hb j (memN_iff.1 hm)))
theorem bor_nil : ∀ F ∈ ([] : List Fact), BorP own shr bs F := fun F h => by cases h
theorem bor_cons {F : Fact} {l : List Fact} (h : BorP own shr bs F) (hs : ∀ G ∈ l, BorP own shr bs G) : ∀ G ∈ F :: l, BorP own shr bs G := fun G hG => by
  cases hG with
  | head => exact h
  | tail _ hm => exact hs G hm
theorem ri_row {cells : τ → List Value} {sz : Nat} {ag : Bool} {hl : ∀ x, (cells x).length = sz} {hone : ∀ x, (cells x).all (·.oneCell') = true} (hS : S = Shape.plain sz ag cells hl hone) (v : Value) (xs : List τ) : RI (rowS S v xs) := fun R R' h hr => by
  subst hS; exact hr
theorem ri_cells (b : Nat) (t : TypeId) (cs : List Value) : RI (cellsR b t cs) := fun R R' h hr => hr
theorem ri_nil : ∀ r ∈ ([] : List Res), RI r := fun F h => by cases h
theorem ri_cons {r : Res} {l : List Res} (h : RI r) (hs : ∀ G ∈ l, RI G) : ∀ G ∈ r :: l, RI G := fun G hG => by
  cases hG with
  | head => exact h
  | tail _ hm => exact hs G hm
end
open Classical in
theorem HW.callB {R0 : PH} {w0 : World} {B : Nat → Prop} {own : List (Option Res)} {shr : List Fact} {w w1 : World} {R : PH} {hs : Nat → PH} (h : HW R0 w0 B own shr w R hs) (bs is : List Nat) (hbi : ∀ j, j ∈ bs → j ∉ is) (own1 : List Res) (hri : ∀ r ∈ own1, RI r) (m : Nat) 
    (h1 : HSat (RBof R hs bs) w (fun b => ∃ i, i < m ∧ (match is[i]? with | some j => hs j | none => PH.emp) b ≠ none) (own1.map some) [] w1) : HSat R0 w0 B (clear own is ++ own1.map some) shr w1 := by
  obtain ⟨R1, g, hg⟩ := h1
  have hB1 : ∀ b, (∃ i, i < m ∧ (match is[i]? with | some j => hs j | none => PH.emp) b ≠ none) → ∃ j, j ∈ is ∧ ∃ o, hs j b = some o := by
    rintro b ⟨i, hi, hb⟩
    cases e : is[i]? with
    | none => rw [e] at hb; exact absurd rfl hb
    | some j =>
      rw [e] at hb
      refine ⟨j, List.mem_of_getElem? e, ?_⟩
      cases q : hs j b with
      | none => exact absurd q hb
      | some o => exact ⟨o, rfl⟩
  have lt_of : ∀ j b o, hs j b = some o → b < w.heap.size := fun j b o hb => (Array.getElem?_eq_some_iff.1 (h.hw j b o hb)).1
  have kept : ∀ j b o, j ∉ is → hs j b = some o → ¬ (∃ i, i < m ∧ (match is[i]? with | some j => hs j | none => PH.emp) b ≠ none) := by
    intro j b o hj hb hB
    obtain ⟨j', hj', o', ho'⟩ := hB1 b hB
    rcases h.dj j j' (fun e => hj (e ▸ hj')) b with q | q
    · rw [hb] at q; cases q
    · rw [ho'] at q; cases q
  -- what all may read afterwards: without what was borrowed
  let Rf : PH := fun b => if (∃ j, j ∈ bs ∧ hs j b ≠ none) then none else R1 b
  have Rf_le : Rf.le R1 := fun b o hb => by
    simp only [Rf] at hb
    split at hb
    · cases hb
    · exact hb
  have Rf_of : ∀ b o, R1 b = some o → (∀ j, j ∈ bs → hs j b = none) → Rf b = some o := fun b o hb hn => by
    simp only [Rf]
    rw [if_neg]
    · exact hb
    · rintro ⟨j, hj, q⟩; exact q (hn j hj)
  have R_le : R.le Rf := fun b o hb => Rf_of b o (hg.r0 b o (RBof_le b o hb)) fun j _ => by
    rcases h.rd j b with q | q
    · rw [hb] at q; cases q
    · exact q
  have Rf_no : ∀ j b, j ∈ bs → Rf b = none ∨ hs j b = none := fun j b hj => by
    by_cases q : hs j b = none
    · exact .inr q
    · left; simp only [Rf]; rw [if_pos ⟨j, hj, q⟩]
  refine ⟨Rf, fun j => if j < own.length then (if j ∈ is then PH.emp else hs j) else g (j - own.length), PH.le_trans h.r0 R_le, fun b o hb => hg.rw_ b o (Rf_le b o hb), fun F hF => F.mono R_le (h.sh F hF), ?_, ?_, ?_, ?_, ?_, ?_, Nat.le_trans h.size hg.size, ?_, hg.os.trans h.os, hg.tape.trans h.tape, hg.output.trans h.output⟩
  · intro j r hj
    by_cases hlt : j < own.length
    · rw [List.getElem?_append_left (by rw [clear_len]; exact hlt)] at hj
      obtain ⟨q1, q2⟩ := clear_at hj
      simp only [hlt, q2, if_true, if_false]
      exact r.mono R_le (h.ow j r q1)
    · rw [List.getElem?_append_right (by rw [clear_len]; omega), clear_len] at hj
      simp only [hlt, if_false]
      have := hg.ow _ r hj
      refine hri r ?_ _ _ _ this
      rw [List.getElem?_map] at hj
      cases q : own1[j - own.length]? with
      | none => rw [q] at hj; simp at hj
      | some r' => rw [q] at hj; simp at hj; subst hj; exact List.mem_of_getElem? q
  · intro j
    by_cases hlt : j < own.length
    · by_cases hj : j ∈ is
      · simp only [hlt, hj, if_true]; intro b o hb; cases hb
      · simp only [hlt, hj, if_true, if_false]
        intro b o hb
        rw [hg.keep b (lt_of j b o hb) (kept j b o hj hb)]; exact h.hw j b o hb
    · simp only [hlt, if_false]; exact hg.hw _
  · intro j l hjl
    have mixed : ∀ j l, j < own.length → j ∉ is → (hs j).disj (g l) := by
      intro j l hlt hj b
      cases hb : hs j b with
      | none => exact .inl rfl
      | some o =>
        right
        cases hb' : g l b with
        | none => rfl
        | some o' =>
          rcases hg.new l b o' hb' with q | q
          · exact absurd q (kept j b o hj hb)
          · have := lt_of j b o hb; omega
    by_cases h1 : j < own.length <;> by_cases h2 : l < own.length <;> by_cases h3 : j ∈ is <;> by_cases h4 : l ∈ is <;> simp only [h1, h2, h3, h4, if_true, if_false] <;>
      first
      | exact fun b => .inl rfl
      | exact fun b => .inr rfl
      | exact h.dj j l hjl
      | exact mixed j _ h1 h3
      | exact PH.disj_comm (mixed l _ h2 h4)
      | exact hg.dj _ _ (by omega)
  · intro j
    by_cases hlt : j < own.length
    · by_cases hj : j ∈ is
      · simp only [hlt, hj, if_true]; exact fun b => .inr rfl
      · simp only [hlt, hj, if_true, if_false]
        intro b
        by_cases hjb : j ∈ bs
        · exact Rf_no j b hjb
        · cases hb : hs j b with
          | none => exact .inr rfl
          | some o =>
            left
            cases hb' : Rf b with
            | none => rfl
            | some o' =>
              rcases hg.rnew b o' (Rf_le b o' hb') with q | q | q
              · rcases RBof_some q with q | ⟨j', hj', q⟩
                · rcases h.rd j b with q' | q'
                  · rw [q] at q'; cases q'
                  · rw [hb] at q'; cases q'
                · rcases h.dj j j' (fun e => hjb (e ▸ hj')) b with q' | q'
                  · rw [hb] at q'; cases q'
                  · rw [q] at q'; cases q'
              · exact absurd q (kept j b o hj hb)
              · have := lt_of j b o hb; omega
    · simp only [hlt, if_false]
      intro b
      rcases hg.rd (j - own.length) b with q | q
      · left
        cases hb' : Rf b with
        | none => rfl
        | some o' => rw [Rf_le b o' hb'] at q; cases q
      · exact .inr q
  · intro j b o hb
    by_cases hlt : j < own.length
    · by_cases hj : j ∈ is
      · simp only [hlt, hj, if_true] at hb; cases hb
      · simp only [hlt, hj, if_true, if_false] at hb; exact h.new j b o hb
    · simp only [hlt, if_false] at hb
      rcases hg.new _ b o hb with q | q
      · obtain ⟨j', _, o', ho'⟩ := hB1 b q
        exact h.new j' b o' ho'
      · exact .inr (Nat.le_trans h.size q)
  · intro b o hb
    rcases hg.rnew b o (Rf_le b o hb) with q | q | q
    · rcases RBof_some q with q | ⟨j', hj', q⟩
      · exact h.rnew b o q
      · exact .inr (h.new j' b o q)
    · obtain ⟨j', _, o', ho'⟩ := hB1 b q
      exact .inr (h.new j' b o' ho')
    · exact .inr (.inr (Nat.le_trans h.size q))
  · intro b hb hnB
    rw [hg.keep b (Nat.lt_of_lt_of_le hb h.size) (fun q => by
      obtain ⟨j', _, o', ho'⟩ := hB1 b q
      rcases h.new j' b o' ho' with q' | q'
      · exact hnB q'
      · omega)]
    exact h.keep b hb hnB
section
variable {c : Cx} {k : List Item} {o : Oper} {fr : List (Nat × Option Value)} {own : List (Option Res)} {shr : List Fact}
def apartB (bs is : List Nat) : Bool := bs.all fun j => notin j is
theorem apart_of {bs is : List Nat} (h : apartB bs is = true) : ∀ j, j ∈ bs → j ∉ is := fun j hj hm => by
  have := List.all_eq_true.1 h j hj
  obtain ⟨q, hq⟩ := List.mem_iff_getElem?.1 hm
  exact notin_ne this q hq
theorem OpT_callB (bs perm : List Nat) {f : FuncId} {fx : Operand} {as : Array Operand} {ats : Array TypeId} {vs : List Value} {cp : List Value} {args : Array Value} {own0 : List Res} {shr0 : List Fact} {Post : Value → List Res → List Fact → Prop} {dd : Option Nat} (hC : Ctr c.P f args own0 shr0 Post) (is : List Nat) (hn : dstOk dd c.n = true) (hd : o.dst = dd)
    (ho : o.op = .call { callee := .value fx, args := as, argTypes := ats }) (hfx : ev fr fx = some (.func (.func f) #[] cp.toArray)) (hvs : evl fr as.toList = some vs) (hc : Callee c.P f) (ha : args = (vs ++ cp).toArray) (hnd : nodupB is = true) (hio : pick own is = own0.map some) (hbs : nodupB bs = true) (hap : apartB bs is = true) (hpm : nodupB perm = true)
    (hF : ∀ F ∈ shr0, BorP own shr bs F) (hri : ∀ rv own1 shr1, Post rv own1 shr1 → shr1 = [] ∧ ∀ r ∈ own1, RI r) :
    OpT c o ⟨fr, own, shr⟩ (fun s => ∃ rv own1 shr1, Post rv own1 shr1 ∧ s = ⟨putD dd rv fr, pick (clear own is ++ own1.map some) perm, shr⟩) := by
  intro a w hs K Q hK
  have hev := hs.2.2.1
  obtain ⟨R, hs', hw⟩ := hs.2.2.2
  unfold Oper.wp
  have hmap : as.map a.eval = vs.toArray := by apply Array.ext'; simpa using evl_eval hev hvs
  have hrun : (execOp a.eval o).run c.P w = .ok (.enter f (vs.toArray ++ cp.toArray)) w := by
    have := hc (vs.toArray ++ cp.toArray) w
    simp only [List.append_toArray] at this
    simp only [execOp, ho, resolve, hmap, ev_eval hev hfx, Deferred.ofValue, Sem.run_bind, Sem.run_pure, Result.andThen_ok, invoke, List.append_toArray, List.nil_append, this]
  rw [hrun, Oper.upon_enter]
  have hall : ∀ (i : Nat), (match is[i]? with | some j => hs' j | none => PH.emp : PH).inW w := fun i => by
    cases e : is[i]? with
    | some j => exact hw.hw j
    | none => intro b o hb; cases hb
  have harg : vs.toArray ++ cp.toArray = args := by rw [ha]; simp
  rw [harg]
  have hbi := apart_of hap
  have hw2 := hw.pick is hnd (shr' := []) (fun F h => by cases h)
  have hbin : (RBof R hs' bs).inW w := fun b o hb => by
    rcases RBof_some hb with q | ⟨j, _, q⟩
    · exact hw.rw_ b o q
    · exact hw.hw j b o q
  refine (hC (RBof R hs' bs) w (fun (i : Nat) => match is[i]? with | some j => hs' j | none => PH.emp) hbin (fun F h => hF F h R hs' _ hw.sh hw.ow hw.rd RBof_le (RBof_has hw.dj hw.rd hbs)) ?_ hall hw2.dj ?_).mono ?_
  · intro i r hi
    have h3 := hw2.ow i r (by rw [hio]; simp [hi])
    exact r.mono RBof_le h3
  · intro i
    cases e : is[i]? with
    | none => exact fun b => .inr rfl
    | some j => exact RBof_disj hw.dj hw.rd (fun hm => hbi j hm (List.mem_of_getElem? e))
  · rintro e w1 ⟨rv, own1, shr1, rfl, hp, hh⟩
    dsimp only
    obtain ⟨rfl, hri'⟩ := hri _ _ _ hp
    obtain ⟨R2, hs2, hcall⟩ := hw.callB bs is hbi own1 hri' own0.length hh
    have hfin : HSat c.R0 c.w0 c.B (pick (clear own is ++ own1.map some) perm) shr w1 := ⟨_, _, hcall.pick perm hpm (fun F hF => hF)⟩
    refine hK _ ⟨rv, own1, [], hp, rfl⟩ _ _ ?_
    rw [hd]
    cases dd with
    | none => exact ⟨hs.1, hs.2.1, hs.2.2.1, hfin⟩
    | some d => exact Sat_put (c := c) hn ⟨hs.1, hs.2.1, hs.2.2.1, hfin⟩
end
end Go.Proofs.Ytjfdamiilndgeaa

end

section
namespace Go.Proofs.Ytjfdamiilndgeaa

/-- in every state that fits, v is a slice value -/
def IsSl (c : Cx) (s : St) (v : Value) : Prop := ∀ a w, Sat c s a w → ∃ base n cap, v = .slice base n cap
section
variable {c : Cx} {k : List Item} {s : St} {ops : Array Oper} {rest : List Oper} {o : Oper} {fr : List (Nat × Option Value)} {own : List (Option Res)} {shr : List Fact} {d : Nat} {τ σ : Type} {S : Shape τ} {S' : Shape σ}
theorem is_sl {i : Nat} {v : Value} {xs : List τ} (hi : shr[i]? = some (Fact.sl S v xs)) : IsSl c ⟨fr, own, shr⟩ v := fun a w hs => by
  obtain ⟨R, _, base, cap, css, e, _⟩ := hs.2.2.2.fact hi
  exact ⟨_, _, _, e⟩
theorem is_row {i : Nat} {v : Value} {xs : List τ} (hi : own[i]? = some (some (rowS S v xs))) : IsSl c ⟨fr, own, shr⟩ v := fun a w hs => by
  obtain ⟨R, hs', hw⟩ := hs.2.2.2
  obtain ⟨base, cap, e⟩ := RowRel.val (hw.ow i _ hi)
  exact ⟨_, _, _, e⟩
theorem is_sub {i l m sz : Nat} {v : Value} {xs : List τ} (hi : own[i]? = some (some (rowS S v xs))) : IsSl c ⟨fr, own, shr⟩ (subV v sz l m) := fun a w hs => by
  obtain ⟨R, hs', hw⟩ := hs.2.2.2
  obtain ⟨base, cap, e⟩ := RowRel.val (hw.ow i _ hi)
  subst e; exact ⟨_, _, _, rfl⟩
theorem OpT_storeV {t : TypeId} {x y : Operand} {b off i : Nat} {tb : TypeId} {cs cs' : List Value} {v : Value} (hd : o.dst = none) (ho : o.op = .store t x y) (hx : ev fr x = some (.pointer (some ⟨b, off, none⟩))) (hy : ev fr y = some v)
    (ht : TyF c.P t false 1) (hi : own[i]? = some (some (cellsR b tb cs))) (hv : IsSl c ⟨fr, own, shr⟩ v) (hl : Nat.ble (off + 1) cs.length = true) (hc : cs.take off ++ [v] ++ cs.drop (off + 1) = cs') :
    OpT c o ⟨fr, own, shr⟩ (fun s => s = ⟨fr, own.set i (some (cellsR b tb cs')), shr⟩) := fun a w hs => by
  obtain ⟨base, n, cap, e⟩ := hv a w hs
  have e2 : v.cells.toList = [v] := by subst e; rfl
  refine OpT_storeC hd ho hx hy ht hi (by rw [e2]; rfl) hl ?_ (by rw [e2]; exact hc) a w hs
  rw [e2]; subst e; exact one_of rfl
theorem OpT_storeA1 (F : Value → List Value) {t : TypeId} {x y : Operand} {b off i m : Nat} {tb : TypeId} {cs cs' : List Value} {v : Value} (hd : o.dst = none) (ho : o.op = .store t x y) (hx : ev fr x = some (.pointer (some ⟨b, off, none⟩))) (hy : ev fr y = some (.agg (F v).toArray))
    (ht : TyF c.P t true m) (hi : own[i]? = some (some (cellsR b tb cs))) (hv : IsSl c ⟨fr, own, shr⟩ v) (hone : ∀ p q r, (F (.slice p q r)).all (·.oneCell') = true) (hm : Nat.beq (F v).length m = true) (hl : Nat.ble (off + m) cs.length = true) (hc : cs.take off ++ F v ++ cs.drop (off + m) = cs') :
    OpT c o ⟨fr, own, shr⟩ (fun s => s = ⟨fr, own.set i (some (cellsR b tb cs')), shr⟩) := fun a w hs => by
  obtain ⟨base, n, cap, e⟩ := hv a w hs
  refine OpT_storeC hd ho hx hy ht hi hm hl ?_ hc a w hs
  subst e; exact one_of (hone base n cap)
theorem OpT_storeA2 (F : Value → Value → List Value) {t : TypeId} {x y : Operand} {b off i m : Nat} {tb : TypeId} {cs cs' : List Value} {v v' : Value} (hd : o.dst = none) (ho : o.op = .store t x y) (hx : ev fr x = some (.pointer (some ⟨b, off, none⟩))) (hy : ev fr y = some (.agg (F v v').toArray))
    (ht : TyF c.P t true m) (hi : own[i]? = some (some (cellsR b tb cs))) (hv : IsSl c ⟨fr, own, shr⟩ v) (hv' : IsSl c ⟨fr, own, shr⟩ v') (hone : ∀ p q r p' q' r', (F (.slice p q r) (.slice p' q' r')).all (·.oneCell') = true) (hm : Nat.beq (F v v').length m = true) (hl : Nat.ble (off + m) cs.length = true) (hc : cs.take off ++ F v v' ++ cs.drop (off + m) = cs') :
    OpT c o ⟨fr, own, shr⟩ (fun s => s = ⟨fr, own.set i (some (cellsR b tb cs')), shr⟩) := fun a w hs => by
  obtain ⟨base, n, cap, e⟩ := hv a w hs
  obtain ⟨base', n', cap', e'⟩ := hv' a w hs
  refine OpT_storeC hd ho hx hy ht hi hm hl ?_ hc a w hs
  subst e; subst e'; exact one_of (hone base n cap base' n' cap')
theorem OpT_build1 (G : Value → List (Nat × Value)) (F : Value → List Value) {t : TypeId} {ps : Array (Nat × Operand)} {v : Value} (hn : Nat.blt d c.n = true) (hd : o.dst = some d) (ho : o.op = .build t ps) (hx : evs fr ps.toList = some (G v)) (hv : IsSl c ⟨fr, own, shr⟩ v) (hb : ∀ p q r, c.P.built t (G (.slice p q r)) = some (F (.slice p q r)).toArray) : OpT c o ⟨fr, own, shr⟩ (fun s => s = ⟨(d, some (.agg (F v).toArray)) :: fr, own, shr⟩) := fun a w hs => by
  obtain ⟨base, n, cap, e⟩ := hv a w hs
  exact OpT_build hn hd ho hx (bldV (by subst e; exact hb base n cap)) a w hs
theorem OpT_build2 (G : Value → Value → List (Nat × Value)) (F : Value → Value → List Value) {t : TypeId} {ps : Array (Nat × Operand)} {v v' : Value} (hn : Nat.blt d c.n = true) (hd : o.dst = some d) (ho : o.op = .build t ps) (hx : evs fr ps.toList = some (G v v')) (hv : IsSl c ⟨fr, own, shr⟩ v) (hv' : IsSl c ⟨fr, own, shr⟩ v') (hb : ∀ p q r p' q' r', c.P.built t (G (.slice p q r) (.slice p' q' r')) = some (F (.slice p q r) (.slice p' q' r')).toArray) : OpT c o ⟨fr, own, shr⟩ (fun s => s = ⟨(d, some (.agg (F v v').toArray)) :: fr, own, shr⟩) := fun a w hs => by
  obtain ⟨base, n, cap, e⟩ := hv a w hs
  obtain ⟨base', n', cap', e'⟩ := hv' a w hs
  exact OpT_build hn hd ho hx (bldV (by subst e; subst e'; exact hb base n cap base' n' cap')) a w hs

/-! a row of slices that is built -/
def numb : List Value → Nat → List (Nat × Value)
  | [], _ => []
  | v :: r, i => (i, v) :: numb r (i + 1)
theorem fill_numb : ∀ (vs : List Value) (i : Nat) (cs : Array Value), (∀ v ∈ vs, v.cells = #[v]) → i + vs.length = cs.size → Instr.fill (fun i => some (i * 1, 1)) cs (numb vs i) = some (cs.toList.take i ++ vs).toArray
  | [], i, cs, _, h => by
    simp only [List.length_nil, Nat.add_zero] at h
    simp only [numb, Instr.fill, List.append_nil, Option.some.injEq]
    rw [List.take_of_length_le (by simp; omega)]
  | v :: vs, i, cs, hv, h => by
    have h1 := hv v (by simp)
    simp only [List.length_cons] at h
    have hlt : i < cs.size := by omega
    simp only [numb, Instr.fill, h1, Nat.mul_one]
    rw [if_neg (by simp; omega)]
    have h2 := fill_numb vs (i + 1) (cs.setIfInBounds i v) (fun u hu => hv u (by simp [hu])) (by simp; omega)
    have e : (#[v].zipIdx.foldl (fun cs (x : Value × Nat) => cs.setIfInBounds (i + x.2) x.1) cs) = cs.setIfInBounds i v := by simp [Array.zipIdx]
    simp only [Nat.mul_one] at h2
    rw [e, h2]
    simp only [Array.toList_setIfInBounds, Option.some.injEq]
    have e3 : (cs.toList.set i v).take (i + 1) = cs.toList.take i ++ [v] := by
      rw [List.take_succ_eq_append_getElem (by simpa using hlt)]
      simp [List.take_set_of_le]
    rw [e3, List.append_assoc]; rfl
theorem OpT_buildSl (S : Shape τ) {t e : TypeId} {n : Nat} {ps : Array (Nat × Operand)} {vs : List Value} {xs : List τ} {b : Nat} {z : Value} (hS : S.sz = 1) (hn : Nat.blt d c.n = true) (hd : o.dst = some d) (ho : o.op = .buildSlice t n ps) (hx : evs fr ps.toList = some (numb vs 0)) (ht : SlF c.P t e 1 b z)
    (hv : ∀ v ∈ vs, IsSl c ⟨fr, own, shr⟩ v) (hnv : vs.length = n) (hl : vs.length = xs.length) (hm : Nat.ble n 65536 = true) (hrel : ∀ R, (∀ F ∈ shr, F.p R) → ∀ (i : Nat) (ci : List Value) (x : τ), (vs.map fun v => [v])[i]? = some ci → xs[i]? = some x → S.rel R ci x) :
    OpT c o ⟨fr, own, shr⟩ (fun s => ∃ v, s = ⟨(d, some v) :: fr, own ++ [some (rowS S v xs)], shr⟩) := fun a w hs => by
  have hm' := Nat.le_of_ble_eq_true hm
  have hcl : ∀ v ∈ vs, v.cells = #[v] := fun v h => by
    obtain ⟨p, q, r, e⟩ := hv v h a w hs
    subst e; rfl
  have hb : BldF c.P t n (numb vs 0) e vs := by
    refine bldF ht (by omega) ?_
    have hsz : (if n * 1 = 0 then #[] else (Array.range (n * 1)).map (z.cells[· % z.cells.size]!)).size = n := by
      split
      · simp; omega
      · simp
    have := fill_numb vs 0 (if n * 1 = 0 then #[] else (Array.range (n * 1)).map (z.cells[· % z.cells.size]!)) hcl (by rw [hsz]; omega)
    simpa using this
  exact OpT_buildSlice (S := S) (xs := xs) (css := vs.map fun v => [v]) (cs := vs) hn hd ho hx hb (by simp [← List.flatMap_def]) (by simp [hl]) (by omega) (by simp only [Nat.ble_eq]; omega) hrel a w hs
theorem isl_nil : ∀ v ∈ ([] : List Value), IsSl c s v := fun v h => by cases h
theorem isl_cons {v : Value} {l : List Value} (h : IsSl c s v) (hs : ∀ u ∈ l, IsSl c s u) : ∀ u ∈ v :: l, IsSl c s u := fun u hu => by
  cases hu with
  | head => exact h
  | tail _ hm => exact hs u hm
end
end Go.Proofs.Ytjfdamiilndgeaa

end

section
namespace Go.Proofs.Ytjfdamiilndgeaa
open Go.ChangeShapes Go.WideShapes Go.ChangeAt Go.RowKit

def hp (W : World) : PH := fun b => W.heap[b]?
theorem hp_in (W : World) : (hp W).inW W := fun _ _ h => h
theorem hp_cell {W : World} {a : Addr} {v : Value} (h : W.cell? a = some v) : (hp W).cell a = some v := by
  unfold PH.cell; unfold World.cell? at h
  show (match W.heap[a.block]? with | some (.cells c _ _) => if a.spot.isSome then none else c[a.off]? | _ => none) = some v
  exact h

/-- what is of type t and read as data has the shape S -/
def Rd (P : Program) {τ : Type} (S : Shape τ) (t : TypeId) : Prop :=
  ∀ (H : Type) (enc : TypeId × Value → H) (W : World) (sp : Nat → Bool) (hd : Bool) (fuel : Nat) (cs : List Value) (y : DataW H × List MemPlace), DataW.trod enc P W 0 sp hd fuel t cs = some y → ∃ x, S.rel (hp W) cs x

section
variable {P : Program} {t e : TypeId} {τ : Type} {S : Shape τ}
theorem rd_core {k : IntKind} (ht : P.underlying t = some (.int k)) {H : Type} {enc : TypeId × Value → H} {W : World} {sp : Nat → Bool} {hd : Bool} {fuel : Nat} {cs : List Value} {y : DataW H × List MemPlace} (h : DataW.trod enc P W 0 sp hd fuel t cs = some y) : ∃ n, cs = [.int k n] ∧ (Lit.int k n).wf = true := by
  obtain ⟨n, h1, _, h2⟩ := DataW.trod_int ht h
  exact ⟨n, h1, h2⟩
theorem rd_u8 (ht : P.underlying t = some (.int .u8)) : Rd P u8S t := fun H enc W sp hd fuel cs y h => by
  obtain ⟨n, rfl, hw⟩ := rd_core ht h
  simp [Lit.wf, IntKind.min, IntKind.max, IntKind.bits, IntKind.signed] at hw
  refine ⟨UInt8.ofNat n.toNat, ?_⟩
  show [Value.int .u8 n] = [vU8 _]
  simp only [vU8, UInt8.toNat_ofNat', List.cons.injEq, and_true, Value.int.injEq, true_and]; omega
theorem rd_u32 (ht : P.underlying t = some (.int .u32)) : Rd P u32S t := fun H enc W sp hd fuel cs y h => by
  obtain ⟨n, rfl, hw⟩ := rd_core ht h
  simp [Lit.wf, IntKind.min, IntKind.max, IntKind.bits, IntKind.signed] at hw
  refine ⟨UInt32.ofNat n.toNat, ?_⟩
  show [Value.int .u32 n] = [vU32 _]
  simp only [vU32, UInt32.toNat_ofNat', List.cons.injEq, and_true, Value.int.injEq, true_and]; omega
theorem rd_u64 (ht : P.underlying t = some (.int .u64)) : Rd P u64S t := fun H enc W sp hd fuel cs y h => by
  obtain ⟨n, rfl, hw⟩ := rd_core ht h
  simp [Lit.wf, IntKind.min, IntKind.max, IntKind.bits, IntKind.signed] at hw
  refine ⟨UInt64.ofNat n.toNat, ?_⟩
  show [Value.int .u64 n] = [vU64 _]
  simp only [vU64, UInt64.toNat_ofNat', List.cons.injEq, and_true, Value.int.injEq, true_and]; omega
theorem rd_i (ht : P.underlying t = some (.int .i64)) : Rd P iS t := fun H enc W sp hd fuel cs y h => by
  obtain ⟨n, rfl, hw⟩ := rd_core ht h
  exact ⟨n, rfl⟩
theorem mapM_some {α β : Type} {f : α → Option β} : ∀ {l : List α} {r : List β}, l.mapM f = some r → ∀ (i : Nat) (x : α), l[i]? = some x → ∃ z, r[i]? = some z ∧ f x = some z
  | [], r, _, i, x, hi => by simp at hi
  | a :: l, r, h, i, x, hi => by
    simp only [List.mapM_cons, Option.bind_eq_bind, Option.pure_def] at h
    cases ha : f a with
    | none => simp [ha] at h
    | some b =>
      cases hl : l.mapM f with
      | none => simp [ha, hl] at h
      | some r' =>
        simp [ha, hl] at h
        subst h
        cases i with
        | zero => simp at hi; subst hi; exact ⟨b, rfl, ha⟩
        | succ i => simpa using mapM_some hl i x (by simpa using hi)
theorem mapM_len {α β : Type} {f : α → Option β} : ∀ {l : List α} {r : List β}, l.mapM f = some r → r.length = l.length
  | [], r, h => by simp at h; subst h; rfl
  | a :: l, r, h => by
    simp only [List.mapM_cons, Option.bind_eq_bind, Option.pure_def] at h
    cases ha : f a with
    | none => simp [ha] at h
    | some b =>
      cases hl : l.mapM f with
      | none => simp [ha, hl] at h
      | some r' => simp [ha, hl] at h; subst h; simp [mapM_len hl]
theorem two_lists {α β : Type} {Q : Nat → α → β → Prop} : ∀ (n : Nat), (∀ i, i < n → ∃ a b, Q i a b) → ∃ (as : List α) (bs : List β), as.length = n ∧ bs.length = n ∧ ∀ (i : Nat) (a : α) (b : β), as[i]? = some a → bs[i]? = some b → Q i a b
  | 0, _ => ⟨[], [], rfl, rfl, fun i a b h => by simp at h⟩
  | n + 1, h => by
    obtain ⟨as, bs, h1, h2, h3⟩ := two_lists n (fun i hi => h i (by omega))
    obtain ⟨a, b, hq⟩ := h n (by omega)
    refine ⟨as ++ [a], bs ++ [b], by simp [h1], by simp [h2], ?_⟩
    intro i a' b' ha hb
    by_cases e : i < n
    · rw [List.getElem?_append_left (by omega)] at ha hb
      exact h3 i a' b' ha hb
    · have hi : i = n := by
        have := (List.getElem?_eq_some_iff.1 ha).1
        simp at this; omega
      subst hi
      rw [List.getElem?_append_right (by omega)] at ha hb
      simp [h1, h2] at ha hb
      subst ha; subst hb; exact hq
theorem cells_at {W : World} {a : Addr} {n : Nat} {ci : List Value} (h : W.cells? 0 a n = some ci) : CellsAt (hp W) a ci := by
  unfold World.cells? at h
  rw [if_pos (Nat.zero_le _)] at h
  intro j u hj
  have hlen := mapM_len h
  have hj' : j < n := by
    have := (List.getElem?_eq_some_iff.1 hj).1
    rw [hlen] at this; simpa using this
  obtain ⟨z, hz, hf⟩ := mapM_some h j j (by simp [hj'])
  rw [hj] at hz; cases hz
  exact hp_cell hf
theorem rd_slice_aux (hz : P.cellsOf e = S.sz) (hS : Rd P S e) {H : Type} {enc : TypeId × Value → H} {W : World} {sp : Nat → Bool} {hd : Bool} {n len cap : Nat} {a : Addr} (hle : len ≤ cap)
    (hes : ∃ es, ((List.range len).mapM fun i => (W.cells? 0 (a.add (i * P.cellsOf e)) (P.cellsOf e)).bind (DataW.trod enc P W 0 sp hd n e)) = some es) : ∃ x, (Shape.slice S).rel (hp W) [.slice (some a) len cap] x := by
  obtain ⟨es, hes⟩ := hes
  rw [hz] at hes
  obtain ⟨css, xs, h1, h2, h3⟩ := two_lists (Q := fun i (ci : List Value) (x : τ) => S.rel (hp W) ci x ∧ CellsAt (hp W) (a.add (i * S.sz)) ci) len (by
    intro i hi
    obtain ⟨z, _, hf⟩ := mapM_some hes i i (by simp [hi])
    simp only [Option.bind_eq_some_iff] at hf
    obtain ⟨ci, hc, ht'⟩ := hf
    obtain ⟨x, hx⟩ := hS H enc W sp hd n ci z ht'
    exact ⟨ci, x, hx, cells_at hc⟩)
  refine ⟨xs, _, rfl, some a, cap, css, by rw [h2], by omega, by omega, fun i ci x p q => (h3 i ci x p q).1, fun i ci p => ⟨a, rfl, ?_⟩⟩
  have hlt : i < xs.length := by
    have := (List.getElem?_eq_some_iff.1 p).1
    omega
  exact (h3 i ci xs[i] p (List.getElem?_eq_getElem hlt)).2
theorem rd_slice (ht : P.underlying t = some (.slice e)) (hz : P.cellsOf e = S.sz) (hS : Rd P S e) : Rd P (Shape.slice S) t := fun H enc W sp hd fuel cs y h => by
  cases fuel with
  | zero => simp [DataW.trod] at h
  | succ n =>
    rcases cs with _ | ⟨v, _ | ⟨u, cs⟩⟩
    · simp [DataW.trod, ht] at h
    · cases v with
      | slice base len cap =>
        cases base with
        | none =>
          cases len with
          | zero =>
            cases cap with
            | zero => exact ⟨[], _, rfl, nil_rel S _⟩
            | succ _ => simp [DataW.trod, ht] at h
          | succ _ => simp [DataW.trod, ht] at h
        | some a =>
          have hex : len ≤ cap ∧ ∃ es, ((List.range len).mapM fun i => (W.cells? 0 (a.add (i * P.cellsOf e)) (P.cellsOf e)).bind (DataW.trod enc P W 0 sp hd n e)) = some es := by
            simp only [DataW.trod, ht] at h
            split at h
            · rename_i hc
              simp only [Option.bind_eq_some_iff] at h
              obtain ⟨es, h1, _⟩ := h
              exact ⟨hc.2.1, es, h1⟩
            · cases h
          exact rd_slice_aux hz hS hex.1 hex.2
      | _ => simp [DataW.trod, ht] at h
    · simp [DataW.trod, ht] at h
theorem rd_parts {fs : Array Field} (ht : P.underlying t = some (.struct fs)) {H : Type} {enc : TypeId × Value → H} {W : World} {sp : Nat → Bool} {hd : Bool} {fuel : Nat} {cs : List Value} {y : DataW H × List MemPlace} (h : DataW.trod enc P W 0 sp hd fuel t cs = some y) :
    cs.length = P.cellsOf t ∧ ∀ (i : Nat) (f : Field), fs[i]? = some f → ∃ n z, DataW.trod enc P W 0 sp hd n f.type ((cs.drop f.offset).take (P.cellsOf f.type)) = some z := by
  cases fuel with
  | zero => simp [DataW.trod] at h
  | succ n =>
    have hm : ∃ xs, cs.length = P.cellsOf t ∧ (fs.toList.mapM fun f => DataW.trod enc P W 0 sp hd n f.type ((cs.drop f.offset).take (P.cellsOf f.type))) = some xs := by
      simp only [DataW.trod, ht] at h
      split at h <;> first | (cases h; done) | skip
      all_goals simp_all
      all_goals (obtain ⟨xs, h1, _⟩ := h; exact ⟨xs, h1⟩)
    obtain ⟨xs, hl, hx⟩ := hm
    refine ⟨hl, fun i f hi => ?_⟩
    obtain ⟨z, _, hf⟩ := mapM_some hx i f (by simpa using hi)
    exact ⟨n, z, hf⟩
theorem rd_part {fs : Array Field} {H : Type} {enc : TypeId × Value → H} {W : World} {sp : Nat → Bool} {hd : Bool} {cs : List Value} (hf : ∀ (i : Nat) (f : Field), fs[i]? = some f → ∃ n z, DataW.trod enc P W 0 sp hd n f.type ((cs.drop f.offset).take (P.cellsOf f.type)) = some z)
    (i off m : Nat) {ft : TypeId} {f : Field} (hi : fs[i]? = some f) (ht : f.type = ft) (ho : f.offset = off) (hc : P.cellsOf ft = m) (hS : Rd P S ft) : ∃ x, S.rel (hp W) ((cs.drop off).take m) x := by
  obtain ⟨n, z, h⟩ := hf i f hi
  rw [ht, ho, hc] at h
  exact hS H enc W sp hd n _ z h
/-- an argument that is no aggregate -/
theorem open_one {H : Type} {enc : TypeId × Value → H} {W : World} {sp : Nat → Bool} {hd : Bool} {r : Reach} {b0 : Nat} {v : Value} {d : DataW H} {ps : List MemPlace} (hS : Rd P S t) (hag : ∀ cs, ¬ Value.okWide P W r b0 t (.agg cs)) (hval : Value.okWide P W r b0 t v) (h : DataW.Trod enc P W 0 sp hd t v d ps) : ∃ x, S.rel (hp W) [v] x := by
  obtain ⟨fuel, hf⟩ := h
  have hc : v.cells.toList = [v] := by
    cases v <;> first | rfl | exact absurd hval (hag _)
  rw [hc] at hf
  exact hS H enc W sp hd fuel _ _ hf
theorem open_agg {H : Type} {enc : TypeId × Value → H} {W : World} {sp : Nat → Bool} {hd : Bool} {v : Value} {d : DataW H} {ps : List MemPlace} (hS : Rd P S t) (hag : ∃ cs, v = .agg cs) (h : DataW.Trod enc P W 0 sp hd t v d ps) : ∃ x cs, v = .agg cs.toArray ∧ S.rel (hp W) cs x := by
  obtain ⟨fuel, hf⟩ := h
  obtain ⟨cs, rfl⟩ := hag
  obtain ⟨x, hx⟩ := hS H enc W sp hd fuel _ _ hf
  exact ⟨x, cs.toList, by simp, hx⟩
theorem noagg_int {k : IntKind} (ht : P.underlying t = some (.int k)) {W : World} {r : Reach} {b0 : Nat} : ∀ cs, ¬ Value.okWide P W r b0 t (.agg cs) := fun cs h => by
  simp [Value.okWide, ht, Cell.okWide, Cell.ok] at h
theorem noagg_slice (ht : P.underlying t = some (.slice e)) {W : World} {r : Reach} {b0 : Nat} : ∀ cs, ¬ Value.okWide P W r b0 t (.agg cs) := fun cs h => by
  simp [Value.okWide, ht, Cell.okWide, Cell.ok] at h
theorem agg_struct {fs : Array Field} (ht : P.underlying t = some (.struct fs)) {W : World} {r : Reach} {b0 : Nat} {v : Value} (h : Value.okWide P W r b0 t v) : ∃ cs, v = .agg cs := by
  simp [Value.okWide, ht] at h
  obtain ⟨cs, e, _⟩ := h; exact ⟨cs, e⟩
theorem args_list {H : Type} {enc : TypeId × Value → H} {W : World} {b : Nat} {sp : Nat → Bool} {hd : Bool} {ts : List TypeId} {args : Array Value} {ds : List (DataW H)} {ps : List MemPlace} (h : DataW.TrodAll enc P W b sp hd ts args.toList ds ps) : ∃ vs : List Value, args = vs.toArray ∧ DataW.TrodAll enc P W b sp hd ts vs ds ps := ⟨args.toList, by simp, h⟩
theorem facts_nil {R : PH} : ∀ F ∈ ([] : List Fact), F.p R := fun F h => by cases h
theorem facts_cons {R : PH} {F : Fact} {l : List Fact} (h : F.p R) (hs : ∀ G ∈ l, G.p R) : ∀ G ∈ F :: l, G.p R := fun G hG => by
  cases hG with
  | head => exact h
  | tail _ hm => exact hs G hm

/-! behind the call -/
theorem kept_all {W W' : World} {may : MemPlace → Prop} (hb : Below W.heap.size W W') : W.keptBut W' may := by
  refine ⟨hb.os, hb.output, fun i hi => ?_⟩
  rw [hb.block i hi]
  cases W.heap[i]? with
  | none => rfl
  | some o => cases o <;> simp
theorem args_stay {H : Type} {enc : TypeId × Value → H} (hl : laidOutB P = true) {W W' : World} (hb : Below W.heap.size W W') : ∀ {ts : List TypeId} {vs : List Value} {ds : List (DataW H)} {ps : List MemPlace}, (ts.all fun t => P.readableRec t && decide (t < P.types.size)) = true →
    DataW.TrodAll enc P W 0 (fun _ => true) true ts vs ds ps → (∀ x ∈ ps, x.block < W.heap.size) → DataW.TrodAll enc P W' 0 (fun b => decide (b < W.heap.size)) true ts vs ds ps
  | [], [], [], ps, _, h, _ => h
  | t :: ts, v :: vs, d :: ds, ps, hr, h, hlt => by
    obtain ⟨p, q, h1, h2, rfl⟩ := h
    simp only [List.all_cons, Bool.and_eq_true, decide_eq_true_eq] at hr
    exact ⟨p, q, Below.trod hl hr.1.1 hr.1.2 h1 hb (fun x hx => hlt x (by simp [hx])), args_stay hl hb hr.2 h2 (fun x hx => hlt x (by simp [hx])), rfl⟩
  | [], _ :: _, _, _, _, h, _ => by simp [DataW.TrodAll] at h
  | [], [], _ :: _, _, _, h, _ => by simp [DataW.TrodAll] at h
  | _ :: _, [], _, _, _, h, _ => by simp [DataW.TrodAll] at h
  | _ :: _, _ :: _, [], _, _, h, _ => by simp [DataW.TrodAll] at h

/-- a law's contract, called in a world whose arguments read as data -/
theorem law_calls {H : Type} {enc : TypeId × Value → H} {f : FuncId} {fn : Func} {s : ChangeSpec} {args : Array Value} {shr0 : List Fact} {W : World} {ds gs : List (DataW H)} {before : List MemPlace} {rt : TypeId}
    (hl : laidOutB P = true) (hts : (fn.params.toList.all fun t => P.readableRec t && decide (t < P.types.size)) = true) (hres : fn.resultTypes = #[rt]) (hrt : P.underlying rt = some .bool) (hvars : s.vars = [])
    (hs : ∀ (ds : List (DataW H)), ds.length = fn.params.toList.length → s.fn H ds = { results := [.lit (.bool true)], args := ds })
    (hC : Ctr P f args [] shr0 (fun rv own shr => rv = .bool true ∧ own = [] ∧ shr = [])) (hF : ∀ F ∈ shr0, F.p (hp W)) (hW : DataW.Whole enc P fn.params.toList s.vars false W args.toList ds gs before) :
    Calls P f args W fun e W' => ∃ v, e = .returned v ∧ s.post enc P fn false true false false W args v W' := by
  refine (hC (hp W) W (fun _ => PH.emp) (hp_in W) hF (fun i r h => by simp at h) (fun i b o h => by cases h) (fun i j _ b => .inl rfl) (fun i b => .inr rfl)).mono ?_
  rintro e W' ⟨rv, own1, shr1, rfl, ⟨rfl, _, _⟩, R, hs', hw⟩
  refine ⟨_, rfl, ?_⟩
  have hb : Below W.heap.size W W' := ⟨hw.os, hw.tape, hw.output, hw.size, fun k hk => hw.keep k hk (by rintro ⟨i, hi, _⟩; simp at hi)⟩
  have hW0 := hW
  obtain ⟨p, q, h1, h2, rfl, h3, h4⟩ := hW
  rw [hvars] at h2
  have hgs : gs = [] ∧ q = [] := by
    cases gs with
    | nil => exact ⟨rfl, h2⟩
    | cons g gs => cases h2
  obtain ⟨rfl, rfl⟩ := hgs
  have hlen : ds.length = fn.params.toList.length := by
    have key : ∀ {ts : List TypeId} {vs : List Value} {ds : List (DataW H)} {ps : List MemPlace}, DataW.TrodAll enc P W 0 (fun _ => true) true ts vs ds ps → ds.length = ts.length := by
      intro ts
      induction ts with
      | nil => intro vs ds ps h; cases vs <;> cases ds <;> simp_all [DataW.TrodAll]
      | cons t ts ih =>
        intro vs ds ps h
        cases vs with
        | nil => simp [DataW.TrodAll] at h
        | cons v vs =>
          cases ds with
          | nil => simp [DataW.TrodAll] at h
          | cons d ds => obtain ⟨p, q, _, h2, _⟩ := h; simp [ih h2]
    exact key h1
  have hfn := hs (ds ++ []) (by simpa using hlen)
  refine ⟨ds, [], p ++ [], [], p, [], hW0, ?_, ?_, ?_, kept_all hb, fun h => by cases h⟩
  · rw [hfn, hres]
    show DataW.TrodAll enc P W' _ _ _ [rt] ((Value.bool true).resultList 1) _ []
    exact ⟨[], [], ⟨1, by simp [DataW.trod, Value.cells, hrt]⟩, rfl, rfl⟩
  · rw [hfn]
    simp only [List.append_nil]
    exact args_stay hl hb hts h1 (fun x hx => hW0.lt x (by simpa using hx))
  · rw [hfn, hvars]; rfl
end
end Go.Proofs.Ytjfdamiilndgeaa

end

/- The engine, part 6: what a function does (contracts); calls; returns; regions that draw their order. No statement of the seat is proved here; no condition. -/
import Derived.Test.YtlofegfaphijpaaEng5
namespace Go.Proofs.Ytlofegfaphijpaa

/-- called with these arguments, these owned parts lent and these facts known, the function returns as 'Post' says; nothing else is written -/
def Ctr (P : Program) (f : FuncId) (args : Array Value) (own0 : List Res) (shr0 : List Fact) (Post : Value → List Res → List Fact → Prop) : Prop :=
  ∀ (R0 : PH) (w0 : World) (hs : Nat → PH), R0.inW w0 → (∀ F ∈ shr0, F.p R0) → (∀ (i : Nat) (r : Res), own0[i]? = some r → r.p R0 (hs i)) → (∀ i, (hs i).inW w0) → (∀ i j, i ≠ j → (hs i).disj (hs j)) → (∀ i, R0.disj (hs i)) →
    Calls P f args w0 fun e w1 => ∃ rv own1 shr1, e = .returned rv ∧ Post rv own1 shr1 ∧ HSat R0 w0 (fun b => ∃ i, i < own0.length ∧ hs i b ≠ none) (own1.map some) shr1 w1

def QR (P : Program) (fn : Func) (R0 : PH) (w0 : World) (B : Nat → Prop) (Post : Value → List Res → List Fact → Prop) : Exit → Act → World → Prop :=
  bodyPost P fn fun e w1 => ∃ rv own1 shr1, e = .returned rv ∧ Post rv own1 shr1 ∧ HSat R0 w0 B (own1.map some) shr1 w1

def argfr : List Value → Nat → List (Nat × Option Value)
  | [], _ => []
  | v :: r, i => (i, some v) :: argfr r (i + 1)
theorem lk_argfr : ∀ {l : List Value} {i t : Nat} {v : Value}, lk (argfr l i) t = some v → i ≤ t ∧ l[t - i]? = some v
  | [], i, t, v, h => by simp [argfr, lk] at h
  | u :: l, i, t, v, h => by
    simp only [argfr, lk] at h
    by_cases e : t = i
    · subst e; simp at h; subst h; simp
    · rw [nbeq_ne e] at h
      obtain ⟨h1, h2⟩ := lk_argfr h
      refine ⟨by omega, ?_⟩
      have : t - i = (t - (i + 1)) + 1 := by omega
      rw [this]; simpa using h2

/-- the state at the body's start -/
theorem body_start {P : Program} {fn : Func} {args : List Value} {own0 : List Res} {shr0 : List Fact} {R0 : PH} {w0 : World} {Q : Exit → Act → World → Prop} (hn : Nat.ble args.length fn.ntmps = true) (hs : Nat → PH) (hR : R0.inW w0) (hF : ∀ F ∈ shr0, F.p R0) (ho : ∀ (i : Nat) (r : Res), own0[i]? = some r → r.p R0 (hs i)) (hw : ∀ i, (hs i).inW w0) (hd : ∀ i j, i ≠ j → (hs i).disj (hs j)) (hr : ∀ i, R0.disj (hs i)) :
    Sat ⟨P, R0, w0, (fun b => ∃ i, i < own0.length ∧ hs i b ≠ none), fn.ntmps, Q, []⟩ ⟨argfr args 0, own0.map some, shr0⟩ { tmps := args.toArray ++ Array.replicate (fn.ntmps - args.toArray.size) undef, defers := [] } w0 := by
  have hn' := Nat.le_of_ble_eq_true hn
  refine ⟨by simp; omega, rfl, ?_, R0, fun i => if i < own0.length then hs i else PH.emp, PH.le_refl _, hR, hF, ?_, ?_, ?_, ?_, ?_, fun b o h => .inl h, Nat.le_refl _, fun _ _ _ => rfl, rfl, rfl, rfl⟩
  · intro t v hl
    obtain ⟨_, h2⟩ := lk_argfr hl
    simp only [Nat.sub_zero] at h2
    have hlt := (List.getElem?_eq_some_iff.1 h2).1
    rw [Array.getElem?_append_left (by simpa using hlt)]
    simpa using h2
  · intro i r hi
    simp only [List.getElem?_map] at hi
    cases hq : own0[i]? with
    | none => rw [hq] at hi; simp at hi
    | some r' =>
      rw [hq] at hi; simp at hi; subst hi
      rw [if_pos (List.getElem?_eq_some_iff.1 hq).1]; exact ho i _ hq
  · intro i
    split
    · exact hw i
    · intro b o hb; cases hb
  · intro i j hij
    by_cases h1 : i < own0.length <;> by_cases h2 : j < own0.length <;> simp only [h1, h2, if_true, if_false]
    · exact hd i j hij
    · exact fun b => .inr rfl
    · exact fun b => .inl rfl
    · exact fun b => .inl rfl
  · intro i
    split
    · exact hr i
    · exact fun b => .inr rfl
  · intro i b o hb
    by_cases h1 : i < own0.length
    · simp only [h1, if_true] at hb; exact .inl ⟨i, h1, by rw [hb]; simp⟩
    · simp only [h1, if_false] at hb; cases hb

def BodyOk (P : Program) (f : FuncId) (args : List Value) (own0 : List Res) (shr0 : List Fact) (Post : Value → List Res → List Fact → Prop) : Prop :=
  ∃ fn code, P.funcs[f]? = some fn ∧ fn.body = some code ∧ Nat.ble args.length fn.ntmps = true ∧ ∀ R0 w0 B, Tk ⟨P, R0, w0, B, fn.ntmps, QR P fn R0 w0 B Post, []⟩ [.code code] ⟨argfr args 0, own0.map some, shr0⟩
theorem BodyOk.mk {P : Program} {f : FuncId} {fn : Func} {code : Code} {args : List Value} {own0 : List Res} {shr0 : List Fact} {Post : Value → List Res → List Fact → Prop} (hf : P.funcs[f]? = some fn) (hb : fn.body = some code) (hn : Nat.ble args.length fn.ntmps = true)
    (h : ∀ R0 w0 B, Tk ⟨P, R0, w0, B, fn.ntmps, QR P fn R0 w0 B Post, []⟩ [.code code] ⟨argfr args 0, own0.map some, shr0⟩) : BodyOk P f args own0 shr0 Post := ⟨fn, code, hf, hb, hn, h⟩
theorem BodyOk.ctr {P : Program} {f : FuncId} {args : List Value} {own0 : List Res} {shr0 : List Fact} {Post : Value → List Res → List Fact → Prop} (h : BodyOk P f args own0 shr0 Post) : Ctr P f args.toArray own0 shr0 Post := by
  obtain ⟨fn, code, hf, hb, hn, h⟩ := h
  intro R0 w0 hs hR hF ho hw hd hr
  exact calls_of_wp hf hb (h R0 w0 _ _ _ (body_start hn hs hR hF ho hw hd hr))
theorem Ctr.mk {P : Program} {f : FuncId} {fn : Func} {code : Code} {args : List Value} {own0 : List Res} {shr0 : List Fact} {Post : Value → List Res → List Fact → Prop} (hf : P.funcs[f]? = some fn) (hb : fn.body = some code) (hn : Nat.ble args.length fn.ntmps = true)
    (h : ∀ R0 w0 B, Tk ⟨P, R0, w0, B, fn.ntmps, QR P fn R0 w0 B Post, []⟩ [.code code] ⟨argfr args 0, own0.map some, shr0⟩) : Ctr P f args.toArray own0 shr0 Post := (BodyOk.mk hf hb hn h).ctr

/-! deferred calls -/
def CtrD (P : Program) (f : FuncId) (args : Array Value) (own0 : List Res) (shr0 : List Fact) (Post : Value → List Res → List Fact → Prop) : Prop :=
  ∀ (R0 : PH) (w0 : World) (hs : Nat → PH) (u : FrameMode), R0.inW w0 → (∀ F ∈ shr0, F.p R0) → (∀ (i : Nat) (r : Res), own0[i]? = some r → r.p R0 (hs i)) → (∀ i, (hs i).inW w0) → (∀ i j, i ≠ j → (hs i).disj (hs j)) → (∀ i, R0.disj (hs i)) →
    CallsD P f args u w0 fun e u' w1 => u' = u ∧ ∃ rv own1 shr1, e = .returned rv ∧ Post rv own1 shr1 ∧ HSat R0 w0 (fun b => ∃ i, i < own0.length ∧ hs i b ≠ none) (own1.map some) shr1 w1
theorem BodyOk.ctrD {P : Program} {f : FuncId} {args : List Value} {own0 : List Res} {shr0 : List Fact} {Post : Value → List Res → List Fact → Prop} (h : BodyOk P f args own0 shr0 Post) : CtrD P f args.toArray own0 shr0 Post := by
  obtain ⟨fn, code, hf, hb, hn, h⟩ := h
  intro R0 w0 hs u hR hF ho hw hd hr
  exact callsD_of_wp hf hb (h R0 w0 _ _ _ (body_start hn hs hR hF ho hw hd hr))
/-- a function that has a deferred call when it returns -/
def QRD (P : Program) (fn : Func) (R0 : PH) (w0 : World) (B : Nat → Prop) (Post : Value → List Res → List Fact → Prop) : Exit → Act → World → Prop :=
  bodyPostD P fn fun e w1 => ∃ rv own1 shr1, e = .returned rv ∧ Post rv own1 shr1 ∧ HSat R0 w0 B (own1.map some) shr1 w1
theorem Ctr.mkD {P : Program} {f : FuncId} {fn : Func} {code : Code} {args : List Value} {own0 : List Res} {shr0 : List Fact} {Post : Value → List Res → List Fact → Prop} (hf : P.funcs[f]? = some fn) (hb : fn.body = some code) (hn : Nat.ble args.length fn.ntmps = true)
    (h : ∀ R0 w0 B, Tk ⟨P, R0, w0, B, fn.ntmps, QRD P fn R0 w0 B Post, []⟩ [.code code] ⟨argfr args 0, own0.map some, shr0⟩) : Ctr P f args.toArray own0 shr0 Post := by
  intro R0 w0 hs hR hF ho hw hd hr
  exact calls_of_wp_defers hf hb (h R0 w0 _ _ _ (body_start hn hs hR hF ho hw hd hr))

/-! returning -/
section
variable {P : Program} {fn : Func} {R0 : PH} {w0 : World} {B : Nat → Prop} {Post : Value → List Res → List Fact → Prop} {n : Nat} {fr : List (Nat × Option Value)} {own : List (Option Res)} {shr : List Fact} {k : List Item}
theorem Sat.result {c : Cx} {v : Value} {a : Act} {w : World} (hs : Sat c ⟨fr, own, shr⟩ a w) (is js : List Nat) (own1 : List Res) (shr1 : List Fact) (hnd : nodupB is = true) (ho : pick own is = own1.map some) (hj : pickF shr js = some shr1) : HSat c.R0 c.w0 c.B (own1.map some) shr1 w := by
  obtain ⟨R, hs', hw⟩ := hs.2.2.2
  rw [← ho]
  exact ⟨_, _, hw.pick is hnd (pickF_mem hj)⟩
theorem ret_core {c : Cx} {fn : Func} (hQ : c.Q = QR c.P fn c.R0 c.w0 c.B Post) (hds : c.ds = []) {v : Value} (hv : ∀ a w, Sat c ⟨fr, own, shr⟩ a w → (results fn a.tmps).run c.P w = .ok v w) (is js : List Nat) {own1 : List Res} {shr1 : List Fact} (hnd : nodupB is = true) (ho : pick own is = own1.map some) (hj : pickF shr js = some shr1) (hp : Post v own1 shr1) :
    ∀ a w, Sat c ⟨fr, own, shr⟩ a w → c.Q .ret a w ∧ c.Q .normal a w := by
  intro a w hs
  have h1 := hv a w hs
  have h2 := hs.result is js own1 shr1 hnd ho hj (v := v)
  rw [hQ]
  exact ⟨⟨hs.2.1.trans hds, v, h1, v, own1, shr1, rfl, hp, h2⟩, ⟨hs.2.1.trans hds, v, h1, v, own1, shr1, rfl, hp, h2⟩⟩
theorem Tk_retV {c : Cx} {fn : Func} (hQ : c.Q = QR c.P fn c.R0 c.w0 c.B Post) (hds : c.ds = []) {v : Value} (hv : ∀ a w, Sat c ⟨fr, own, shr⟩ a w → (results fn a.tmps).run c.P w = .ok v w) (is js : List Nat) {own1 : List Res} {shr1 : List Fact} (hnd : nodupB is = true) (ho : pick own is = own1.map some) (hj : pickF shr js = some shr1) (hp : Post v own1 shr1) :
    Tk c (.code .ret :: k) ⟨fr, own, shr⟩ := Tk_ret fun a w hs => (ret_core hQ hds hv is js hnd ho hj hp a w hs).1
theorem Tk_endV {c : Cx} {fn : Func} (hQ : c.Q = QR c.P fn c.R0 c.w0 c.B Post) (hds : c.ds = []) {v : Value} (hv : ∀ a w, Sat c ⟨fr, own, shr⟩ a w → (results fn a.tmps).run c.P w = .ok v w) (is js : List Nat) {own1 : List Res} {shr1 : List Fact} (hnd : nodupB is = true) (ho : pick own is = own1.map some) (hj : pickF shr js = some shr1) (hp : Post v own1 shr1) :
    Tk c [] ⟨fr, own, shr⟩ := fun a w hs => (ret_core hQ hds hv is js hnd ho hj hp a w hs).2
end

/-! calling -/
def Callee (P : Program) (f : FuncId) : Prop := ∀ args w, (callFunc f args).run P w = .ok (.enter f args) w
def clear (own : List (Option Res)) : List Nat → List (Option Res)
  | [] => own
  | i :: is => clear (own.set i none) is
theorem clear_at : ∀ {is : List Nat} {own : List (Option Res)} {j : Nat} {r : Res}, (clear own is)[j]? = some (some r) → own[j]? = some (some r) ∧ j ∉ is
  | [], own, j, r, h => ⟨h, by simp⟩
  | i :: is, own, j, r, h => by
    obtain ⟨h1, h2⟩ := clear_at (own := own.set i none) h
    by_cases e : j = i
    · subst e
      rcases Nat.lt_or_ge j own.length with hlt | hge
      · simp [hlt] at h1
      · simp [Nat.not_lt.2 hge] at h1
    · rw [List.getElem?_set_ne (fun q => e q.symm)] at h1
      exact ⟨h1, by simp [e, h2]⟩
theorem clear_len : ∀ (is : List Nat) (own : List (Option Res)), (clear own is).length = own.length
  | [], _ => rfl
  | i :: is, own => by rw [clear, clear_len is]; simp

theorem HW.call {R0 : PH} {w0 : World} {B : Nat → Prop} {own : List (Option Res)} {shr shr1 : List Fact} {w w1 : World} {R : PH} {hs : Nat → PH} (h : HW R0 w0 B own shr w R hs) (is : List Nat) (own1 : List Res) (m : Nat) (hm : is.length = m) 
    (h1 : HSat R w (fun b => ∃ i, i < m ∧ (match is[i]? with | some j => hs j | none => PH.emp) b ≠ none) (own1.map some) shr1 w1) : HSat R0 w0 B (clear own is ++ own1.map some) (shr ++ shr1) w1 := by
  obtain ⟨R1, g, hg⟩ := h1
  have hB1 : ∀ b, (∃ i, i < m ∧ (match is[i]? with | some j => hs j | none => PH.emp) b ≠ none) → ∃ j, j ∈ is ∧ ∃ o, hs j b = some o := by
    rintro b ⟨i, hi, hb⟩
    cases e : is[i]? with
    | none => rw [e] at hb; exact absurd rfl hb
    | some j =>
      rw [e] at hb
      refine ⟨j, List.mem_of_getElem? e, ?_⟩
      cases q : hs j b with
      | none => exact absurd q hb
      | some o => exact ⟨o, rfl⟩
  have lt_of : ∀ j b o, hs j b = some o → b < w.heap.size := fun j b o hb => (Array.getElem?_eq_some_iff.1 (h.hw j b o hb)).1
  have kept : ∀ j b o, j ∉ is → hs j b = some o → ¬ (∃ i, i < m ∧ (match is[i]? with | some j => hs j | none => PH.emp) b ≠ none) := by
    intro j b o hj hb hB
    obtain ⟨j', hj', o', ho'⟩ := hB1 b hB
    rcases h.dj j j' (fun e => hj (e ▸ hj')) b with q | q
    · rw [hb] at q; cases q
    · rw [ho'] at q; cases q
  refine ⟨R1, fun j => if j < own.length then (if j ∈ is then PH.emp else hs j) else g (j - own.length), PH.le_trans h.r0 hg.r0, hg.rw_, ?_, ?_, ?_, ?_, ?_, ?_, ?_, Nat.le_trans h.size hg.size, ?_, hg.os.trans h.os, hg.tape.trans h.tape, hg.output.trans h.output⟩
  · intro F hF
    rcases List.mem_append.1 hF with q | q
    · exact F.mono hg.r0 (h.sh F q)
    · exact hg.sh F q
  · intro j r hj
    by_cases hlt : j < own.length
    · rw [List.getElem?_append_left (by rw [clear_len]; exact hlt)] at hj
      obtain ⟨q1, q2⟩ := clear_at hj
      simp only [hlt, q2, if_true, if_false]
      exact r.mono hg.r0 (h.ow j r q1)
    · rw [List.getElem?_append_right (by rw [clear_len]; omega), clear_len] at hj
      simp only [hlt, if_false]
      exact hg.ow _ r hj
  · intro j
    by_cases hlt : j < own.length
    · by_cases hj : j ∈ is
      · simp only [hlt, hj, if_true]; intro b o hb; cases hb
      · simp only [hlt, hj, if_true, if_false]
        intro b o hb
        rw [hg.keep b (lt_of j b o hb) (kept j b o hj hb)]; exact h.hw j b o hb
    · simp only [hlt, if_false]; exact hg.hw _
  · intro j l hjl
    have mixed : ∀ j l, j < own.length → j ∉ is → (hs j).disj (g l) := by
      intro j l hlt hj b
      cases hb : hs j b with
      | none => exact .inl rfl
      | some o =>
        right
        cases hb' : g l b with
        | none => rfl
        | some o' =>
          rcases hg.new l b o' hb' with q | q
          · exact absurd q (kept j b o hj hb)
          · have := lt_of j b o hb; omega
    by_cases h1 : j < own.length <;> by_cases h2 : l < own.length <;> by_cases h3 : j ∈ is <;> by_cases h4 : l ∈ is <;> simp only [h1, h2, h3, h4, if_true, if_false] <;>
      first
      | exact fun b => .inl rfl
      | exact fun b => .inr rfl
      | exact h.dj j l hjl
      | exact mixed j _ h1 h3
      | exact PH.disj_comm (mixed l _ h2 h4)
      | exact hg.dj _ _ (by omega)
  · intro j
    by_cases hlt : j < own.length
    · by_cases hj : j ∈ is
      · simp only [hlt, hj, if_true]; exact fun b => .inr rfl
      · simp only [hlt, hj, if_true, if_false]
        intro b
        cases hb : hs j b with
        | none => exact .inr rfl
        | some o =>
          left
          cases hb' : R1 b with
          | none => rfl
          | some o' =>
            rcases hg.rnew b o' hb' with q | q | q
            · rcases h.rd j b with q' | q'
              · rw [q] at q'; cases q'
              · rw [hb] at q'; cases q'
            · exact absurd q (kept j b o hj hb)
            · have := lt_of j b o hb; omega
    · simp only [hlt, if_false]; exact hg.rd _
  · intro j b o hb
    by_cases hlt : j < own.length
    · by_cases hj : j ∈ is
      · simp only [hlt, hj, if_true] at hb; cases hb
      · simp only [hlt, hj, if_true, if_false] at hb; exact h.new j b o hb
    · simp only [hlt, if_false] at hb
      rcases hg.new _ b o hb with q | q
      · obtain ⟨j', _, o', ho'⟩ := hB1 b q
        exact h.new j' b o' ho'
      · exact .inr (Nat.le_trans h.size q)
  · intro b o hb
    rcases hg.rnew b o hb with q | q | q
    · exact h.rnew b o q
    · obtain ⟨j', _, o', ho'⟩ := hB1 b q
      exact .inr (h.new j' b o' ho')
    · exact .inr (.inr (Nat.le_trans h.size q))
  · intro b hb hnB
    rw [hg.keep b (Nat.lt_of_lt_of_le hb h.size) (fun q => by
      obtain ⟨j', _, o', ho'⟩ := hB1 b q
      rcases h.new j' b o' ho' with q' | q'
      · exact hnB q'
      · omega)]
    exact h.keep b hb hnB

def evl (fr : List (Nat × Option Value)) : List Operand → Option (List Value)
  | [] => some []
  | x :: r => match ev fr x, evl fr r with | some v, some l => some (v :: l) | _, _ => none
theorem evl_eval {a : Act} {fr : List (Nat × Option Value)} (hf : Fr a fr) : ∀ {l : List Operand} {r : List Value}, evl fr l = some r → l.map a.eval = r
  | [], r, h => by simp [evl] at h; subst h; rfl
  | x :: l, r, h => by
    simp only [evl] at h
    split at h
    · rename_i v l' hv hl
      simp at h; subst h
      simp [ev_eval hf hv, evl_eval hf hl]
    · cases h
section
variable {c : Cx} {k : List Item} {o : Oper} {fr : List (Nat × Option Value)} {own : List (Option Res)} {shr : List Fact}
def putD (d : Option Nat) (v : Value) (fr : List (Nat × Option Value)) : List (Nat × Option Value) := match d with | some d => (d, some v) :: fr | none => fr
def dstOk (d : Option Nat) (n : Nat) : Bool := match d with | some d => Nat.blt d n | none => true
theorem OpT_call {f : FuncId} {fx : Operand} {as : Array Operand} {ats : Array TypeId} {vs : List Value} {cp : List Value} {args : Array Value} {own0 : List Res} {shr0 : List Fact} {Post : Value → List Res → List Fact → Prop} {dd : Option Nat} (hC : Ctr c.P f args own0 shr0 Post) (is js : List Nat) (hn : dstOk dd c.n = true) (hd : o.dst = dd)
    (ho : o.op = .call { callee := .value fx, args := as, argTypes := ats }) (hfx : ev fr fx = some (.func (.func f) #[] cp.toArray)) (hvs : evl fr as.toList = some vs) (hc : Callee c.P f) (ha : args = (vs ++ cp).toArray) (hnd : nodupB is = true) (hio : pick own is = own0.map some) (hjs : pickF shr js = some shr0) :
    OpT c o ⟨fr, own, shr⟩ (fun s => ∃ rv own1 shr1, Post rv own1 shr1 ∧ s = ⟨putD dd rv fr, clear own is ++ own1.map some, shr ++ shr1⟩) := by
  intro a w hs K Q hK
  have hev := hs.2.2.1
  obtain ⟨R, hs', hw⟩ := hs.2.2.2
  unfold Oper.wp
  have hmap : as.map a.eval = vs.toArray := by apply Array.ext'; simpa using evl_eval hev hvs
  have hrun : (execOp a.eval o).run c.P w = .ok (.enter f (vs.toArray ++ cp.toArray)) w := by
    have := hc (vs.toArray ++ cp.toArray) w
    simp only [List.append_toArray] at this
    simp only [execOp, ho, resolve, hmap, ev_eval hev hfx, Deferred.ofValue, Sem.run_bind, Sem.run_pure, Result.andThen_ok, invoke, List.append_toArray, List.nil_append, this]
  rw [hrun, Oper.upon_enter]
  have hil : is.length = own0.length := by
    have := congrArg List.length hio
    simpa [pick] using this
  have hall : ∀ (i : Nat), (match is[i]? with | some j => hs' j | none => PH.emp : PH).inW w := fun i => by
    cases e : is[i]? with
    | some j => exact hw.hw j
    | none => intro b o hb; cases hb
  have harg : vs.toArray ++ cp.toArray = args := by rw [ha]; simp
  rw [harg]
  have hw2 := hw.pick is hnd (pickF_mem hjs)
  refine (hC R w (fun (i : Nat) => match is[i]? with | some j => hs' j | none => PH.emp) hw.rw_ (fun F hF => hw.sh F (pickF_mem hjs F hF)) ?_ hall ?_ ?_).mono ?_
  · intro i r hi
    refine hw2.ow i r ?_
    rw [hio]; simp [hi]
  · exact hw2.dj
  · exact hw2.rd
  · rintro e w1 ⟨rv, own1, shr1, rfl, hp, hh⟩
    dsimp only
    have hcall := hw.call is own1 own0.length hil hh
    refine hK _ ⟨rv, own1, shr1, hp, rfl⟩ _ _ ?_
    rw [hd]
    cases dd with
    | none => exact ⟨hs.1, hs.2.1, hs.2.2.1, hcall⟩
    | some d => exact Sat_put (c := c) hn ⟨hs.1, hs.2.1, hs.2.2.1, hcall⟩
end

/-! regions that draw their order -/
def updL (L : Nat → Bool) (i j : Nat) : Bool := bif Nat.beq j i then true else L j
def memN (j : Nat) : List Nat → Bool
  | [] => false
  | i :: r => bif Nat.beq j i then true else memN j r
def ovr (L : Nat → Bool) (p f : List Nat) (j : Nat) : Bool := bif memN j p then true else bif memN j f then false else L j
theorem memN_iff {j : Nat} : ∀ {l : List Nat}, memN j l = true ↔ j ∈ l
  | [] => by simp [memN]
  | i :: r => by
    simp only [memN]
    by_cases e : j = i
    · subst e; simp
    · rw [nbeq_ne e]; simp [e, memN_iff (l := r)]
/-- operation i may come up in a state of 'Iv', and leads back into it -/
def Step1 (c : Cx) (ops : Array Oper) (Iv : (Nat → Bool) → Act → World → Prop) (i : Nat) (p f : List Nat) : Prop :=
  ∀ (L : Nat → Bool) (a : Act) (w : World), Iv (ovr L p (i :: f)) a w → ∀ (K : Act → World → Prop) (Q : Exit → Act → World → Prop), (∀ a' w', Iv (updL (ovr L p (i :: f)) i) a' w' → K a' w') → wpOp c.P ops Q i K a w
def StepsL (c : Cx) (ops : Array Oper) (Iv : (Nat → Bool) → Act → World → Prop) : Nat → List (List Nat × List Nat) → Prop
  | _, [] => True
  | i, (p, f) :: r => Step1 c ops Iv i p f ∧ StepsL c ops Iv (i + 1) r
def direct (ops : Array Oper) (i : Nat) : List Nat := match ops[i]? with | some o => (o.after.toList.filter (Region.binds .any)).map (·.on) | none => []
theorem StepsL.get {c : Cx} {ops : Array Oper} {Iv : (Nat → Bool) → Act → World → Prop} : ∀ {l : List (List Nat × List Nat)} {k : Nat}, StepsL c ops Iv k l → ∀ i, i < l.length → Step1 c ops Iv (k + i) (l.getD i ([], [])).1 (l.getD i ([], [])).2
  | [], _, _, i, h => by simp at h
  | (p, f) :: r, k, hs, 0, _ => by simpa using hs.1
  | (p, f) :: r, k, hs, i + 1, h => by
    have := StepsL.get hs.2 i (by simpa using h)
    rw [show k + (i + 1) = k + 1 + i by omega]
    simpa using this

theorem ready_spec {ops : Array Oper} {listed : Array Bool} {i : Nat} (h : i ∈ Region.ready .any ops listed) : i < ops.size ∧ listed.getD i true = false ∧ ∀ q ∈ direct ops i, listed.getD q false = true := by
  simp only [Region.ready, List.mem_filter, List.mem_range, Bool.and_eq_true, Bool.not_eq_true'] at h
  obtain ⟨h1, h2, h3⟩ := h
  refine ⟨h1, h2, ?_⟩
  intro q hq
  unfold direct at hq
  rw [Array.getElem?_eq_getElem h1] at hq h3
  simp only [Option.map_some, Option.getD_some] at h3
  simp only [List.mem_map, List.mem_filter] at hq
  obtain ⟨e, ⟨he, hb⟩, rfl⟩ := hq
  have := (Array.all_eq_true_iff_forall_mem.1 h3) e (by simpa using he)
  simpa [hb] using this
theorem ready_of {ops : Array Oper} {listed : Array Bool} {i : Nat} (h1 : i < ops.size) (h2 : listed.getD i true = false) (h3 : ∀ q ∈ direct ops i, listed.getD q false = true) : i ∈ Region.ready .any ops listed := by
  simp only [Region.ready, List.mem_filter, List.mem_range, Bool.and_eq_true, Bool.not_eq_true']
  refine ⟨h1, h2, ?_⟩
  rw [Array.getElem?_eq_getElem h1]
  simp only [Option.map_some, Option.getD_some]
  refine Array.all_eq_true_iff_forall_mem.2 fun e he => ?_
  cases hb : Region.binds .any e with
  | false => rfl
  | true =>
    have := h3 e.on (by
      unfold direct; rw [Array.getElem?_eq_getElem h1]
      simp only [List.mem_map, List.mem_filter]
      exact ⟨e, ⟨by simpa using he, hb⟩, rfl⟩)
    simpa using this

section
variable {c : Cx} {ops : Array Oper} {i : Nat} {o : Oper} {s : St} {K : Act → World → Prop} {Q : Exit → Act → World → Prop} {a : Act} {w : World} {Ks : St → Prop}
theorem wpOp_go (hi : ops[i]? = some o) (hg : o.guard = none) (hs : Sat c s a w) (ho : OpT c o s Ks) (hK : ∀ s', Ks s' → ∀ a' w', Sat c s' a' w' → K a' w') : wpOp c.P ops Q i K a w := by
  unfold wpOp
  rw [hi]
  simp only [Region.wanted, hg, if_true]
  exact .inl (ho a w hs K Q hK)
theorem wpOp_yes {j : Nat} {b : Bool} {d : Nat} (hi : ops[i]? = some o) (hg : o.guard = some (j, b)) (hd : ((ops[j]?).bind (·.dst)) = some d) (hs : Sat c s a w) (hl : lk s.fr d = some (.bool b)) (ho : OpT c o s Ks) (hK : ∀ s', Ks s' → ∀ a' w', Sat c s' a' w' → K a' w') : wpOp c.P ops Q i K a w := by
  have hw := wanted_of (ops := ops) hs.2.2.1 hg hd hl
  unfold wpOp
  rw [hi]
  simp only [hw, beq_self_eq_true, if_true]
  exact .inl (ho a w hs K Q hK)
theorem wpOp_no {fr : List (Nat × Option Value)} {own : List (Option Res)} {shr : List Fact} {j : Nat} {b : Bool} {d e : Nat} (hi : ops[i]? = some o) (hg : o.guard = some (j, b)) (hd : ((ops[j]?).bind (·.dst)) = some d) (hs : Sat c ⟨fr, own, shr⟩ a w) (hl : lk fr d = some (.bool (!b))) (he : o.dst = some e) (hn : Nat.blt e c.n = true)
    (hK : ∀ a' w', Sat c ⟨(e, some undef) :: fr, own, shr⟩ a' w' → K a' w') : wpOp c.P ops Q i K a w := by
  have hw := wanted_of (ops := ops) hs.2.2.1 hg hd hl
  unfold wpOp
  rw [hi]
  simp only [hw]
  rw [if_neg (by cases b <;> simp)]
  refine hK _ _ ?_
  rw [he]; exact Sat_put hn hs
end
end Go.Proofs.Ytlofegfaphijpaa

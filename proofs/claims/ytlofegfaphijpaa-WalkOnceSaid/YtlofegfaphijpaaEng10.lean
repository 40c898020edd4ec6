/- The engine, part 10: regions that draw their order, cut where every order agrees. No statement of the seat is proved here; no condition. -/
import Derived.Test.YtlofegfaphijpaaEng9
namespace Go.Proofs.Ytlofegfaphijpaa

/-- to each operation the set (as bits) of those that it waits for, directly or through others -/
def orAll (M : List Nat) : List Nat → Nat
  | [] => 0
  | q :: r => (M.getD q 0 ||| 2 ^ q) ||| orAll M r
def mkOk (ops : Array Oper) (M : List Nat) : Bool :=
  (M.length == ops.size) && (List.range ops.size).all fun i => (direct ops i).all (fun q => Nat.blt q i) && Nat.beq (M.getD i 0) (orAll M (direct ops i))
theorem orAll_bit {M : List Nat} {p : Nat} : ∀ {l : List Nat}, (orAll M l).testBit p = true → ∃ q ∈ l, q = p ∨ (M.getD q 0).testBit p = true
  | [], h => by simp [orAll] at h
  | q :: r, h => by
    simp only [orAll, Nat.testBit_or, Bool.or_eq_true] at h
    rcases h with (h | h) | h
    · exact ⟨q, by simp, .inr h⟩
    · rw [Nat.testBit_two_pow] at h
      exact ⟨q, by simp, .inl (by simpa using h)⟩
    · obtain ⟨q', h1, h2⟩ := orAll_bit h
      exact ⟨q', by simp [h1], h2⟩

section
variable {c : Cx} {ops : Array Oper} {M : List Nat} {k : List Item} {s : St}

/-- the operations below lo have come up, no other -/
def TAat (c : Cx) (ops : Array Oper) (k : List Item) (lo : Nat) (a : Act) (w : World) : Prop :=
  ∀ listed : Array Bool, listed.size = ops.size → (∀ j, j < ops.size → listed.getD j false = decide (j < lo)) → wpAny c.P .any ops (contQ c k) (ops.size - lo) listed a w
def TA (c : Cx) (ops : Array Oper) (k : List Item) (lo : Nat) (s : St) : Prop := ∀ a w, Sat c s a w → TAat c ops k lo a w

theorem Tk_drawT {id : Nat} (hm : c.P.follows .mixedOrders = true) (h : TA c ops k 0 s) : Tk c (.code (.region id ops true) :: k) s := fun a w hs => by
  show (Code.region id ops true).wp c.P (contQ c k) a w
  refine wp_region_any hm ?_
  obtain ⟨q1, q2, q3, R, hs', hw⟩ := hs
  refine h a _ ⟨q1, q2, q3, R, hs', hw.drew⟩ (Array.replicate ops.size false) (by simp) ?_
  intro j hj; simp [hj]
theorem mk_lt (h : mkOk ops M = true) {i q : Nat} (hi : i < ops.size) (hq : q ∈ direct ops i) : q < i := by
  simp only [mkOk, Bool.and_eq_true, List.all_eq_true, List.mem_range] at h
  have := (h.2 i hi).1 q hq
  exact Nat.blt_eq ▸ this
theorem mk_bit (h : mkOk ops M = true) {i p : Nat} (hi : i < ops.size) (hp : (M.getD i 0).testBit p = true) : ∃ q ∈ direct ops i, q = p ∨ (M.getD q 0).testBit p = true := by
  simp only [mkOk, Bool.and_eq_true, List.all_eq_true, List.mem_range] at h
  have := Nat.eq_of_beq_eq_true (h.2 i hi).2
  rw [this] at hp
  exact orAll_bit hp
/-- what has come up is closed: so is what is waited for -/
theorem mk_down (h : mkOk ops M = true) {L : Nat → Bool} (hcl : ∀ i, i < ops.size → L i = true → ∀ q ∈ direct ops i, L q = true) : ∀ n i, i ≤ n → i < ops.size → L i = true → ∀ p, (M.getD i 0).testBit p = true → L p = true := by
  intro n
  induction n with
  | zero =>
    intro i hin hi hl p hp
    obtain ⟨q, hq, _⟩ := mk_bit h hi hp
    have := mk_lt h hi hq; omega
  | succ n ih =>
    intro i hin hi hl p hp
    obtain ⟨q, hq, hqp⟩ := mk_bit h hi hp
    have hqi := mk_lt h hi hq
    rcases hqp with e | e
    · subst e; exact hcl i hi hl q hq
    · exact ih q (by omega) (by omega) (hcl i hi hl q hq) p e
theorem mk_ready (h : mkOk ops M = true) {L : Nat → Bool} (hcl : ∀ i, i < ops.size → L i = true → ∀ q ∈ direct ops i, L q = true) {i : Nat} (hi : i < ops.size) (hr : ∀ q ∈ direct ops i, L q = true) {p : Nat} (hp : (M.getD i 0).testBit p = true) : L p = true := by
  obtain ⟨q, hq, hqp⟩ := mk_bit h hi hp
  have hqi := mk_lt h hi hq
  rcases hqp with e | e
  · subst e; exact hr q hq
  · exact mk_down h hcl q q (Nat.le_refl _) (by omega) (hr q hq) p e

/-- all from hi on wait for all below hi -/
def cutB (M : List Nat) (hi : Nat) : Bool := (M.drop hi).all fun m => Nat.beq (m % 2 ^ hi) (2 ^ hi - 1)
theorem cut_bit {hi j q : Nat} (h : cutB M hi = true) (hj : hi ≤ j) (hjl : j < M.length) (hq : q < hi) : (M.getD j 0).testBit q = true := by
  have hm : M.getD j 0 ∈ M.drop hi := by
    have e : M.getD j 0 = M[j] := by simp [List.getD, hjl]
    rw [e]
    refine List.mem_of_getElem? (i := j - hi) ?_
    rw [List.getElem?_drop, show hi + (j - hi) = j by omega]; simp [hjl]
  have h1 := Nat.eq_of_beq_eq_true (List.all_eq_true.1 h _ hm)
  have h2 : ((M.getD j 0) % 2 ^ hi).testBit q = true := by rw [h1, Nat.testBit_two_pow_sub_one]; simpa using hq
  rw [Nat.testBit_mod_two_pow] at h2
  simp only [Bool.and_eq_true] at h2
  exact h2.2
theorem TA_end {n : Nat} (hn : ops.size = n) (h : Tk c k s) : TA c ops k n s := fun a w hs listed hsz hl => by
  have e : ops.size - n = 0 := by omega
  rw [e]
  refine ⟨?_, h a w hs⟩
  apply List.eq_nil_iff_forall_not_mem.2
  intro i hi
  obtain ⟨q1, q2, _⟩ := ready_spec hi
  have := hl i q1
  have hi' : i < listed.size := by omega
  have hlt : i < n := by omega
  simp [hi', hlt] at q2 this; rw [this] at q2; cases q2

/-- a stretch of operations from lo to hi, in any order -/
theorem TA_seg {lo hi : Nat} (htb : mkOk ops M = true) (hlh : Nat.ble lo hi = true) (hh : Nat.ble hi ops.size = true) (hcut : cutB M hi = true) (Iv : Cx → (Nat → Bool) → Act → World → Prop) (tb : List (List Nat × List Nat)) (hlen : tb.length = hi - lo)
    (hpf : ((List.range (hi - lo)).all fun i => ((tb.getD i ([], [])).1.all fun p => (M.getD (lo + i) 0).testBit p) && ((tb.getD i ([], [])).2.all fun t => (M.getD t 0).testBit (lo + i) && Nat.blt t hi)) = true)
    (h0 : ∀ a w, Sat c s a w → Iv c (fun j => Nat.blt j lo) a w) (hst : StepsL c ops (Iv c) lo tb) (he : ∀ (L : Nat → Bool) a w, (∀ i, i < hi → L i = true) → Iv c L a w → TAat c ops k hi a w) : TA c ops k lo s := by
  have hlh := Nat.le_of_ble_eq_true hlh
  have hh := Nat.le_of_ble_eq_true hh
  simp only [List.all_eq_true, Bool.and_eq_true, List.mem_range] at hpf
  have hML : M.length = ops.size := by
    simp only [mkOk, Bool.and_eq_true, beq_iff_eq] at htb; exact htb.1
  have key : ∀ (n : Nat) (listed : Array Bool) (a : Act) (w : World), listed.size = ops.size → (∀ i, i < ops.size → listed.getD i false = true → ∀ q ∈ direct ops i, listed.getD q false = true) →
      (∀ j, j < lo → listed.getD j false = true) → (∀ j, hi ≤ j → j < ops.size → listed.getD j false = false) → (listed.toList.filter (fun b => !b)).length = n + (ops.size - hi) → Iv c (fun j => listed.getD j false) a w → wpAny c.P .any ops (contQ c k) (n + (ops.size - hi)) listed a w := by
    have cnt : ∀ (l : List Bool) (h : Nat), h ≤ l.length → (∀ j, h ≤ j → j < l.length → l[j]? = some false) → (∀ i, i < h → l[i]? ≠ some false) ∨ (l.filter (fun b => !b)).length ≥ 1 + (l.length - h) := by
      intro l
      induction l with
      | nil => intro h hl _; left; intro i hi; simp at hl; omega
      | cons b l ih =>
        intro h hl hf
        cases h with
        | zero => left; intro i hi; omega
        | succ h =>
          have hf' : ∀ j, h ≤ j → j < l.length → l[j]? = some false := fun j h1 h2 => by simpa using hf (j + 1) (by omega) (by simp; omega)
          rcases ih h (by simpa using hl) hf' with hq | hq
          · cases b with
            | true =>
              left; intro i hi
              cases i with
              | zero => simp
              | succ i => simpa using hq i (by omega)
            | false =>
              right
              have h2 : (l.filter (fun b => !b)).length ≥ l.length - h := by
                have h3 : ∀ (l : List Bool) (h : Nat), (∀ j, h ≤ j → j < l.length → l[j]? = some false) → (l.filter (fun b => !b)).length ≥ l.length - h := by
                  intro l
                  induction l with
                  | nil => intro h _; simp
                  | cons b l ih2 =>
                    intro h hf
                    cases h with
                    | zero =>
                      have : b = false := by simpa using hf 0 (by omega) (by simp)
                      subst this
                      have := ih2 0 (fun j h1 h2 => by simpa using hf (j + 1) (by omega) (by simp; omega))
                      simp; omega
                    | succ h =>
                      have := ih2 h (fun j h1 h2 => by simpa using hf (j + 1) (by omega) (by simp; omega))
                      cases b <;> simp <;> omega
                exact h3 l h hf'
              simp; omega
          · right
            cases b <;> simp <;> omega
    intro n
    induction n with
    | zero =>
      intro listed a w hsz hcl hlo hhi hcount hv
      have hall : ∀ i, i < hi → listed.getD i false = true := by
        intro i hi1
        have h5 := cnt listed.toList hi (by simp; omega) (by
          intro j h1 h2
          have h3 : j < listed.size := by simpa using h2
          have := hhi j h1 (by omega)
          simp [h3] at this; simp [h3, this])
        rcases h5 with h5 | h5
        · have hi' : i < listed.size := by omega
          have := h5 i hi1
          cases e : listed.getD i false with
          | true => rfl
          | false => simp [hi'] at e this; rw [e] at this; cases this
        · simp only [Array.length_toList] at h5; omega
      rw [Nat.zero_add]
      refine he _ a w hall hv listed hsz ?_
      intro j hj
      by_cases e : j < hi
      · rw [hall j e]; simp [e]
      · rw [hhi j (by omega) hj]; simp [e]
    | succ n ih =>
      intro listed a w hsz hcl hlo hhi hcount hv
      rw [show n + 1 + (ops.size - hi) = (n + (ops.size - hi)) + 1 by omega]
      refine ⟨fun hr => ?_, fun i hi1 => ?_⟩
      · exfalso
        have hex : ∃ i, i < ops.size ∧ listed.getD i false = false := by
          have hne : listed.toList.filter (fun b => !b) ≠ [] := by intro q; rw [q] at hcount; simp at hcount; omega
          obtain ⟨b, hb⟩ := List.exists_mem_of_ne_nil _ hne
          obtain ⟨hb1, hb2⟩ := List.mem_filter.1 hb
          obtain ⟨i, hi, hib⟩ := List.mem_iff_getElem.1 hb1
          have hi' : i < listed.size := by simpa using hi
          refine ⟨i, by omega, ?_⟩
          have : listed[i] = b := by simpa using hib
          simp [hi', this]; simpa using hb2
        have hmin : ∀ n i, i ≤ n → i < ops.size → listed.getD i false = false → ∃ j, j ∈ Region.ready .any ops listed := by
          intro n
          induction n with
          | zero =>
            intro i hin hi hli
            have : i = 0 := by omega
            subst this
            refine ⟨0, ready_of hi (by have hi' : 0 < listed.size := by omega
                                       simp [hi'] at hli ⊢; exact hli) fun q hq => ?_⟩
            have := mk_lt htb hi hq; omega
          | succ n ihn =>
            intro i hin hi hli
            by_cases hd : ∀ q ∈ direct ops i, listed.getD q false = true
            · exact ⟨i, ready_of hi (by have hi' : i < listed.size := by omega
                                        simp [hi'] at hli ⊢; exact hli) hd⟩
            · have : ∃ q, q ∈ direct ops i ∧ listed.getD q false = false := by
                apply Classical.byContradiction
                intro hno
                exact hd fun q hq => by
                  cases e : listed.getD q false with
                  | true => rfl
                  | false => exact absurd ⟨q, hq, e⟩ hno
              obtain ⟨q, hq, hql⟩ := this
              have := mk_lt htb hi hq
              exact ihn q (by omega) (by omega) hql
        obtain ⟨i, hi, hli⟩ := hex
        obtain ⟨j, hj⟩ := hmin i i (Nat.le_refl _) hi hli
        rw [hr] at hj; cases hj
      · obtain ⟨q1, q2, q3⟩ := ready_spec hi1
        have hi' : i < listed.size := by omega
        have q4 : listed.getD i false = false := by simp [hi'] at q2 ⊢; exact q2
        have hilo : lo ≤ i := by
          rcases Nat.lt_or_ge i lo with h | h
          · rw [hlo i h] at q4; cases q4
          · exact h
        have hdone : ¬ (hi ≤ i) := by
          intro hge
          -- all below hi have come up: then nothing is left of the stretch
          have hall : ∀ q, q < hi → listed.getD q false = true := fun q hq => mk_ready htb hcl q1 q3 (cut_bit hcut hge (by omega) hq)
          have h6 : (listed.toList.filter (fun b => !b)).length ≤ ops.size - hi := by
            have h7 : ∀ (l : List Bool) (h : Nat), (∀ j, j < h → j < l.length → l[j]? = some true) → (l.filter (fun b => !b)).length ≤ l.length - h := by
              intro l
              induction l with
              | nil => intro h _; simp
              | cons b l ih2 =>
                intro h hf
                cases h with
                | zero => exact Nat.le_trans (List.length_filter_le _ _) (by omega)
                | succ h =>
                  have : b = true := by simpa using hf 0 (by omega) (by simp)
                  subst this
                  have := ih2 h (fun j h1 h2 => by simpa using hf (j + 1) (by omega) (by simp; omega))
                  simp; omega
            have := h7 listed.toList hi (fun j h1 h2 => by
              have h3 : j < listed.size := by simpa using h2
              have := hall j h1
              simp [h3] at this; simp [h3, this])
            simpa [hsz] using this
          omega
        have hihi : i < hi := by omega
        have hstep := hst.get (i - lo) (by omega)
        have hpfi := hpf (i - lo) (by omega)
        rw [show lo + (i - lo) = i by omega] at hstep hpfi
        have hP : ∀ p ∈ (tb.getD (i - lo) ([], [])).1, listed.getD p false = true := fun p hp => mk_ready htb hcl q1 q3 (hpfi.1 p hp)
        have hF : ∀ t ∈ (tb.getD (i - lo) ([], [])).2, listed.getD t false = false := by
          intro t ht
          have h8 := hpfi.2 t ht
          have h9 : t < hi := Nat.blt_eq ▸ h8.2
          cases e : listed.getD t false with
          | false => rfl
          | true => have := mk_down htb hcl t t (Nat.le_refl _) (by omega) e i h8.1; rw [q4] at this; cases this
        have hL : (fun j => listed.getD j false) = ovr (fun j => listed.getD j false) (tb.getD (i - lo) ([], [])).1 (i :: (tb.getD (i - lo) ([], [])).2) := by
          funext j
          simp only [ovr]
          cases h1 : memN j (tb.getD (i - lo) ([], [])).1 with
          | true => exact hP j (memN_iff.1 h1)
          | false =>
            cases h2 : memN j (i :: (tb.getD (i - lo) ([], [])).2) with
            | false => rfl
            | true =>
              rcases List.mem_cons.1 (memN_iff.1 h2) with q | q
              · subst q; exact q4
              · exact hF j q
        rw [hL] at hv
        refine hstep _ a w hv _ _ fun a' w' hv' => ?_
        have hset : ∀ j, (listed.setIfInBounds i true).getD j false = updL (fun j => listed.getD j false) i j := by
          intro j
          simp only [updL]
          by_cases e : j = i
          · subst e; simp [hi']
          · rw [nbeq_ne e]
            simp only [cond_false]
            simp only [Array.getD_eq_getD_getElem?, Array.getElem?_setIfInBounds, if_neg (fun q => e q.symm : ¬ i = j)]
        refine ih (listed.setIfInBounds i true) a' w' (by simpa using hsz) ?_ ?_ ?_ ?_ ?_
        · intro j hj hl q hq
          rw [hset] at hl ⊢
          simp only [updL] at hl ⊢
          by_cases e : j = i
          · subst e
            have := q3 q hq
            by_cases e' : q = j
            · subst e'; simp
            · rw [nbeq_ne e']; exact this
          · rw [nbeq_ne e] at hl
            have := hcl j hj hl q hq
            by_cases e' : q = i
            · subst e'; simp
            · rw [nbeq_ne e']; exact this
        · intro j hj
          rw [hset]; simp only [updL]
          rw [nbeq_ne (by omega)]; exact hlo j hj
        · intro j hj1 hj2
          rw [hset]; simp only [updL]
          rw [nbeq_ne (by omega)]; exact hhi j hj1 hj2
        · have hc2 : ∀ (l : List Bool) (i : Nat), l[i]? = some false → ((l.set i true).filter (fun b => !b)).length + 1 = (l.filter (fun b => !b)).length := by
            intro l
            induction l with
            | nil => intro i h; simp at h
            | cons b l ihl =>
              intro i h
              cases i with
              | zero => simp at h; subst h; simp
              | succ i =>
                have := ihl i (by simpa using h)
                cases b <;> simp <;> omega
          have h5 : listed.toList[i]? = some false := by
            have : listed[i]? = some false := by
              rw [Array.getElem?_eq_getElem hi']; simp [hi'] at q4; rw [q4]
            simpa using this
          have := hc2 listed.toList i h5
          rw [Array.toList_setIfInBounds]
          omega
        · have h6 : (fun j => (listed.setIfInBounds i true).getD j false) = updL (ovr (fun j => listed.getD j false) (tb.getD (i - lo) ([], [])).1 (i :: (tb.getD (i - lo) ([], [])).2)) i := by
            rw [← hL]; funext j; exact hset j
          rw [h6]; exact hv'
  intro a w hs listed hsz hl
  have e : ops.size - lo = (hi - lo) + (ops.size - hi) := by omega
  rw [e]
  refine key (hi - lo) listed a w hsz ?_ ?_ ?_ ?_ ?_
  · intro i hi1 h q hq
    have hqi := mk_lt htb hi1 hq
    rw [hl i hi1] at h
    rw [hl q (by omega)]
    simp at h ⊢; omega
  · intro j hj; rw [hl j (by omega)]; simp [hj]
  · intro j h1 h2; rw [hl j h2]; simp; omega
  · have h7 : ∀ (l : List Bool) (h : Nat), h ≤ l.length → (∀ j, j < l.length → l[j]? = some (decide (j < h))) → (l.filter (fun b => !b)).length = l.length - h := by
      intro l
      induction l with
      | nil => intro h _ _; simp
      | cons b l ih2 =>
        intro h hl hf
        cases h with
        | zero =>
          have : b = false := by simpa using hf 0 (by simp)
          subst this
          have := ih2 0 (by omega) (fun j h2 => by simpa using hf (j + 1) (by simp; omega))
          simp only [List.filter_cons, Bool.not_false, if_true, List.length_cons, Nat.sub_zero] at this ⊢; omega
        | succ h =>
          have : b = true := by simpa using hf 0 (by simp)
          subst this
          have := ih2 h (by simpa using hl) (fun j h2 => by simpa using hf (j + 1) (by simp; omega))
          simp; omega
    have := h7 listed.toList lo (by simp; omega) (fun j h2 => by
      have h3 : j < listed.size := by simpa using h2
      have := hl j (by omega)
      simp [h3] at this; simp [h3, this])
    rw [this]; simp only [Array.length_toList]; omega
  · have e9 : (fun j => listed.getD j false) = (fun j => Nat.blt j lo) := by
      funext j
      by_cases hj : j < ops.size
      · rw [hl j hj, Bool.eq_iff_iff]; simp
      · have h1 : listed.getD j false = false := by simp [show ¬ j < listed.size by omega]
        rw [h1, eq_comm]
        cases e : Nat.blt j lo with
        | false => rfl
        | true => have : j < lo := Nat.blt_eq ▸ e
                  omega
    rw [e9]; exact h0 a w hs

/-- one operation that all orders put here -/
theorem TA_op {lo : Nat} {o : Oper} {Ks : St → Prop} (htb : mkOk ops M = true) (hcut : cutB M (lo + 1) = true) (ho : ops[lo]? = some o) (hop : ∀ a w, Sat c s a w → ∀ (K : Act → World → Prop) (Q : Exit → Act → World → Prop), (∀ s', Ks s' → ∀ a' w', Sat c s' a' w' → K a' w') → wpOp c.P ops Q lo K a w) (h : ∀ s', Ks s' → TA c ops k (lo + 1) s') : TA c ops k lo s := by
  have hlt : lo < ops.size := (Array.getElem?_eq_some_iff.1 ho).1
  have hML : M.length = ops.size := by
    simp only [mkOk, Bool.and_eq_true, beq_iff_eq] at htb; exact htb.1
  intro a w hs listed hsz hl
  have hcl : ∀ i, i < ops.size → listed.getD i false = true → ∀ q ∈ direct ops i, listed.getD q false = true := by
    intro i hi1 h q hq
    have hqi := mk_lt htb hi1 hq
    rw [hl i hi1] at h
    rw [hl q (by omega)]
    simp at h ⊢; omega
  rw [show ops.size - lo = (ops.size - (lo + 1)) + 1 by omega]
  refine ⟨fun hr => ?_, fun i hi1 => ?_⟩
  · exfalso
    have : lo ∈ Region.ready .any ops listed := ready_of hlt (by
      have hi' : lo < listed.size := by omega
      have := hl lo hlt
      simp [hi'] at this ⊢; exact this) (fun q hq => by
      have := mk_lt htb hlt hq
      rw [hl q (by omega)]; simp; omega)
    rw [hr] at this; cases this
  · obtain ⟨q1, q2, q3⟩ := ready_spec hi1
    have hi' : i < listed.size := by omega
    have q4 : listed.getD i false = false := by simp [hi'] at q2 ⊢; exact q2
    rw [hl i q1] at q4
    have hge : lo ≤ i := by simp at q4; omega
    have hi0 : i = lo := by
      rcases Nat.lt_or_ge lo i with h1 | h1
      · have := mk_ready htb hcl q1 q3 (cut_bit (q := lo) hcut (by omega) (by omega) (by omega))
        rw [hl lo hlt] at this; simp at this
      · omega
    subst hi0
    refine hop a w hs _ _ fun s' hk a' w' hs' => ?_
    refine h s' hk a' w' hs' (listed.setIfInBounds i true) (by simpa using hsz) ?_
    intro j hj
    by_cases e : j = i
    · subst e; simp [hi']
    · have h0 := hl j hj
      simp only [Array.getD_eq_getD_getElem?, Array.getElem?_setIfInBounds, if_neg (fun q => e q.symm : ¬ i = j)] at h0 ⊢
      rw [h0]
      simp; omega
theorem TA_step {lo : Nat} {o : Oper} {s' : St} (htb : mkOk ops M = true) (hcut : cutB M (lo + 1) = true) (ho : ops[lo]? = some o) (hg : o.guard = none) (hop : OpT c o s (fun x => x = s')) (h : TA c ops k (lo + 1) s') : TA c ops k lo s :=
  TA_op htb hcut ho (fun a w hs K Q hK => wpOp_go ho hg hs hop hK) (fun _ e => e ▸ h)
theorem TA_ex {lo : Nat} {o : Oper} {α : Type} {f : α → St} (htb : mkOk ops M = true) (hcut : cutB M (lo + 1) = true) (ho : ops[lo]? = some o) (hg : o.guard = none) (hop : OpT c o s (fun x => ∃ y, x = f y)) (h : ∀ y, TA c ops k (lo + 1) (f y)) : TA c ops k lo s :=
  TA_op htb hcut ho (fun a w hs K Q hK => wpOp_go ho hg hs hop hK) (fun _ ⟨y, e⟩ => e ▸ h y)
theorem TA_exP {lo : Nat} {o : Oper} {Ks : St → Prop} (htb : mkOk ops M = true) (hcut : cutB M (lo + 1) = true) (ho : ops[lo]? = some o) (hg : o.guard = none) (hop : OpT c o s Ks) (h : ∀ s', Ks s' → TA c ops k (lo + 1) s') : TA c ops k lo s :=
  TA_op htb hcut ho (fun a w hs K Q hK => wpOp_go ho hg hs hop hK) h
theorem TA_yes {lo : Nat} {o : Oper} {Ks : St → Prop} {j : Nat} {b : Bool} {d : Nat} (htb : mkOk ops M = true) (hcut : cutB M (lo + 1) = true) (ho : ops[lo]? = some o) (hg : o.guard = some (j, b)) (hd : ((ops[j]?).bind (·.dst)) = some d) (hl : lk s.fr d = some (.bool b)) (hop : OpT c o s Ks) (h : ∀ s', Ks s' → TA c ops k (lo + 1) s') : TA c ops k lo s :=
  TA_op htb hcut ho (fun a w hs K Q hK => wpOp_yes ho hg hd hs hl hop hK) h
theorem TA_no {lo : Nat} {o : Oper} {j : Nat} {b : Bool} {d e : Nat} {fr : List (Nat × Option Value)} {own : List (Option Res)} {shr : List Fact} (htb : mkOk ops M = true) (hcut : cutB M (lo + 1) = true) (ho : ops[lo]? = some o) (hg : o.guard = some (j, b)) (hd : ((ops[j]?).bind (·.dst)) = some d) (hl : lk fr d = some (.bool (!b)))
    (he : o.dst = some e) (hn : Nat.blt e c.n = true) (h : TA c ops k (lo + 1) ⟨(e, some undef) :: fr, own, shr⟩) : TA c ops k lo ⟨fr, own, shr⟩ :=
  TA_op (Ks := fun x => x = ⟨(e, some undef) :: fr, own, shr⟩) htb hcut ho (fun a w hs K Q hK => wpOp_no ho hg hd hs hl he hn (fun a' w' hs' => hK _ rfl a' w' hs')) (fun _ e => e ▸ h)
theorem TA_tb {lo : Nat} (M : List Nat) (h : mkOk ops M = true) (f : mkOk ops M = true → TA c ops k lo s) : TA c ops k lo s := f h
theorem TA_wkS {lo : Nat} (ts is js : List Nat) {fr' : List (Nat × Option Value)} {own' : List (Option Res)} {shr' : List Fact} (hn : nodupB is = true) (hf : sel s.fr ts = fr') (ho : pick s.own is = own') (hs : pickT s.shr js = shr') (h : TA c ops k lo ⟨fr', own', shr'⟩) : TA c ops k lo s :=
  fun a w hh => h a w (hh.wkS ts is js hn hf ho hs)
variable {fr : List (Nat × Option Value)} {own : List (Option Res)} {shr : List Fact} {τ : Type} {S : Shape τ} {lo : Nat}
theorem TA_nilrow (S : Shape τ) (h : TA c ops k lo ⟨fr, own ++ [some (rowS S (.slice none 0 0) [])], shr⟩) : TA c ops k lo ⟨fr, own, shr⟩ := fun a w hs => h a w ⟨hs.1, hs.2.1, hs.2.2.1, hs.2.2.2.nilrow S⟩
end
end Go.Proofs.Ytlofegfaphijpaa

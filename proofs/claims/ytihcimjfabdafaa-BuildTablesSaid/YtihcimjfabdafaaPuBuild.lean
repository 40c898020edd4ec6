/- Buffers that are built: chains and tables. No condition. -/
import Derived.Test.YtihcimjfabdafaaPuSeg
import Derived.Test.YtihcimjfabdafaaPuDesc
namespace Go.Proofs.Ytihcimjfabdafaa
theorem cDb {P : Prop} [Decidable P] {ρ : Type} {k : Option ρ} (h : P) : chk (decide P) k = k := by rw [decide_eq_true h]; rfl
/-- what stands at a place; a list by its places -/
def genL {α : Type} (f : Nat → α) : Nat → Nat → List α
  | _, 0 => []
  | i, k + 1 => f i :: genL f (i + 1) k
theorem genL_len {α : Type} (f : Nat → α) : ∀ (k i : Nat), (genL f i k).length = k
  | 0, _ => rfl
  | k + 1, i => by simp only [genL, List.length_cons, genL_len f k]
theorem genL_get {α : Type} (f : Nat → α) : ∀ (k i j : Nat), j < k → (genL f i k)[j]? = some (f (i + j))
  | 0, _, _, h => absurd h (Nat.not_lt_zero _)
  | k + 1, i, 0, _ => rfl
  | k + 1, i, j + 1, h => by
    simp only [genL, List.getElem?_cons_succ]
    rw [genL_get f k (i + 1) j (by omega)]
    exact congrArg (fun t => some (f t)) (by omega)
theorem genL_snoc {α : Type} (f : Nat → α) : ∀ (k i : Nat), genL f i (k + 1) = genL f i k ++ [f (i + k)]
  | 0, i => rfl
  | k + 1, i => by
    rw [genL, genL_snoc f k (i + 1), genL, List.cons_append, show i + 1 + k = i + (k + 1) by omega]
theorem ixD {α : Type} {l : List α} {i : Nat} (d : α) (h : i < l.length) : ix l (i : Int) = some (l.getD i d) := by
  rw [ix_nat (getq h)]; simp [h]
def sgS (l : List Seg) (i : Nat) : Seg := l.getD i (Seg.mk 0 0 false)
/-! errors -/
def errB (l : List Seg) : Int := if errS l = 0 then (if l.length = 0 then 2 else 0) else errS l
theorem errB_zero {l : List Seg} : errB l = 0 ↔ goodS l ∧ l ≠ [] := by
  unfold errB
  by_cases h : errS l = 0
  · rw [if_pos h]
    by_cases h0 : l.length = 0
    · rw [if_pos h0]; have := List.eq_nil_of_length_eq_zero h0; simp [this]
    · rw [if_neg h0]; exact ⟨fun _ => ⟨errS_zero.1 h, fun q => h0 (by rw [q]; rfl)⟩, fun _ => rfl⟩
  · rw [if_neg h]; exact ⟨fun q => absurd q h, fun q => absurd (errS_zero.2 q.1) h⟩
theorem wrong1_eq (b : Bool) : build_wrong_1 b = some (if b = true then 2 else 0) := by cases b <;> rfl
theorem wrong_eq (b : Bool) : build_wrong b = some (some (if b = true then 2 else 0)) := by unfold build_wrong; rw [wrong1_eq]
theorem buffer1_eq (l : List Seg) : build_buffer_1 l = some (errB l) := by
  unfold build_buffer_1 errB
  rw [oS (segCheck l)]
  by_cases h : errS l = 0
  · rw [nE h, oS (wrong_eq _), obS, if_pos h]
    by_cases h0 : l.length = 0
    · rw [if_pos h0]; simp [len, h0]
    · rw [if_neg h0, beq_false_of_ne (show len l ≠ 0 by simp only [len]; omega), if_neg (by decide)]
  · rw [nF h, if_neg h]
theorem buffer_eq (l : List Seg) : build_buffer l = some (some (errB l)) := by unfold build_buffer; rw [buffer1_eq]
theorem first1_eq (a : Int) : build_first [some a] = some a := by
  have e : build_first [some a] = br (a != 0) (some a) (some 0) := by kernel_rfl
  rw [e]
  by_cases h : a = 0
  · rw [nE h, h]
  · rw [nF h]
/-! numbers that are apart -/
def inR (x : Int) : Bool := decide (0 ≤ x) && decide (x < 32768)
theorem isID_eq (x : Int) : build_isID x = some (inR x) := by
  unfold build_isID inR
  by_cases h : 0 ≤ x
  · rw [bP h, decide_eq_true h]; rfl
  · rw [bN h, decide_eq_false h]; rfl
/-! descriptors -/
def flgS (w m : Bool) : UInt16 := (if w = true then 2 else 0) ||| (if m = true then 1 else 0)
theorem smade_eq (y : build_split) (s : Seg) (m : Bool) : build_split_made y s m = some ⟨⟨s.At, s.Len, flgS s.Write m, if m = true then u16 y.next else 0⟩, y.next⟩ := by
  unfold build_split_made build_split_madeJ1 flgS
  cases s.Write <;> cases m <;> rfl
theorem schainL (l : List Seg) (of : Int → Option build_split) (y : Nat → build_split) (hl : l.length ≤ 1000) (ho : ∀ i, i < l.length → of (i : Int) = some (y i)) : ∀ (nf i : Nat) (out : List build_split), i ≤ l.length → l.length - i < nf → out.length = i →
    build_chain_buildsplitL1 l of nf out (i : Int) = some (out ++ genL (fun j => ⟨⟨(sgS l j).At, (sgS l j).Len, flgS (sgS l j).Write (decide (j + 1 < l.length)), if j + 1 < l.length then u16 (y j).next else 0⟩, (y j).next⟩) i (l.length - i))
  | 0, i, out, _, h, _ => absurd h (Nat.not_lt_zero _)
  | nf + 1, i, out, hi, hn, hlo => by
    unfold build_chain_buildsplitL1 build_chain_buildsplitL1B
    by_cases h : i < l.length
    · have hw : decide (wi ((i : Int) + 1) < len l) = decide (i + 1 < l.length) := by
        rw [wi_succ (by omega)]; simp only [len]; exact decide_eq_decide.2 (by omega)
      rw [bP (by simp only [len]; omega), oS (ixD (Seg.mk 0 0 false) h), oS (ho i h), hw, oS (smade_eq _ _ _), cFits (by simp; omega), wi_succ (by omega)]
      rw [schainL l of y hl ho nf (i + 1) _ (by omega) (by omega) (by simp [hlo]), show l.length - i = (l.length - (i + 1)) + 1 by omega, genL, List.append_assoc]
      simp only [List.singleton_append, decide_eq_true_eq]
      rfl
    · rw [bN (by simp only [len]; omega), show l.length - i = 0 by omega]; simp [genL]
theorem schain_eq (l : List Seg) (of : Int → Option build_split) (y : Nat → build_split) (hl : l.length ≤ 1000) (ho : ∀ i, i < l.length → of (i : Int) = some (y i)) :
    build_chain_buildsplit l of = some (genL (fun j => ⟨⟨(sgS l j).At, (sgS l j).Len, flgS (sgS l j).Write (decide (j + 1 < l.length)), if j + 1 < l.length then u16 (y j).next else 0⟩, (y j).next⟩) 0 l.length) := by
  unfold build_chain_buildsplit
  rw [cDb (by simp only [len]; omega)]
  have := schainL l of y hl ho fuel 0 [] (by omega) (by rw [fuelS]; omega) rfl
  exact this
theorem schain_ex (l : List Seg) (of : Int → Option build_split) (y : Nat → build_split) (hl : l.length ≤ 1000) (ho : ∀ i, i < l.length → of (i : Int) = some (y i)) :
    ∃ C, build_chain_buildsplit l of = some C ∧ C.length = l.length ∧ ∀ i (h : i < C.length), C[i].Desc = ⟨(sgS l i).At, (sgS l i).Len, flgS (sgS l i).Write (decide (i + 1 < l.length)), if i + 1 < l.length then u16 (y i).next else 0⟩ := by
  refine ⟨_, schain_eq l of y hl ho, genL_len .., fun i h => ?_⟩
  rw [genL_len] at h
  have hg := genL_get (fun j => build_split.mk ⟨(sgS l j).At, (sgS l j).Len, flgS (sgS l j).Write (decide (j + 1 < l.length)), if j + 1 < l.length then u16 (y j).next else 0⟩ (y j).next) l.length 0 i h
  obtain ⟨hz, hz2⟩ := List.getElem?_eq_some_iff.1 hg
  rw [hz2, Nat.zero_add]
/-- a descriptor of a split chain -/
def dS (ids : List Int) (l : List Seg) (i : Nat) : Desc := ⟨(sgS l i).At, (sgS l i).Len, flgS (sgS l i).Write (decide (i + 1 < l.length)), if i + 1 < l.length then u16 (ids.getD (i + 1) 0) else 0⟩
end Go.Proofs.Ytihcimjfabdafaa

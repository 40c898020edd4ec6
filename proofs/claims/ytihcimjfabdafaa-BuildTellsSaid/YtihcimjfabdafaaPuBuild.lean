/- Buffers that are built: chains and tables. No condition. -/
import Derived.Test.YtihcimjfabdafaaPuSeg
import Derived.Test.YtihcimjfabdafaaPuDesc
namespace Go.Proofs.Ytihcimjfabdafaa
theorem cDb {P : Prop} [Decidable P] {ρ : Type} {k : Option ρ} (h : P) : chk (decide P) k = k := by rw [decide_eq_true h]; rfl
/-- what stands at a place; a list by its places -/
def genL {α : Type} (f : Nat → α) : Nat → Nat → List α
  | _, 0 => []
  | i, k + 1 => f i :: genL f (i + 1) k
theorem genL_len {α : Type} (f : Nat → α) : ∀ (k i : Nat), (genL f i k).length = k
  | 0, _ => rfl
  | k + 1, i => by simp only [genL, List.length_cons, genL_len f k]
theorem genL_get {α : Type} (f : Nat → α) : ∀ (k i j : Nat), j < k → (genL f i k)[j]? = some (f (i + j))
  | 0, _, _, h => absurd h (Nat.not_lt_zero _)
  | k + 1, i, 0, _ => rfl
  | k + 1, i, j + 1, h => by
    simp only [genL, List.getElem?_cons_succ]
    rw [genL_get f k (i + 1) j (by omega)]
    exact congrArg (fun t => some (f t)) (by omega)
theorem genL_snoc {α : Type} (f : Nat → α) : ∀ (k i : Nat), genL f i (k + 1) = genL f i k ++ [f (i + k)]
  | 0, i => rfl
  | k + 1, i => by
    rw [genL, genL_snoc f k (i + 1), genL, List.cons_append, show i + 1 + k = i + (k + 1) by omega]
theorem ixD {α : Type} {l : List α} {i : Nat} (d : α) (h : i < l.length) : ix l (i : Int) = some (l.getD i d) := by
  rw [ix_nat (getq h)]; simp [h]
def sgS (l : List Seg) (i : Nat) : Seg := l.getD i (Seg.mk 0 0 false)
/-! errors -/
def errB (l : List Seg) : Int := if errS l = 0 then (if l.length = 0 then 2 else 0) else errS l
theorem errB_zero {l : List Seg} : errB l = 0 ↔ goodS l ∧ l ≠ [] := by
  unfold errB
  by_cases h : errS l = 0
  · rw [if_pos h]
    by_cases h0 : l.length = 0
    · rw [if_pos h0]; have := List.eq_nil_of_length_eq_zero h0; simp [this]
    · rw [if_neg h0]; exact ⟨fun _ => ⟨errS_zero.1 h, fun q => h0 (by rw [q]; rfl)⟩, fun _ => rfl⟩
  · rw [if_neg h]; exact ⟨fun q => absurd q h, fun q => absurd (errS_zero.2 q.1) h⟩
theorem wrong1_eq (b : Bool) : build_wrong_1 b = some (if b = true then 2 else 0) := by cases b <;> rfl
theorem wrong_eq (b : Bool) : build_wrong b = some (some (if b = true then 2 else 0)) := by unfold build_wrong; rw [wrong1_eq]
theorem buffer1_eq (l : List Seg) : build_buffer_1 l = some (errB l) := by
  unfold build_buffer_1 errB
  rw [oS (segCheck l)]
  by_cases h : errS l = 0
  · rw [nE h, oS (wrong_eq _), obS, if_pos h]
    by_cases h0 : l.length = 0
    · rw [if_pos h0]; simp [len, h0]
    · rw [if_neg h0, beq_false_of_ne (show len l ≠ 0 by simp only [len]; omega), if_neg (by decide)]
  · rw [nF h, if_neg h]
theorem buffer_eq (l : List Seg) : build_buffer l = some (some (errB l)) := by unfold build_buffer; rw [buffer1_eq]
theorem first1_eq (a : Int) : build_first [some a] = some a := by
  have e : build_first [some a] = br (a != 0) (some a) (some 0) := by kernel_rfl
  rw [e]
  by_cases h : a = 0
  · rw [nE h, h]
  · rw [nF h]
theorem first2_eq (a b : Int) : build_first [some a, some b] = some (if a ≠ 0 then a else b) := by
  have e : build_first [some a, some b] = br (a != 0) (some a) (br (b != 0) (some b) (some 0)) := by kernel_rfl
  rw [e]
  by_cases h : a = 0
  · rw [nE h, if_neg (by simp [h])]
    by_cases h2 : b = 0
    · rw [nE h2, h2]
    · rw [nF h2]
  · rw [nF h, if_pos h]
/-! numbers that are apart -/
def inR (x : Int) : Bool := decide (0 ≤ x) && decide (x < 32768)
def apR : List Int → List Int → Bool
  | _, [] => true
  | seen, x :: r => inR x && !seen.contains x && apR (seen ++ [x]) r
theorem isID_eq (x : Int) : build_isID x = some (inR x) := by
  unfold build_isID inR
  by_cases h : 0 ≤ x
  · rw [bP h, decide_eq_true h]; rfl
  · rw [bN h, decide_eq_false h]; rfl
theorem mgpB (q k : Int) : ∀ m : List (Int × Bool), mget false q (mput k true m) = if q = k then true else mget false q m
  | [] => by
    by_cases h : q = k
    · subst h; simp [mput, mget]
    · simp [mput, mget, h]
  | p :: r => by
    unfold mput
    by_cases h : k = p.1
    · rw [show (k == p.1) = true by simp [h]]
      simp only [cond_true, mget]
      by_cases h2 : q = k
      · rw [if_pos h2, h2, beqI]; rfl
      · have h3 : q ≠ p.1 := fun z => h2 (z.trans h.symm)
        rw [if_neg h2, beq_false_of_ne h2, beq_false_of_ne h3]; rfl
    · rw [show (k == p.1) = false by simp [h]]
      simp only [cond_false, mget]
      by_cases h2 : q = p.1
      · have : q ≠ k := fun z => h (z.symm.trans h2)
        simp [h2, this] at *
        simp [Ne.symm h]
      · simp only [beq_false_of_ne h2, cond_false]; exact mgpB q k r
theorem apartL (ids : List Int) (hl : ids.length ≤ 1000) : ∀ (nf i : Nat) (m : List (Int × Bool)), i ≤ ids.length → ids.length - i < nf → (∀ q, mget false q m = (ids.take i).contains q) →
    build_apartL1 ids nf m (i : Int) = some (apR (ids.take i) (ids.drop i))
  | 0, i, m, _, h, _ => absurd h (Nat.not_lt_zero _)
  | nf + 1, i, m, hi, hn, hm => by
    unfold build_apartL1 build_apartL1B
    by_cases h : i < ids.length
    · rw [bP (by simp only [len]; omega), oS (ix_nat (getq h)), oS (isID_eq _), drop_ix h, apR, hm]
      cases inR ids[i] with
      | false => rw [notF, brT]; rfl
      | true =>
        rw [notT, brF]
        cases hc : (ids.take i).contains ids[i] with
        | true => rw [brT]; rfl
        | false =>
          rw [brF, wi_succ (by omega)]
          have e : ids.take i ++ [ids[i]] = ids.take (i + 1) := by rw [List.take_succ_eq_append_getElem h]
          have := apartL ids hl nf (i + 1) (mput ids[i] true m) (by omega) (by omega) (fun q => by
            rw [mgpB, ← e, List.contains_append, hm q]
            by_cases z : q = ids[i]
            · rw [if_pos z, z]; simp
            · rw [if_neg z]; simp [z])
          rw [this, e]; rfl
    · rw [bN (by simp only [len]; omega), List.drop_of_length_le (by omega)]; rfl
theorem apart_eq (ids : List Int) (hl : ids.length ≤ 1000) : build_apart ids = some (apR [] ids) := by
  have := apartL ids hl fuel 0 [] (by omega) (by rw [fuelS]; omega) (fun q => by simp [mget])
  unfold build_apart
  simpa using this
/-! descriptors -/
def flgS (w m : Bool) : UInt16 := (if w = true then 2 else 0) ||| (if m = true then 1 else 0)
theorem smade_eq (y : build_split) (s : Seg) (m : Bool) : build_split_made y s m = some ⟨⟨s.At, s.Len, flgS s.Write m, if m = true then u16 y.next else 0⟩, y.next⟩ := by
  unfold build_split_made build_split_madeJ1 flgS
  cases s.Write <;> cases m <;> rfl
theorem pmade_eq (y : build_packed) (s : Seg) (m : Bool) : build_packed_made y s m = ob (desc_Mark (flgS s.Write m) y.wrap false) fun f => some ⟨⟨s.At, s.Len, u16 y.id, f⟩, y.id, y.wrap⟩ := by
  unfold build_packed_made build_packed_madeJ1 build_packed_madeJ2 flgS
  cases s.Write <;> cases m <;> rfl
theorem schainL (l : List Seg) (of : Int → Option build_split) (y : Nat → build_split) (hl : l.length ≤ 1000) (ho : ∀ i, i < l.length → of (i : Int) = some (y i)) : ∀ (nf i : Nat) (out : List build_split), i ≤ l.length → l.length - i < nf → out.length = i →
    build_chain_buildsplitL1 l of nf out (i : Int) = some (out ++ genL (fun j => ⟨⟨(sgS l j).At, (sgS l j).Len, flgS (sgS l j).Write (decide (j + 1 < l.length)), if j + 1 < l.length then u16 (y j).next else 0⟩, (y j).next⟩) i (l.length - i))
  | 0, i, out, _, h, _ => absurd h (Nat.not_lt_zero _)
  | nf + 1, i, out, hi, hn, hlo => by
    unfold build_chain_buildsplitL1 build_chain_buildsplitL1B
    by_cases h : i < l.length
    · have hw : decide (wi ((i : Int) + 1) < len l) = decide (i + 1 < l.length) := by
        rw [wi_succ (by omega)]; simp only [len]; exact decide_eq_decide.2 (by omega)
      rw [bP (by simp only [len]; omega), oS (ixD (Seg.mk 0 0 false) h), oS (ho i h), hw, oS (smade_eq _ _ _), cFits (by simp; omega), wi_succ (by omega)]
      rw [schainL l of y hl ho nf (i + 1) _ (by omega) (by omega) (by simp [hlo]), show l.length - i = (l.length - (i + 1)) + 1 by omega, genL, List.append_assoc]
      simp only [List.singleton_append, decide_eq_true_eq]
      rfl
    · rw [bN (by simp only [len]; omega), show l.length - i = 0 by omega]; simp [genL]
theorem schain_eq (l : List Seg) (of : Int → Option build_split) (y : Nat → build_split) (hl : l.length ≤ 1000) (ho : ∀ i, i < l.length → of (i : Int) = some (y i)) :
    build_chain_buildsplit l of = some (genL (fun j => ⟨⟨(sgS l j).At, (sgS l j).Len, flgS (sgS l j).Write (decide (j + 1 < l.length)), if j + 1 < l.length then u16 (y j).next else 0⟩, (y j).next⟩) 0 l.length) := by
  unfold build_chain_buildsplit
  rw [cDb (by simp only [len]; omega)]
  have := schainL l of y hl ho fuel 0 [] (by omega) (by rw [fuelS]; omega) rfl
  exact this
theorem schain_ex (l : List Seg) (of : Int → Option build_split) (y : Nat → build_split) (hl : l.length ≤ 1000) (ho : ∀ i, i < l.length → of (i : Int) = some (y i)) :
    ∃ C, build_chain_buildsplit l of = some C ∧ C.length = l.length ∧ ∀ i (h : i < C.length), C[i].Desc = ⟨(sgS l i).At, (sgS l i).Len, flgS (sgS l i).Write (decide (i + 1 < l.length)), if i + 1 < l.length then u16 (y i).next else 0⟩ := by
  refine ⟨_, schain_eq l of y hl ho, genL_len .., fun i h => ?_⟩
  rw [genL_len] at h
  have hg := genL_get (fun j => build_split.mk ⟨(sgS l j).At, (sgS l j).Len, flgS (sgS l j).Write (decide (j + 1 < l.length)), if j + 1 < l.length then u16 (y j).next else 0⟩ (y j).next) l.length 0 i h
  obtain ⟨hz, hz2⟩ := List.getElem?_eq_some_iff.1 hg
  rw [hz2, Nat.zero_add]
/-- a descriptor of a split chain -/
def dS (ids : List Int) (l : List Seg) (i : Nat) : Desc := ⟨(sgS l i).At, (sgS l i).Len, flgS (sgS l i).Write (decide (i + 1 < l.length)), if i + 1 < l.length then u16 (ids.getD (i + 1) 0) else 0⟩
def putS (ids : List Int) (l : List Seg) (i : Nat) : Put := ⟨ids.getD i 0, dS ids l i⟩
def splitF (ids : List Int) (l : List Seg) : List Put × Int := if errB l ≠ 0 then ([], errB l) else if ids.length ≠ l.length ∨ apR [] ids = false then ([], 2) else (genL (putS ids l) 0 l.length, 0)
theorem splitL (ids : List Int) (C : List build_split) (f : Nat → Put) (hl : C.length ≤ 1000) (hi : ids.length = C.length) (hf : ∀ i (h : i < C.length), f i = Put.mk (ids.getD i 0) C[i].Desc) : ∀ (nf i : Nat) (out : List Put), i ≤ C.length → C.length - i < nf → out.length = i →
    build_SplitL1 ids C nf out C (i : Int) = some (out ++ genL f i (C.length - i), 0)
  | 0, i, out, _, h, _ => absurd h (Nat.not_lt_zero _)
  | nf + 1, i, out, hi', hn, hlo => by
    unfold build_SplitL1 build_SplitL1B
    by_cases h : i < C.length
    · rw [bP (by simp only [len]; omega), oS (ix_nat (getq h)), oS (ixD 0 (by omega)), cFits (by simp; omega), wi_succ (by omega)]
      rw [splitL ids C f hl hi hf nf (i + 1) _ (by omega) (by omega) (by simp [hlo]), show C.length - i = (C.length - (i + 1)) + 1 by omega, genL, List.append_assoc, hf i h]
      rfl
    · rw [bN (by simp only [len]; omega), show C.length - i = 0 by omega]; simp [genL]
theorem splitL2_eq (ids : List Int) (C : List build_split) : ∀ nf : Nat, build_SplitL2 ids C nf = build_SplitL1 ids C nf
  | 0 => rfl
  | nf + 1 => by
    funext out l x
    show build_SplitL2B ids C (build_SplitL2 ids C nf) out l x = build_SplitL1B ids C (build_SplitL1 ids C nf) out l x
    rw [splitL2_eq ids C nf]; rfl
theorem split_eqB (ids : List Int) (l : List Seg) (h1 : ids.length ≤ 1000) : build_Split ids l = some (splitF ids l) := by
  unfold build_Split splitF
  rw [oS (buffer_eq l)]
  have hmain : errB l = 0 → ids.length = l.length → (ob (build_chain_buildsplit l (fun x => build_Split_1 x ids)) fun split1 => build_SplitL1 ids split1 fuel [] split1 (0 : Int)) = some (genL (putS ids l) 0 l.length, 0) := by
    intro he hle
    have hg := (errB_zero.1 he).1
    have h64 := hg.1
    obtain ⟨C, hc, hCl, hCi⟩ := schain_ex l (fun x => build_Split_1 x ids) (fun i => build_split.mk (Desc.mk 0 0 0 0) (if i + 1 < l.length then ids.getD (i + 1) 0 else 0)) (by omega) (fun i hi => by
      unfold build_Split_1
      rw [wi_succ (by omega)]
      by_cases h : i + 1 < l.length
      · rw [bP (by simp only [len]; omega), oS (ixD 0 (by omega)), if_pos h]
      · rw [bN (by simp only [len]; omega), if_neg h])
    rw [oS hc]
    have hL := splitL ids C (putS ids l) (by omega) (by omega) (fun i h => by
      rw [hCi i h]
      unfold putS dS
      by_cases h3 : i + 1 < l.length
      · simp only [h3, if_true]
      · simp only [h3, if_false]) fuel 0 [] (by omega) (by rw [fuelS]; omega) rfl
    rw [show C.length - 0 = l.length by omega] at hL
    exact hL
  by_cases hle : ids.length = l.length
  · rw [nE (by simp only [len]; omega), oS (apart_eq ids h1), oS (wrong_eq _), oS (first2_eq _ _)]
    by_cases he : errB l = 0
    · simp only [he, ne_eq, not_true_eq_false, if_false]
      cases ha : apR [] ids with
      | false => rw [if_pos (Or.inr rfl), notF, if_pos rfl]; rfl
      | true =>
        rw [if_neg (show ¬ (¬ ids.length = l.length ∨ true = false) by simp [hle]), notT, if_neg (by decide), nE rfl]
        simp only [splitL2_eq]
        exact hmain he hle
    · rw [if_pos he, if_pos he, nF he]
  · rw [nF (by simp only [len]; omega), oS (wrong_eq _), oS (first2_eq _ _)]
    by_cases he : errB l = 0
    · simp only [he, ne_eq, not_true_eq_false, if_false]
      rw [if_pos (Or.inl hle), if_pos trivial]; rfl
    · rw [if_pos he, if_pos he, nF he]
end Go.Proofs.Ytihcimjfabdafaa

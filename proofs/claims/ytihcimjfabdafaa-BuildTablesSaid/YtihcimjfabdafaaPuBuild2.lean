/- Buffers that are built: packed chains, tables, single descriptors. No condition. -/
import Derived.Test.YtihcimjfabdafaaPuBuild
import Derived.Test.YtihcimjfabdafaaPuDescRounds
namespace Go.Proofs.Ytihcimjfabdafaa
/-! positions -/
def szOk (n : Int) : Prop := 1 ≤ n ∧ n ≤ 32768
def posOk (p : Pos) (n : Int) : Prop := szOk n ∧ 0 ≤ p.At ∧ p.At < n
instance (n : Int) : Decidable (szOk n) := by unfold szOk; exact inferInstance
instance (p : Pos) (n : Int) : Decidable (posOk p n) := by unfold posOk; exact inferInstance
theorem isSize_eq (n : Int) : serial_isSize n = some (decide (szOk n)) := by
  unfold serial_isSize szOk
  by_cases h : n ≥ 1
  · rw [bP h]; exact congrArg some (decide_eq_decide.2 ⟨fun q => ⟨h, q⟩, fun q => q.2⟩)
  · rw [bN h]; exact congrArg some (decide_eq_false (fun q => h q.1)).symm
theorem pcheck_eq (p : Pos) (n : Int) : serial_Check p n = some (if posOk p n then 0 else 2) := by
  unfold serial_Check
  rw [oS (isSize_eq n)]
  by_cases h1 : szOk n
  · rw [decide_eq_true h1, notT, brF]
    by_cases h2 : p.At < 0
    · rw [bP h2, if_neg (fun q => by have := q.2.1; omega)]
    · rw [bN h2]
      by_cases h3 : p.At ≥ n
      · rw [bP h3, if_neg (fun q => by have := q.2.2; omega)]
      · rw [bN h3, if_pos ⟨h1, by omega, by omega⟩]
  · rw [decide_eq_false h1, notF, brT, if_neg (fun q => h1 q.1)]
/-! tables -/
def idsN (n : Nat) : List Int := genL (fun i => (i : Int)) 0 n
theorem idsN_get {n i : Nat} (h : i < n) : (idsN n).getD i 0 = (i : Int) := by
  have := genL_get (fun i => (i : Int)) n 0 i h
  unfold idsN
  rw [List.getD_eq_getElem?_getD, this]; simp
/-- the descriptors of a table -/
def tabS (l : List Seg) : List Desc := genL (dS (idsN l.length) l) 0 l.length
def tabF (l : List Seg) : List UInt8 × Int := if errB l ≠ 0 then ([], errB l) else ((tabS l).flatMap bsD, 0)
theorem dS_ids {l : List Seg} {i : Nat} : dS (idsN l.length) l i = ⟨(sgS l i).At, (sgS l i).Len, flgS (sgS l i).Write (decide (i + 1 < l.length)), if i + 1 < l.length then u16 ((i + 1 : Nat) : Int) else 0⟩ := by
  unfold dS
  by_cases h : i + 1 < l.length
  · rw [if_pos h, if_pos h, idsN_get h]
  · rw [if_neg h, if_neg h]
theorem stabL (C : List build_split) (f : Nat → Desc) (hl : C.length ≤ 1000) (hf : ∀ i (h : i < C.length), f i = C[i].Desc) : ∀ (nf i : Nat), i ≤ C.length → C.length - i < nf →
    build_SplitTableL1 C nf (genL f 0 i) C (i : Int) = some ((genL f 0 C.length).flatMap bsD, 0)
  | 0, i, _, h => absurd h (Nat.not_lt_zero _)
  | nf + 1, i, hi, hn => by
    unfold build_SplitTableL1 build_SplitTableL1B
    by_cases h : i < C.length
    · rw [bP (by simp only [len]; omega), oS (ix_nat (getq h)), cFits (by rw [genL_len]; simp; omega), wi_succ (by omega)]
      have := stabL C f hl hf nf (i + 1) (by omega) (by omega)
      rw [genL_snoc, Nat.zero_add, hf i h] at this
      exact this
    · have : i = C.length := by omega
      subst this
      rw [bN (by simp only [len]; omega), oS (tableD _ (by rw [genL_len]; omega))]
theorem stab_eq (l : List Seg) : build_SplitTable l = some (tabF l) := by
  unfold build_SplitTable tabF
  rw [oS (buffer_eq l), oS (first1_eq _)]
  by_cases he : errB l = 0
  · have h64 := (errB_zero.1 he).1.1
    rw [nE he, if_neg (by simp [he])]
    obtain ⟨C, hc, hCl, hCi⟩ := schain_ex l (fun x => build_SplitTable_1 x) (fun i => build_split.mk (Desc.mk 0 0 0 0) ((i + 1 : Nat) : Int)) (by omega) (fun i hi => by
      unfold build_SplitTable_1
      rw [wi_succ (by omega)])
    rw [oS hc]
    have := stabL C (dS (idsN l.length) l) (by omega) (fun i h => by rw [hCi i h, dS_ids]) fuel 0 (by omega) (by rw [fuelS]; omega)
    rw [hCl] at this
    exact this
  · rw [nF he, if_pos he]
def ptS (l : List Seg) (i : Nat) : Packed := ⟨(sgS l i).At, (sgS l i).Len, 0, if (sgS l i).Write = true then 2 else 0⟩
def ptabF (l : List Seg) : List UInt8 × Int := if errB l ≠ 0 then ([], errB l) else ((genL (ptS l) 0 l.length).flatMap bsP, 0)
theorem bsP_len (d : Packed) : (bsP d).length = 16 := rfl
theorem ptabL (l : List Seg) (hl : l.length ≤ 1000) : ∀ (nf i : Nat) (out : List UInt8), i ≤ l.length → l.length - i < nf → out.length = 16 * i →
    build_PackedTableL1 l nf out (i : Int) = some (out ++ (genL (ptS l) i (l.length - i)).flatMap bsP, 0)
  | 0, i, out, _, h, _ => absurd h (Nat.not_lt_zero _)
  | nf + 1, i, out, hi, hn, ho => by
    unfold build_PackedTableL1 build_PackedTableL1B
    by_cases h : i < l.length
    · have ih := ptabL l hl nf (i + 1) (out ++ bsP (ptS l i)) (by omega) (by omega) (by rw [List.length_append, bsP_len]; omega)
      have hJ : ∀ d, d = ptS l i → build_PackedTableJ2 (i : Int) (build_PackedTableL1 l nf) out d = some (out ++ (genL (ptS l) i (l.length - i)).flatMap bsP, 0) := by
        intro d hd
        unfold build_PackedTableJ2
        rw [oS (bytesP d), cFits (by rw [bsP_len]; omega), wi_succ (by omega), hd, ih, show l.length - i = (l.length - (i + 1)) + 1 by omega, genL, List.append_assoc]
        rfl
      rw [bP (by simp only [len]; omega), oS (ixD (Seg.mk 0 0 false) h)]
      show br (sgS l i).Write (build_PackedTableJ2 (i : Int) (build_PackedTableL1 l nf) out (Packed.mk (sgS l i).At (sgS l i).Len 0 2)) (build_PackedTableJ2 (i : Int) (build_PackedTableL1 l nf) out (Packed.mk (sgS l i).At (sgS l i).Len 0 0)) = _
      cases hw : (sgS l i).Write with
      | true => rw [brT, hJ _ (by unfold ptS; rw [hw]; rfl)]
      | false => rw [brF, hJ _ (by unfold ptS; rw [hw]; rfl)]
    · rw [bN (by simp only [len]; omega), show l.length - i = 0 by omega]; simp [genL]
theorem ptab_eq (l : List Seg) : build_PackedTable l = some (ptabF l) := by
  unfold build_PackedTable ptabF
  rw [oS (buffer_eq l), oS (first1_eq _)]
  by_cases he : errB l = 0
  · rw [nE he, if_neg (by simp [he])]
    exact ptabL l (by have := (errB_zero.1 he).1.1; omega) fuel 0 [] (by omega) (by rw [fuelS]; have := (errB_zero.1 he).1.1; omega) rfl
  · rw [nF he, if_pos he]
/-! one descriptor of a table -/
def many (n : Int) : Prop := 1 ≤ n ∧ n ≤ 64
instance (n : Int) : Decidable (many n) := by unfold many; exact inferInstance
theorem many_eq (n : Int) : build_many n = some (decide (many n)) := by
  unfold build_many many
  by_cases h : n ≥ 1
  · rw [bP h]; exact congrArg some (decide_eq_decide.2 ⟨fun q => ⟨h, q⟩, fun q => q.2⟩)
  · rw [bN h]; exact congrArg some (decide_eq_false (fun q => h q.1)).symm
def zP : Put := ⟨0, ⟨0, 0, 0, 0⟩⟩
def zPP : PutPacked := ⟨0, ⟨0, 0, 0, 0⟩⟩
def oneS (id : Int) (a : UInt64) (n : Int) : Put × Int := if (0 ≤ id ∧ id < 32768) ∧ many n then (⟨id, ⟨a, u32 (wi (16 * n)), 4, 0⟩⟩, 0) else (zP, 2)
theorem one_eqB (id : Int) (a : UInt64) (n : Int) : build_SplitOne id a n = some (oneS id a n) := by
  unfold build_SplitOne oneS
  rw [oS (isID_eq id)]
  unfold inR
  by_cases h1 : 0 ≤ id
  · by_cases h2 : id < 32768
    · rw [decide_eq_true h1, decide_eq_true h2, show (!(true && true)) = false from rfl, brF, oS (many_eq n), oS (wrong_eq _), oS (first1_eq _)]
      by_cases h3 : many n
      · rw [decide_eq_true h3, notT, if_neg (by decide), nE rfl, if_pos ⟨⟨h1, h2⟩, h3⟩]
      · rw [decide_eq_false h3, notF, if_pos rfl, nF (by decide), if_neg (fun q => h3 q.2)]; rfl
    · rw [decide_eq_true h1, decide_eq_false h2, show (!(true && false)) = true from rfl, brT, oS (wrong_eq _), oS (first1_eq _), if_pos rfl, nF (by decide), if_neg (fun q => h2 q.1.2)]; rfl
  · rw [decide_eq_false h1, Bool.false_and, notF, brT, oS (wrong_eq _), oS (first1_eq _), if_pos rfl, nF (by decide), if_neg (fun q => h1 q.1.1)]; rfl
def oneP (p : Pos) (size id : Int) (a : UInt64) (n : Int) : PutPacked × Int := if posOk p size ∧ 0 ≤ id ∧ id < size ∧ many n then (⟨p.At, ⟨a, u32 (wi (16 * n)), u16 id, mkd 4 p.Wrap false⟩⟩, 0) else (zPP, 2)
theorem onep_eqB (p : Pos) (size id : Int) (a : UInt64) (n : Int) : build_PackedOne p size id a n = some (oneP p size id a n) := by
  unfold build_PackedOne oneP
  rw [oS (pcheck_eq p size)]
  have hw : ∀ k : Option (PutPacked × Int), (ob (build_wrong true) fun w => ob (build_first [w]) fun f => br (f != 0) (some (PutPacked.mk 0 (Packed.mk 0 0 0 0), f)) k) = some (zPP, 2) := by
    intro k
    rw [oS (wrong_eq _), oS (first1_eq _), if_pos rfl, nF (by decide)]; rfl
  by_cases h1 : posOk p size
  · rw [if_pos h1, nE rfl]
    by_cases h2 : id < 0
    · rw [bP h2, hw, if_neg (fun q => by have := q.2.1; omega)]
    · rw [bN h2]
      by_cases h3 : id ≥ size
      · rw [bP h3, hw, if_neg (fun q => by have := q.2.2.1; omega)]
      · rw [bN h3, oS (many_eq n), oS (wrong_eq _), oS (first1_eq _)]
        by_cases h4 : many n
        · rw [decide_eq_true h4, notT, if_neg (by decide), nE rfl, oS (mark_eq _ _ _), if_pos ⟨h1, by omega, by omega, h4⟩]
        · rw [decide_eq_false h4, notF, if_pos rfl, nF (by decide), if_neg (fun q => h4 q.2.2.2)]; rfl
  · rw [if_neg h1, nF (by decide), hw, if_neg (fun q => h1 q.1)]
/-! how many -/
def needF (l : List Seg) (t : Bool) : Int := if errB l = 0 then (if t = true then 1 else (l.length : Int)) else 0
theorem needs_eqB (l : List Seg) (t : Bool) : build_Needs l t = some (needF l t) := by
  unfold build_Needs needF errB
  rw [oS (segCheck l)]
  by_cases h : errS l = 0
  · rw [nE h, if_pos h]
    by_cases h0 : l.length = 0
    · rw [if_pos h0, bE (by simp [len, h0]), if_neg (by decide)]
    · rw [if_neg h0, bF (by simp only [len]; omega), if_pos rfl]
      cases t <;> rfl
  · rw [nF h, if_neg h, if_neg h]
end Go.Proofs.Ytihcimjfabdafaa

/- Buffers that are built: packed chains, tables, single descriptors. No condition. -/
import Derived.Test.YtihcimjfabdafaaPuBuild
import Derived.Test.YtihcimjfabdafaaPuDescRounds
namespace Go.Proofs.Ytihcimjfabdafaa
/-! positions -/
def szOk (n : Int) : Prop := 1 ≤ n ∧ n ≤ 32768
def posOk (p : Pos) (n : Int) : Prop := szOk n ∧ 0 ≤ p.At ∧ p.At < n
instance (n : Int) : Decidable (szOk n) := by unfold szOk; exact inferInstance
instance (p : Pos) (n : Int) : Decidable (posOk p n) := by unfold posOk; exact inferInstance
theorem isSize_eq (n : Int) : serial_isSize n = some (decide (szOk n)) := by
  unfold serial_isSize szOk
  by_cases h : n ≥ 1
  · rw [bP h]; exact congrArg some (decide_eq_decide.2 ⟨fun q => ⟨h, q⟩, fun q => q.2⟩)
  · rw [bN h]; exact congrArg some (decide_eq_false (fun q => h q.1)).symm
theorem pcheck_eq (p : Pos) (n : Int) : serial_Check p n = some (if posOk p n then 0 else 2) := by
  unfold serial_Check
  rw [oS (isSize_eq n)]
  by_cases h1 : szOk n
  · rw [decide_eq_true h1, notT, brF]
    by_cases h2 : p.At < 0
    · rw [bP h2, if_neg (fun q => by have := q.2.1; omega)]
    · rw [bN h2]
      by_cases h3 : p.At ≥ n
      · rw [bP h3, if_neg (fun q => by have := q.2.2; omega)]
      · rw [bN h3, if_pos ⟨h1, by omega, by omega⟩]
  · rw [decide_eq_false h1, notF, brT, if_neg (fun q => h1 q.1)]
def goP (n : Int) (p : Pos) : Pos := if p.At + 1 ≥ n then ⟨p.At + 1 - n, !p.Wrap⟩ else ⟨p.At + 1, p.Wrap⟩
theorem go_eq {p : Pos} {n : Int} (h : posOk p n) : serial_Go p 1 n = some (goP n p, 0) := by
  have h' := h
  obtain ⟨⟨h1, h2⟩, h3, h4⟩ := h'
  have w1 : wi (p.At + 1) = p.At + 1 := wi_in (by omega) (by omega)
  unfold serial_Go goP
  rw [oS (pcheck_eq p n), if_pos h, nE rfl, bN (by decide), bN (by omega), w1]
  by_cases h5 : p.At + 1 ≥ n
  · rw [bP h5, if_pos h5, wi_in (by omega) (by omega)]
  · rw [bN h5, if_neg h5]
theorem goP_ok {p : Pos} {n : Int} (h : posOk p n) : posOk (goP n p) n := by
  obtain ⟨⟨h1, h2⟩, h3, h4⟩ := h
  unfold goP
  split
  · exact ⟨⟨h1, h2⟩, by dsimp only; omega, by dsimp only; omega⟩
  · exact ⟨⟨h1, h2⟩, by dsimp only; omega, by dsimp only; omega⟩
def posN (n : Int) (p : Pos) : Nat → Pos
  | 0 => p
  | i + 1 => goP n (posN n p i)
theorem posN_ok {p : Pos} {n : Int} (h : posOk p n) : ∀ i, posOk (posN n p i) n
  | 0 => h
  | i + 1 => goP_ok (posN_ok h i)
/-! packed chains -/
theorem pchainL (l : List Seg) (of : Int → Option build_packed) (y : Nat → build_packed) (hl : l.length ≤ 1000) (ho : ∀ i, i < l.length → of (i : Int) = some (y i)) : ∀ (nf i : Nat) (out : List build_packed), i ≤ l.length → l.length - i < nf → out.length = i →
    build_chain_buildpackedL1 l of nf out (i : Int) = some (out ++ genL (fun j => ⟨⟨(sgS l j).At, (sgS l j).Len, u16 (y j).id, mkd (flgS (sgS l j).Write (decide (j + 1 < l.length))) (y j).wrap false⟩, (y j).id, (y j).wrap⟩) i (l.length - i))
  | 0, i, out, _, h, _ => absurd h (Nat.not_lt_zero _)
  | nf + 1, i, out, hi, hn, hlo => by
    unfold build_chain_buildpackedL1 build_chain_buildpackedL1B
    by_cases h : i < l.length
    · have hw : decide (wi ((i : Int) + 1) < len l) = decide (i + 1 < l.length) := by
        rw [wi_succ (by omega)]; simp only [len]; exact decide_eq_decide.2 (by omega)
      have hm := pmade_eq (y i) (sgS l i) (decide (i + 1 < l.length))
      rw [oS (mark_eq _ _ _)] at hm
      rw [bP (by simp only [len]; omega), oS (ixD (Seg.mk 0 0 false) h), oS (ho i h), hw]
      refine (oS hm).trans ?_
      rw [cFits (by simp; omega), wi_succ (by omega)]
      rw [pchainL l of y hl ho nf (i + 1) _ (by omega) (by omega) (by simp [hlo]), show l.length - i = (l.length - (i + 1)) + 1 by omega, genL, List.append_assoc]
      rfl
    · rw [bN (by simp only [len]; omega), show l.length - i = 0 by omega]; simp [genL]
theorem pchain_ex (l : List Seg) (of : Int → Option build_packed) (y : Nat → build_packed) (hl : l.length ≤ 1000) (ho : ∀ i, i < l.length → of (i : Int) = some (y i)) :
    ∃ C, build_chain_buildpacked l of = some C ∧ C.length = l.length ∧ ∀ i (h : i < C.length), C[i].Packed = ⟨(sgS l i).At, (sgS l i).Len, u16 (y i).id, mkd (flgS (sgS l i).Write (decide (i + 1 < l.length))) (y i).wrap false⟩ := by
  have he : build_chain_buildpacked l of = some (genL (fun j => build_packed.mk ⟨(sgS l j).At, (sgS l j).Len, u16 (y j).id, mkd (flgS (sgS l j).Write (decide (j + 1 < l.length))) (y j).wrap false⟩ (y j).id (y j).wrap) 0 l.length) := by
    unfold build_chain_buildpacked
    rw [cDb (by simp only [len]; omega)]
    exact pchainL l of y hl ho fuel 0 [] (by omega) (by rw [fuelS]; omega) rfl
  refine ⟨_, he, genL_len .., fun i h => ?_⟩
  rw [genL_len] at h
  have hg := genL_get (fun j => build_packed.mk ⟨(sgS l j).At, (sgS l j).Len, u16 (y j).id, mkd (flgS (sgS l j).Write (decide (j + 1 < l.length))) (y j).wrap false⟩ (y j).id (y j).wrap) l.length 0 i h
  obtain ⟨hz, hz2⟩ := List.getElem?_eq_some_iff.1 hg
  rw [hz2, Nat.zero_add]
def putP (p : Pos) (size id : Int) (l : List Seg) (i : Nat) : PutPacked := ⟨(posN size p i).At, ⟨(sgS l i).At, (sgS l i).Len, u16 id, mkd (flgS (sgS l i).Write (decide (i + 1 < l.length))) (posN size p i).Wrap false⟩⟩
def packedF (p : Pos) (size id : Int) (l : List Seg) : List PutPacked × Int :=
  if errB l ≠ 0 then ([], errB l) else if ¬ posOk p size ∨ id < 0 ∨ id ≥ size ∨ (l.length : Int) > size then ([], 2) else (genL (putP p size id l) 0 l.length, 0)
theorem packedL8 (M : List Pos) (C : List build_packed) (f : Nat → PutPacked) (hl : C.length ≤ 1000) (hi : M.length = C.length) (hf : ∀ i (h : i < C.length), f i = PutPacked.mk (M[i]'(by omega)).At C[i].Packed) : ∀ (nf i : Nat) (out : List PutPacked), i ≤ C.length → C.length - i < nf → out.length = i →
    build_PackedL8 M C nf out C (i : Int) = some (out ++ genL f i (C.length - i), 0)
  | 0, i, out, _, h, _ => absurd h (Nat.not_lt_zero _)
  | nf + 1, i, out, hi', hn, hlo => by
    unfold build_PackedL8 build_PackedL8B
    by_cases h : i < C.length
    · rw [bP (by simp only [len]; omega), oS (ix_nat (getq h)), oS (ix_nat (getq (by omega))), cFits (by simp; omega), wi_succ (by omega)]
      rw [packedL8 M C f hl hi hf nf (i + 1) _ (by omega) (by omega) (by simp [hlo]), show C.length - i = (C.length - (i + 1)) + 1 by omega, genL, List.append_assoc, hf i h]
      rfl
    · rw [bN (by simp only [len]; omega), show C.length - i = 0 by omega]; simp [genL]
theorem packedL7 (p : Pos) (size id : Int) (l : List Seg) (hp : posOk p size) (hl : l.length ≤ 1000) : ∀ (nf i : Nat), i ≤ l.length → l.length - i < nf →
    build_PackedL7 size l nf (posN size p i) id (genL (posN size p) 0 i) (i : Int) = some (genL (putP p size id l) 0 l.length, 0)
  | 0, i, _, h => absurd h (Nat.not_lt_zero _)
  | nf + 1, i, hi, hn => by
    unfold build_PackedL7 build_PackedL7B
    by_cases h : i < l.length
    · rw [bP (by simp only [len]; omega), cFits (by rw [genL_len]; simp; omega), oS (go_eq (posN_ok hp i)), wi_succ (by omega)]
      have := packedL7 p size id l hp hl nf (i + 1) (by omega) (by omega)
      rw [genL_snoc, Nat.zero_add] at this
      exact this
    · have hil : i = l.length := by omega
      subst hil
      obtain ⟨C, hc, hCl, hCi⟩ := pchain_ex l (fun x => build_Packed_1 x id (genL (posN size p) 0 l.length)) (fun i => build_packed.mk (Packed.mk 0 0 0 0) id (posN size p i).Wrap) hl (fun i hi => by
        have hg := genL_get (posN size p) l.length 0 i hi
        rw [Nat.zero_add] at hg
        unfold build_Packed_1
        rw [oS (ix_nat hg)])
      rw [bN (by simp only [len]; omega), oS hc]
      have := packedL8 (genL (posN size p) 0 l.length) C (putP p size id l) (by omega) (by rw [genL_len, hCl]) (fun i h => by
        have hg := genL_get (posN size p) l.length 0 i (by omega)
        obtain ⟨_, hg2⟩ := List.getElem?_eq_some_iff.1 hg
        rw [hCi i h, hg2, Nat.zero_add]; rfl) fuel 0 [] (by omega) (by rw [fuelS]; omega) rfl
      rw [show C.length - 0 = l.length by omega] at this
      exact this
theorem packed_eqB (p : Pos) (size id : Int) (l : List Seg) (hl : l.length ≤ 1000) : build_Packed p size id l = some (packedF p size id l) := by
  unfold build_Packed packedF
  rw [oS (buffer_eq l), oS (pcheck_eq p size)]
  have hw : ∀ k : Option (List PutPacked × Int), (ob (build_wrong true) fun w => ob (build_first [some (errB l), w]) fun f => br (f != 0) (some (([] : List PutPacked), f)) k) = some ([], if errB l ≠ 0 then errB l else 2) := by
    intro k
    rw [oS (wrong_eq _), oS (first2_eq _ _)]
    by_cases he : errB l = 0
    · simp only [he, ne_eq, not_true_eq_false, if_false]; rfl
    · rw [if_pos he, nF he, if_pos he]
  have hfin : (([] : List PutPacked), if errB l ≠ 0 then errB l else 2) = (if errB l ≠ 0 then (([] : List PutPacked), errB l) else ([], 2)) := by split <;> rfl
  by_cases h1 : posOk p size
  · rw [if_pos h1, nE rfl]
    by_cases h2 : id < 0
    · rw [bP h2, hw, hfin, if_pos (show ¬ posOk p size ∨ id < 0 ∨ id ≥ size ∨ (l.length : Int) > size from Or.inr (Or.inl h2))]
    · rw [bN h2]
      by_cases h3 : id ≥ size
      · rw [bP h3, hw, hfin, if_pos (show ¬ posOk p size ∨ id < 0 ∨ id ≥ size ∨ (l.length : Int) > size from Or.inr (Or.inr (Or.inl h3)))]
      · rw [bN h3]
        by_cases h4 : (l.length : Int) > size
        · rw [decide_eq_true (show len l > size from h4), hw, hfin, if_pos (show ¬ posOk p size ∨ id < 0 ∨ id ≥ size ∨ (l.length : Int) > size from Or.inr (Or.inr (Or.inr h4)))]
        · rw [decide_eq_false (show ¬ len l > size from h4), oS (wrong_eq _), oS (first2_eq _ _), if_neg (show ¬ (¬ posOk p size ∨ id < 0 ∨ id ≥ size ∨ (l.length : Int) > size) by
            rintro (q | q | q | q)
            · exact q h1
            · exact h2 q
            · exact h3 q
            · exact h4 q)]
          by_cases he : errB l = 0
          · simp only [he, ne_eq, not_true_eq_false, if_false]
            rw [if_neg (by decide), nE rfl]
            exact packedL7 p size id l h1 hl fuel 0 (by omega) (by rw [fuelS]; omega)
          · rw [if_pos he, if_pos he, nF he]
  · rw [if_neg h1, nF (by decide), hw, hfin, if_pos (show ¬ posOk p size ∨ id < 0 ∨ id ≥ size ∨ (l.length : Int) > size from Or.inl h1)]
/-! tables -/
def idsN (n : Nat) : List Int := genL (fun i => (i : Int)) 0 n
theorem idsN_get {n i : Nat} (h : i < n) : (idsN n).getD i 0 = (i : Int) := by
  have := genL_get (fun i => (i : Int)) n 0 i h
  unfold idsN
  rw [List.getD_eq_getElem?_getD, this]; simp
/-- the descriptors of a table -/
def tabS (l : List Seg) : List Desc := genL (dS (idsN l.length) l) 0 l.length
def tabF (l : List Seg) : List UInt8 × Int := if errB l ≠ 0 then ([], errB l) else ((tabS l).flatMap bsD, 0)
theorem dS_ids {l : List Seg} {i : Nat} : dS (idsN l.length) l i = ⟨(sgS l i).At, (sgS l i).Len, flgS (sgS l i).Write (decide (i + 1 < l.length)), if i + 1 < l.length then u16 ((i + 1 : Nat) : Int) else 0⟩ := by
  unfold dS
  by_cases h : i + 1 < l.length
  · rw [if_pos h, if_pos h, idsN_get h]
  · rw [if_neg h, if_neg h]
theorem stabL (C : List build_split) (f : Nat → Desc) (hl : C.length ≤ 1000) (hf : ∀ i (h : i < C.length), f i = C[i].Desc) : ∀ (nf i : Nat), i ≤ C.length → C.length - i < nf →
    build_SplitTableL1 C nf (genL f 0 i) C (i : Int) = some ((genL f 0 C.length).flatMap bsD, 0)
  | 0, i, _, h => absurd h (Nat.not_lt_zero _)
  | nf + 1, i, hi, hn => by
    unfold build_SplitTableL1 build_SplitTableL1B
    by_cases h : i < C.length
    · rw [bP (by simp only [len]; omega), oS (ix_nat (getq h)), cFits (by rw [genL_len]; simp; omega), wi_succ (by omega)]
      have := stabL C f hl hf nf (i + 1) (by omega) (by omega)
      rw [genL_snoc, Nat.zero_add, hf i h] at this
      exact this
    · have : i = C.length := by omega
      subst this
      rw [bN (by simp only [len]; omega), oS (tableD _ (by rw [genL_len]; omega))]
theorem stab_eq (l : List Seg) : build_SplitTable l = some (tabF l) := by
  unfold build_SplitTable tabF
  rw [oS (buffer_eq l), oS (first1_eq _)]
  by_cases he : errB l = 0
  · have h64 := (errB_zero.1 he).1.1
    rw [nE he, if_neg (by simp [he])]
    obtain ⟨C, hc, hCl, hCi⟩ := schain_ex l (fun x => build_SplitTable_1 x) (fun i => build_split.mk (Desc.mk 0 0 0 0) ((i + 1 : Nat) : Int)) (by omega) (fun i hi => by
      unfold build_SplitTable_1
      rw [wi_succ (by omega)])
    rw [oS hc]
    have := stabL C (dS (idsN l.length) l) (by omega) (fun i h => by rw [hCi i h, dS_ids]) fuel 0 (by omega) (by rw [fuelS]; omega)
    rw [hCl] at this
    exact this
  · rw [nF he, if_pos he]
def ptS (l : List Seg) (i : Nat) : Packed := ⟨(sgS l i).At, (sgS l i).Len, 0, if (sgS l i).Write = true then 2 else 0⟩
def ptabF (l : List Seg) : List UInt8 × Int := if errB l ≠ 0 then ([], errB l) else ((genL (ptS l) 0 l.length).flatMap bsP, 0)
theorem bsP_len (d : Packed) : (bsP d).length = 16 := rfl
theorem ptabL (l : List Seg) (hl : l.length ≤ 1000) : ∀ (nf i : Nat) (out : List UInt8), i ≤ l.length → l.length - i < nf → out.length = 16 * i →
    build_PackedTableL1 l nf out (i : Int) = some (out ++ (genL (ptS l) i (l.length - i)).flatMap bsP, 0)
  | 0, i, out, _, h, _ => absurd h (Nat.not_lt_zero _)
  | nf + 1, i, out, hi, hn, ho => by
    unfold build_PackedTableL1 build_PackedTableL1B
    by_cases h : i < l.length
    · have ih := ptabL l hl nf (i + 1) (out ++ bsP (ptS l i)) (by omega) (by omega) (by rw [List.length_append, bsP_len]; omega)
      have hJ : ∀ d, d = ptS l i → build_PackedTableJ2 (i : Int) (build_PackedTableL1 l nf) out d = some (out ++ (genL (ptS l) i (l.length - i)).flatMap bsP, 0) := by
        intro d hd
        unfold build_PackedTableJ2
        rw [oS (bytesP d), cFits (by rw [bsP_len]; omega), wi_succ (by omega), hd, ih, show l.length - i = (l.length - (i + 1)) + 1 by omega, genL, List.append_assoc]
        rfl
      rw [bP (by simp only [len]; omega), oS (ixD (Seg.mk 0 0 false) h)]
      show br (sgS l i).Write (build_PackedTableJ2 (i : Int) (build_PackedTableL1 l nf) out (Packed.mk (sgS l i).At (sgS l i).Len 0 2)) (build_PackedTableJ2 (i : Int) (build_PackedTableL1 l nf) out (Packed.mk (sgS l i).At (sgS l i).Len 0 0)) = _
      cases hw : (sgS l i).Write with
      | true => rw [brT, hJ _ (by unfold ptS; rw [hw]; rfl)]
      | false => rw [brF, hJ _ (by unfold ptS; rw [hw]; rfl)]
    · rw [bN (by simp only [len]; omega), show l.length - i = 0 by omega]; simp [genL]
theorem ptab_eq (l : List Seg) : build_PackedTable l = some (ptabF l) := by
  unfold build_PackedTable ptabF
  rw [oS (buffer_eq l), oS (first1_eq _)]
  by_cases he : errB l = 0
  · rw [nE he, if_neg (by simp [he])]
    exact ptabL l (by have := (errB_zero.1 he).1.1; omega) fuel 0 [] (by omega) (by rw [fuelS]; have := (errB_zero.1 he).1.1; omega) rfl
  · rw [nF he, if_pos he]
/-! one descriptor of a table -/
def many (n : Int) : Prop := 1 ≤ n ∧ n ≤ 64
instance (n : Int) : Decidable (many n) := by unfold many; exact inferInstance
/-! how many -/
def needF (l : List Seg) (t : Bool) : Int := if errB l = 0 then (if t = true then 1 else (l.length : Int)) else 0
theorem needs_eqB (l : List Seg) (t : Bool) : build_Needs l t = some (needF l t) := by
  unfold build_Needs needF errB
  rw [oS (segCheck l)]
  by_cases h : errS l = 0
  · rw [nE h, if_pos h]
    by_cases h0 : l.length = 0
    · rw [if_pos h0, bE (by simp [len, h0]), if_neg (by decide)]
    · rw [if_neg h0, bF (by simp only [len]; omega), if_pos rfl]
      cases t <;> rfl
  · rw [nF h, if_neg h, if_neg h]
end Go.Proofs.Ytihcimjfabdafaa

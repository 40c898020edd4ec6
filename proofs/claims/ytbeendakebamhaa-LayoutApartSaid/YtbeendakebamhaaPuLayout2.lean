/- Rings in plain words: places, how they are laid out. No condition. -/
import Derived.Test.YtbeendakebamhaaPuLayout
import Derived.Test.YtbeendakebamhaaPuGmem
namespace Go.Proofs.Ytbeendakebamhaa
def overS (r : Rings) (a n : UInt64) : Bool := decide (valR r ∧ 0 < n.toNat ∧ (comN a.toNat n.toNat r.Desc.toNat (lenX r.Size) ∨ comN a.toNat n.toNat r.Driver.toNat (lenY r.Packed r.Size) ∨ comN a.toNat n.toNat r.Device.toNat (lenZ r.Packed r.Size)))
theorem spans_eq {r : Rings} (h : szB r.Packed r.Size = true) : layout_spans r = some ⟨⟨r.Desc, UInt64.ofNat (lenX r.Size)⟩, ⟨r.Driver, UInt64.ofNat (lenY r.Packed r.Size)⟩, ⟨r.Device, UInt64.ofNat (lenZ r.Packed r.Size)⟩⟩ := by
  unfold layout_spans; rw [oS (parts_eq r)]; unfold prS; rw [if_pos h]
theorem over_ok (r : Rings) (a n : UInt64) : layout_Over r a n = some (overS r a n) := by
  unfold layout_Over overS
  rw [oS (check_eq r)]
  by_cases hv : valR r
  · rw [decide_eq_true hv, nE (show two true = 0 from rfl)]
    by_cases h0 : n = 0
    · rw [bE h0, decide_eq_false (fun q => by have := q.2.1; rw [h0] at this; exact absurd this (by decide))]
    · have hn : 0 < n.toNat := by
        rcases Nat.eq_zero_or_pos n.toNat with e | e
        · exact absurd (UInt64.toNat_inj.1 (by simpa using e)) h0
        · exact e
      obtain ⟨l1, l2, l3, p1, p2, p3, _⟩ := lenN_of hv.1
      rw [bF h0, oS (spans_eq hv.1)]
      dsimp only
      rw [oS (common_eq a n r.Desc _ hn (by rw [l1]; exact p1)), l1, oS (common_eq a n r.Driver _ hn (by rw [l2]; exact p2)), l2, oS (common_eq a n r.Device _ hn (by rw [l3]; exact p3)), l3]
      by_cases c1 : comN a.toNat n.toNat r.Desc.toNat (lenX r.Size)
      · rw [bP c1, decide_eq_true ⟨hv, hn, .inl c1⟩]
      · rw [bN c1]
        by_cases c2 : comN a.toNat n.toNat r.Driver.toNat (lenY r.Packed r.Size)
        · rw [bP c2, decide_eq_true ⟨hv, hn, .inr (.inl c2)⟩]
        · rw [bN c2]
          by_cases c3 : comN a.toNat n.toNat r.Device.toNat (lenZ r.Packed r.Size)
          · rw [bP c3, decide_eq_true ⟨hv, hn, .inr (.inr c3)⟩]
          · rw [bN c3, decide_eq_false (fun q => by rcases q.2.2 with z | z | z <;> contradiction)]
  · rw [decide_eq_false hv, nF (show two false ≠ 0 by decide), decide_eq_false (fun q => hv q.1)]
/-- where an element is -/
def whS (r : Rings) (what i : Int) : UInt64 × Int × Int :=
  if ¬ valR r then (0, 0, 2)
  else if what = 1 then (if 0 ≤ i ∧ i < r.Size then (r.Desc + 16 * u64 i, 16, 0) else (0, 0, 2))
  else if r.Packed then (if i = 0 then (if what = 10 then (r.Driver, 4, 0) else if what = 11 then (r.Device, 4, 0) else (0, 0, 2)) else (0, 0, 2))
  else if what = 4 then (if 0 ≤ i ∧ i < r.Size then (r.Driver + 4 + 2 * u64 i, 2, 0) else (0, 0, 2))
  else if what = 8 then (if 0 ≤ i ∧ i < r.Size then (r.Device + 4 + 8 * u64 i, 8, 0) else (0, 0, 2))
  else if i = 0 then (if what = 2 then (r.Driver, 2, 0) else if what = 3 then (r.Driver + 2, 2, 0) else if what = 5 then (r.Driver + 4 + 2 * u64 r.Size, 2, 0)
    else if what = 6 then (r.Device, 2, 0) else if what = 7 then (r.Device + 2, 2, 0) else if what = 9 then (r.Device + 4 + 8 * u64 r.Size, 2, 0) else (0, 0, 2))
  else (0, 0, 2)
theorem a2eq (a b c d : Int) : ((A2.mk a b) == (A2.mk c d)) = decide (a = c ∧ b = d) := by
  rw [Bool.eq_iff_iff, beq_iff_eq, decide_eq_true_eq, A2.mk.injEq]
theorem whJ2t (r : Rings) (i : Int) (at_ : UInt64) (n : Int) : layout_WhereJ2 r i true at_ n = some (if 0 ≤ i ∧ i < r.Size then (at_, n, 0) else (0, 0, 2)) := by
  unfold layout_WhereJ2
  by_cases h1 : i < 0
  · rw [bP h1, if_neg (by omega)]
  · rw [bN h1, bT rfl]
    by_cases h2 : i ≥ r.Size
    · rw [bP h2, if_neg (by omega)]
    · rw [bN h2, if_pos (by omega)]
theorem whJ2f (r : Rings) (i : Int) (at_ : UInt64) (n : Int) : layout_WhereJ2 r i false at_ n = some (if i = 0 then (at_, n, 0) else (0, 0, 2)) := by
  unfold layout_WhereJ2
  by_cases h1 : i < 0
  · rw [bP h1, if_neg (by omega)]
  · rw [bN h1, bFl rfl]
    by_cases h2 : i = 0
    · rw [nE h2, if_pos h2]
    · rw [nF h2, if_neg h2]
theorem where_eq (r : Rings) (what i : Int) : layout_Where r what i = some (whS r what i) := by
  unfold layout_Where whS
  rw [oS (check_eq r)]
  by_cases hv : valR r
  · rw [decide_eq_true hv, nE (show two true = 0 from rfl), if_neg (fun q => q hv)]
    cases hp : r.Packed with
    | true =>
      rw [bT rfl]
      unfold layout_WhereJ1
      rw [a2eq, bN (by omega)]
      unfold layout_WhereJ3
      simp only [a2eq, layout_WhereJ4, layout_WhereJ5]
      by_cases h1 : what = 1
      · rw [bP ⟨trivial, h1⟩, whJ2t, if_pos h1]
      · rw [bN (by omega), bN (by omega), bN (by omega), bN (by omega), bN (by omega), bN (by omega), bN (by omega), bN (by omega), bN (by omega), if_neg h1, if_pos trivial]
        by_cases h10 : what = 10
        · rw [bP ⟨trivial, h10⟩, whJ2f, if_pos h10]
        · rw [bN (by omega), if_neg h10]
          by_cases h11 : what = 11
          · rw [bP ⟨trivial, h11⟩, whJ2f, if_pos h11]
          · rw [bN (by omega), if_neg h11]; split <;> rfl
    | false =>
      rw [bFl rfl]
      unfold layout_WhereJ1
      simp only [a2eq]
      by_cases h1 : what = 1
      · rw [bP ⟨trivial, h1⟩, if_pos h1]
        unfold layout_WhereJ3
        simp only [a2eq, layout_WhereJ4, layout_WhereJ5]
        rw [bP ⟨trivial, h1⟩, whJ2t]
      · rw [bN (by omega), if_neg h1, if_neg (by decide)]
        unfold layout_WhereJ3
        simp only [a2eq, layout_WhereJ4, layout_WhereJ5]
        rw [bN (by omega)]
        by_cases h4 : what = 4
        · rw [bP ⟨trivial, h4⟩, whJ2t, if_pos h4]
        rw [bN (by omega), if_neg h4]
        by_cases h8 : what = 8
        · rw [bP ⟨trivial, h8⟩, whJ2t, if_pos h8]
        rw [bN (by omega), if_neg h8]
        by_cases h2 : what = 2
        · rw [bP ⟨trivial, h2⟩, whJ2f, if_pos h2]
        rw [bN (by omega), if_neg h2]
        by_cases h3 : what = 3
        · rw [bP ⟨trivial, h3⟩, whJ2f, if_pos h3]
        rw [bN (by omega), if_neg h3]
        by_cases h5 : what = 5
        · rw [bP ⟨trivial, h5⟩, whJ2f, if_pos h5]
        rw [bN (by omega), if_neg h5]
        by_cases h6 : what = 6
        · rw [bP ⟨trivial, h6⟩, whJ2f, if_pos h6]
        rw [bN (by omega), if_neg h6]
        by_cases h7 : what = 7
        · rw [bP ⟨trivial, h7⟩, whJ2f, if_pos h7]
        rw [bN (by omega), if_neg h7]
        by_cases h9 : what = 9
        · rw [bP ⟨trivial, h9⟩, whJ2f, if_pos h9]
        rw [bN (by omega), if_neg h9, bN (by omega), bN (by omega)]
        split <;> rfl
  · rw [decide_eq_false hv, nF (show two false ≠ 0 by decide), if_pos hv]
end Go.Proofs.Ytbeendakebamhaa

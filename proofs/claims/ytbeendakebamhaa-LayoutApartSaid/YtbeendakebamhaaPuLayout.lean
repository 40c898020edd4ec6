/- Rings in plain words: sizes, parts, when they are valid. No condition. -/
import Derived.Test.YtbeendakebamhaaPuBase
namespace Go.Proofs.Ytbeendakebamhaa
def szB (p : Bool) (n : Int) : Bool := decide (1 ≤ n ∧ n ≤ 32768) && (p || decide (n.toNat &&& (n.toNat - 1) = 0))
theorem szB_in {p : Bool} {n : Int} (h : szB p n = true) : 1 ≤ n ∧ n ≤ 32768 := by
  unfold szB at h
  simp only [Bool.and_eq_true, decide_eq_true_eq] at h
  exact h.1
theorem andi_nat {a b : Nat} (ha : a < 65536) (hb : b < 65536) : andi (a : Int) (b : Int) = ((a &&& b : Nat) : Int) := by
  unfold andi
  have h1 : (BitVec.ofInt 64 (a : Int) &&& BitVec.ofInt 64 (b : Int)).toNat = a &&& b := by
    rw [BitVec.toNat_and]
    simp only [BitVec.toNat_ofInt]
    congr 1
    · omega
    · omega
  have h2 : a &&& b ≤ a := Nat.and_le_left
  rw [h1, wi_nat (by omega)]
theorem isSize_eq (r : Rings) : layout_isSize r = some (szB r.Packed r.Size) := by
  unfold layout_isSize szB
  have hs : serial_isSize r.Size = some (decide (1 ≤ r.Size ∧ r.Size ≤ 32768)) := by
    unfold serial_isSize
    by_cases h : r.Size ≥ 1
    · rw [bP h]; refine congrArg some ?_
      by_cases h2 : r.Size ≤ 32768
      · rw [decide_eq_true h2, decide_eq_true ⟨h, h2⟩]
      · rw [decide_eq_false h2, decide_eq_false (fun q => h2 q.2)]
    · rw [bN h, decide_eq_false (fun q => h q.1)]
  cases hp : r.Packed with
  | true =>
    rw [bT rfl, Bool.true_or, Bool.and_true]
    exact hs
  | false =>
    rw [bFl rfl, Bool.false_or]
    unfold serial_Power
    rw [oS hs]
    by_cases h : 1 ≤ r.Size ∧ r.Size ≤ 32768
    · rw [decide_eq_true h, bT rfl, obS, Bool.true_and]
      refine congrArg some ?_
      obtain ⟨k, hk⟩ : ∃ k : Nat, r.Size = (k : Int) := ⟨r.Size.toNat, by omega⟩
      have e1 : wi (r.Size - 1) = ((k - 1 : Nat) : Int) := by rw [wi_in (by omega) (by omega)]; omega
      rw [e1, hk, andi_nat (by omega) (by omega), Int.toNat_natCast]
      by_cases q : k &&& (k - 1) = 0
      · rw [decide_eq_true q, q]; rfl
      · rw [decide_eq_false q, beq_false_of_ne (by omega)]
    · rw [decide_eq_false h, bFl rfl, Bool.false_and]; rfl
/-- how many bytes the parts have -/
def lenX (n : Int) : Nat := 16 * n.toNat
def lenY (p : Bool) (n : Int) : Nat := if p then 4 else 6 + 2 * n.toNat
def lenZ (p : Bool) (n : Int) : Nat := if p then 4 else 6 + 8 * n.toNat
def prS (p : Bool) (n : Int) : UInt64 × UInt64 × UInt64 := if szB p n then (UInt64.ofNat (lenX n), UInt64.ofNat (lenY p n), UInt64.ofNat (lenZ p n)) else (0, 0, 0)
theorem u64_n {n : Int} (h : 1 ≤ n ∧ n ≤ 32768) : u64 n = UInt64.ofNat n.toNat := by
  obtain ⟨k, rfl⟩ : ∃ k : Nat, n = (k : Int) := ⟨n.toNat, by omega⟩
  rw [u64_of, Int.toNat_natCast]
theorem mul_of (a b : Nat) : UInt64.ofNat a * UInt64.ofNat b = UInt64.ofNat (a * b) := by rw [UInt64.ofNat_mul]
theorem prs_of {p : Bool} {n : Int} (h : szB p n = true) : (if p then ((16 : UInt64) * u64 n, (4 : UInt64), (4 : UInt64)) else (16 * u64 n, 6 + 2 * u64 n, 6 + 8 * u64 n)) = prS p n := by
  have hn := szB_in h
  unfold prS lenX lenY lenZ
  rw [if_pos h, u64_n hn]
  have e16 : (16 : UInt64) * UInt64.ofNat n.toNat = UInt64.ofNat (16 * n.toNat) := mul_of 16 _
  have e2 : (6 : UInt64) + 2 * UInt64.ofNat n.toNat = UInt64.ofNat (6 + 2 * n.toNat) := by rw [UInt64.ofNat_add, ← mul_of]; rfl
  have e8 : (6 : UInt64) + 8 * UInt64.ofNat n.toNat = UInt64.ofNat (6 + 8 * n.toNat) := by rw [UInt64.ofNat_add, ← mul_of]; rfl
  rw [e16, e2, e8]
  cases p <;> rfl
theorem parts_eq (r : Rings) : layout_Parts r = some (prS r.Packed r.Size) := by
  unfold layout_Parts
  rw [oS (isSize_eq r)]
  cases h : szB r.Packed r.Size with
  | false => rw [bT (show (!false) = true from rfl)]; unfold prS; rw [h]; rfl
  | true =>
    rw [bFl (show (!true) = false from rfl), ← prs_of h]
    cases hp : r.Packed with
    | true => rw [bT rfl]; rfl
    | false => rw [bFl rfl]; rfl
theorem beyond_eq (a n : UInt64) (hn : 0 < n.toNat) : layout_beyond a n = some (decide (¬ a.toNat + n.toNat ≤ 18446744073709551616)) := by
  have ha := a.toNat_lt
  have hn2 := n.toNat_lt
  unfold layout_beyond
  rw [bP (lt64.2 (by simpa using hn))]
  refine congrArg some ?_
  rw [decide_eq_decide, GT.gt, lt64, sub64 (by simp only [UInt64.reduceToNat]; omega), sub64 (by simp only [UInt64.reduceToNat]; omega)]
  simp only [UInt64.reduceToNat]; omega
/-- have two spans a byte in common? -/
def comN (a n b m : Nat) : Prop := ¬ (a + n ≤ b ∨ b + m ≤ a)
instance (a n b m : Nat) : Decidable (comN a n b m) := by unfold comN; infer_instance
theorem common_eq (a n b m : UInt64) (hn : 0 < n.toNat) (hm : 0 < m.toNat) : layout_common a n b m = some (decide (comN a.toNat n.toNat b.toNat m.toNat)) := by
  unfold layout_common
  by_cases h : a ≤ b
  · have h' := le64.1 h
    rw [bP h]; refine congrArg some ?_
    rw [decide_eq_decide, lt64, sub64 h']; unfold comN; omega
  · have h' : ¬ a.toNat ≤ b.toNat := fun q => h (le64.2 q)
    rw [bN h]; refine congrArg some ?_
    rw [decide_eq_decide, lt64, sub64 (by omega)]; unfold comN; omega
def valN (D V W X Y Z Q : Nat) : Prop := D % 16 = 0 ∧ D + X ≤ 18446744073709551616 ∧ V % Q = 0 ∧ V + Y ≤ 18446744073709551616 ∧ ¬ comN V Y D X ∧ W % 4 = 0 ∧ W + Z ≤ 18446744073709551616 ∧ ¬ comN W Z D X ∧ ¬ comN W Z V Y
instance (D V W X Y Z Q : Nat) : Decidable (valN D V W X Y Z Q) := by unfold valN; infer_instance
theorem brD {c : Bool} {k : Option Int} {P : Prop} [Decidable P] (h : c = true → ¬ P) (h' : c = false → k = some (two (decide P))) : br c (some 2) k = some (two (decide P)) := by
  cases c with
  | false => exact h' rfl
  | true => rw [decide_eq_false (h rfl)]; rfl
theorem mod_ne (a q : UInt64) : (a % q != (0 : UInt64)) = decide (a.toNat % q.toNat ≠ 0) := by
  rw [Bool.eq_iff_iff, bne_iff_ne, decide_eq_true_eq]
  constructor
  · intro h e; exact h (UInt64.toNat_inj.1 (by rw [UInt64.toNat_mod]; exact e))
  · intro h e; apply h; rw [← UInt64.toNat_mod, e]; rfl
def pchain (d v w x y z q : UInt64) : Option Int :=
  chk (!((16 : UInt64) == 0)) <| br ((d % 16) != (0 : UInt64)) (some (2 : Int)) (ob (layout_beyond d x) fun b1 => br b1 (some (2 : Int))
  (chk (!(q == 0)) <| br ((v % q) != (0 : UInt64)) (some (2 : Int)) (ob (layout_beyond v y) fun b2 => br b2 (some (2 : Int)) (ob (layout_common v y d x) fun c1 => br c1 (some (2 : Int))
  (chk (!((4 : UInt64) == 0)) <| br ((w % 4) != (0 : UInt64)) (some (2 : Int)) (ob (layout_beyond w z) fun b3 => br b3 (some (2 : Int)) (ob (layout_common w z d x) fun c2 => br c2 (some (2 : Int)) (ob (layout_common w z v y) fun c3 => br c3 (some (2 : Int)) (some (0 : Int))))))))))
theorem pchain_eq (d v w x y z q : UInt64) (hx : 0 < x.toNat) (hy : 0 < y.toNat) (hz : 0 < z.toNat) (hq : 0 < q.toNat) : pchain d v w x y z q = some (two (decide (valN d.toNat v.toNat w.toNat x.toNat y.toNat z.toNat q.toNat))) := by
  unfold pchain
  have q0 : ∀ u : UInt64, 0 < u.toNat → (u == 0) = false := fun u hu => beq_false_of_ne (fun e => by rw [e] at hu; exact absurd hu (by decide))
  rw [cNT (q0 16 (by decide)), mod_ne]
  refine brD (fun h p => of_decide_eq_true h p.1) fun h1 => ?_
  rw [oS (beyond_eq d x hx)]
  refine brD (fun h p => of_decide_eq_true h p.2.1) fun h2 => ?_
  rw [cNT (q0 q hq), mod_ne]
  refine brD (fun h p => of_decide_eq_true h p.2.2.1) fun h3 => ?_
  rw [oS (beyond_eq v y hy)]
  refine brD (fun h p => of_decide_eq_true h p.2.2.2.1) fun h4 => ?_
  rw [oS (common_eq v y d x hy hx)]
  refine brD (fun h p => p.2.2.2.2.1 (of_decide_eq_true h)) fun h5 => ?_
  rw [cNT (q0 4 (by decide)), mod_ne]
  refine brD (fun h p => of_decide_eq_true h p.2.2.2.2.2.1) fun h6 => ?_
  rw [oS (beyond_eq w z hz)]
  refine brD (fun h p => of_decide_eq_true h p.2.2.2.2.2.2.1) fun h7 => ?_
  rw [oS (common_eq w z d x hz hx)]
  refine brD (fun h p => p.2.2.2.2.2.2.2.1 (of_decide_eq_true h)) fun h8 => ?_
  rw [oS (common_eq w z v y hz hy)]
  refine brD (fun h p => p.2.2.2.2.2.2.2.2 (of_decide_eq_true h)) fun h9 => ?_
  have nn : ∀ {P : Prop} [Decidable P], decide (¬ P) = false → P := fun {P} _ h => Decidable.not_not.1 (of_decide_eq_false h)
  have hv : valN d.toNat v.toNat w.toNat x.toNat y.toNat z.toNat q.toNat := ⟨nn h1, nn h2, nn h3, nn h4, of_decide_eq_false h5, nn h6, nn h7, of_decide_eq_false h8, of_decide_eq_false h9⟩
  rw [decide_eq_true hv]; rfl
/-- are rings valid? -/
def valR (r : Rings) : Prop := szB r.Packed r.Size = true ∧ valN r.Desc.toNat r.Driver.toNat r.Device.toNat (lenX r.Size) (lenY r.Packed r.Size) (lenZ r.Packed r.Size) (if r.Packed then 4 else 2)
instance (r : Rings) : Decidable (valR r) := by unfold valR; infer_instance
theorem lenN_of {p : Bool} {n : Int} (h : szB p n = true) : (UInt64.ofNat (lenX n)).toNat = lenX n ∧ (UInt64.ofNat (lenY p n)).toNat = lenY p n ∧ (UInt64.ofNat (lenZ p n)).toNat = lenZ p n ∧ 0 < lenX n ∧ 0 < lenY p n ∧ 0 < lenZ p n ∧ lenX n ≤ 524288 ∧ lenY p n ≤ 65542 ∧ lenZ p n ≤ 262150 := by
  have hn := szB_in h
  simp only [UInt64.toNat_ofNat']
  unfold lenX lenY lenZ
  cases p <;> simp <;> omega
theorem check_eq (r : Rings) : layout_Check r = some (two (decide (valR r))) := by
  unfold layout_Check
  rw [oS (isSize_eq r)]
  cases h : szB r.Packed r.Size with
  | false => rw [bT (show (!false) = true from rfl), decide_eq_false (fun q => by have := q.1; rw [h] at this; cases this)]; rfl
  | true =>
    have hs : layout_spans r = some ⟨⟨r.Desc, UInt64.ofNat (lenX r.Size)⟩, ⟨r.Driver, UInt64.ofNat (lenY r.Packed r.Size)⟩, ⟨r.Device, UInt64.ofNat (lenZ r.Packed r.Size)⟩⟩ := by
      unfold layout_spans; rw [oS (parts_eq r)]; unfold prS; rw [if_pos h]
    have hst : layout_steps r = some ⟨16, if r.Packed then 4 else 2, 4⟩ := by unfold layout_steps; cases r.Packed <;> rfl
    obtain ⟨l1, l2, l3, p1, p2, p3, _⟩ := lenN_of h
    rw [bFl (show (!true) = false from rfl), oS hs, oS hst]
    have hq : (if r.Packed then (4 : UInt64) else 2).toNat = if r.Packed then 4 else 2 := by cases r.Packed <;> rfl
    have hv : decide (valR r) = decide (valN r.Desc.toNat r.Driver.toNat r.Device.toNat (lenX r.Size) (lenY r.Packed r.Size) (lenZ r.Packed r.Size) (if r.Packed then 4 else 2)) := by
      rw [decide_eq_decide]; exact ⟨fun q => q.2, fun q => ⟨h, q⟩⟩
    have := pchain_eq r.Desc r.Driver r.Device (UInt64.ofNat (lenX r.Size)) (UInt64.ofNat (lenY r.Packed r.Size)) (UInt64.ofNat (lenZ r.Packed r.Size)) (if r.Packed then 4 else 2) (by rw [l1]; exact p1) (by rw [l2]; exact p2) (by rw [l3]; exact p3) (by rw [hq]; cases r.Packed <;> decide)
    rw [l1, l2, l3, hq, ← hv] at this
    exact this
end Go.Proofs.Ytbeendakebamhaa

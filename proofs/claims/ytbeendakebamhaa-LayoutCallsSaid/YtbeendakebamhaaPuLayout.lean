/- Rings in plain words: sizes, parts, when they are valid. No condition. -/
import Derived.Test.YtbeendakebamhaaPuBase
namespace Go.Proofs.Ytbeendakebamhaa
def szB (p : Bool) (n : Int) : Bool := decide (1 ≤ n ∧ n ≤ 32768) && (p || decide (n.toNat &&& (n.toNat - 1) = 0))
theorem szB_in {p : Bool} {n : Int} (h : szB p n = true) : 1 ≤ n ∧ n ≤ 32768 := by
  unfold szB at h
  simp only [Bool.and_eq_true, decide_eq_true_eq] at h
  exact h.1
theorem andi_nat {a b : Nat} (ha : a < 65536) (hb : b < 65536) : andi (a : Int) (b : Int) = ((a &&& b : Nat) : Int) := by
  unfold andi
  have h1 : (BitVec.ofInt 64 (a : Int) &&& BitVec.ofInt 64 (b : Int)).toNat = a &&& b := by
    rw [BitVec.toNat_and]
    simp only [BitVec.toNat_ofInt]
    congr 1
    · omega
    · omega
  have h2 : a &&& b ≤ a := Nat.and_le_left
  rw [h1, wi_nat (by omega)]
theorem isSize_eq (r : Rings) : layout_isSize r = some (szB r.Packed r.Size) := by
  unfold layout_isSize szB
  have hs : serial_isSize r.Size = some (decide (1 ≤ r.Size ∧ r.Size ≤ 32768)) := by
    unfold serial_isSize
    by_cases h : r.Size ≥ 1
    · rw [bP h]; refine congrArg some ?_
      by_cases h2 : r.Size ≤ 32768
      · rw [decide_eq_true h2, decide_eq_true ⟨h, h2⟩]
      · rw [decide_eq_false h2, decide_eq_false (fun q => h2 q.2)]
    · rw [bN h, decide_eq_false (fun q => h q.1)]
  cases hp : r.Packed with
  | true =>
    rw [bT rfl, Bool.true_or, Bool.and_true]
    exact hs
  | false =>
    rw [bFl rfl, Bool.false_or]
    unfold serial_Power
    rw [oS hs]
    by_cases h : 1 ≤ r.Size ∧ r.Size ≤ 32768
    · rw [decide_eq_true h, bT rfl, obS, Bool.true_and]
      refine congrArg some ?_
      obtain ⟨k, hk⟩ : ∃ k : Nat, r.Size = (k : Int) := ⟨r.Size.toNat, by omega⟩
      have e1 : wi (r.Size - 1) = ((k - 1 : Nat) : Int) := by rw [wi_in (by omega) (by omega)]; omega
      rw [e1, hk, andi_nat (by omega) (by omega), Int.toNat_natCast]
      by_cases q : k &&& (k - 1) = 0
      · rw [decide_eq_true q, q]; rfl
      · rw [decide_eq_false q, beq_false_of_ne (by omega)]
    · rw [decide_eq_false h, bFl rfl, Bool.false_and]; rfl
theorem rpow_un (n : Int) : ref_Power01 n = br ((1 : Int) == n) (some true) (br ((2 : Int) == n) (some true) (br ((4 : Int) == n) (some true) (br ((8 : Int) == n) (some true) (br ((16 : Int) == n) (some true) (br ((32 : Int) == n) (some true) (br ((64 : Int) == n) (some true) (br ((128 : Int) == n) (some true) (br ((256 : Int) == n) (some true) (br ((512 : Int) == n) (some true) (br ((1024 : Int) == n) (some true) (br ((2048 : Int) == n) (some true) (br ((4096 : Int) == n) (some true) (br ((8192 : Int) == n) (some true) (br ((16384 : Int) == n) (some true) (br ((32768 : Int) == n) (some true) (some false)))))))))))))))) := by kernel_rfl
theorem pow_cases {k : Nat} (h0 : 0 < k) (h1 : k ≤ 32768) (h : k &&& (k - 1) = 0) : k = 1 ∨ k = 2 ∨ k = 4 ∨ k = 8 ∨ k = 16 ∨ k = 32 ∨ k = 64 ∨ k = 128 ∨ k = 256 ∨ k = 512 ∨ k = 1024 ∨ k = 2048 ∨ k = 4096 ∨ k = 8192 ∨ k = 16384 ∨ k = 32768 := by
  obtain ⟨e, he⟩ := (Nat.and_sub_one_eq_zero_iff_isPowerOfTwo (by omega)).1 h
  have hlt : e < 16 := by
    rcases Nat.lt_or_ge e 16 with q | q
    · exact q
    · have := Nat.pow_le_pow_right (n := 2) (by decide) q
      omega
  have : e = 0 ∨ e = 1 ∨ e = 2 ∨ e = 3 ∨ e = 4 ∨ e = 5 ∨ e = 6 ∨ e = 7 ∨ e = 8 ∨ e = 9 ∨ e = 10 ∨ e = 11 ∨ e = 12 ∨ e = 13 ∨ e = 14 ∨ e = 15 := by omega
  rcases this with q | q | q | q | q | q | q | q | q | q | q | q | q | q | q | q <;> subst q <;> simp at he <;> simp [he]
theorem rsize_eq (p : Bool) (n : Int) : ref_size04 p n = some (szB p n) := by
  unfold ref_size04 szB
  by_cases h : n ≥ 1
  · rw [bP h]
    by_cases h2 : n ≤ 32768
    · rw [bP h2, decide_eq_true (show 1 ≤ n ∧ n ≤ 32768 from ⟨h, h2⟩), Bool.true_and]
      cases p with
      | true => rw [bT rfl]; rfl
      | false =>
        rw [bFl rfl, Bool.false_or, rpow_un]
        obtain ⟨k, rfl⟩ : ∃ k : Nat, n = (k : Int) := ⟨n.toNat, by omega⟩
        rw [Int.toNat_natCast]
        by_cases q : k &&& (k - 1) = 0
        · rw [decide_eq_true q]
          have hk := pow_cases (by omega) (by omega) q
          clear q h h2
          rcases hk with e | e | e | e | e | e | e | e | e | e | e | e | e | e | e | e <;> subst e <;> rfl
        · rw [decide_eq_false q]
          have ne : ∀ (m : Nat) (M : Int), M = (m : Int) → (m &&& (m - 1)) = 0 → ¬ (M = (k : Int)) := fun m M hM hm e => q ((show m = k by omega) ▸ hm)
          rw [bF (ne 1 1 rfl (by decide)), bF (ne 2 2 rfl (by decide)), bF (ne 4 4 rfl (by decide)), bF (ne 8 8 rfl (by decide)), bF (ne 16 16 rfl (by decide)), bF (ne 32 32 rfl (by decide)), bF (ne 64 64 rfl (by decide)), bF (ne 128 128 rfl (by decide)), bF (ne 256 256 rfl (by decide)), bF (ne 512 512 rfl (by decide)), bF (ne 1024 1024 rfl (by decide)), bF (ne 2048 2048 rfl (by decide)), bF (ne 4096 4096 rfl (by decide)), bF (ne 8192 8192 rfl (by decide)), bF (ne 16384 16384 rfl (by decide)), bF (ne 32768 32768 rfl (by decide)), obS]
    · rw [bN h2, decide_eq_false (fun q => h2 q.2)]; rfl
  · rw [bN h, decide_eq_false (fun q => h q.1)]; rfl
/-- how many bytes the parts have -/
def lenX (n : Int) : Nat := 16 * n.toNat
def lenY (p : Bool) (n : Int) : Nat := if p then 4 else 6 + 2 * n.toNat
def lenZ (p : Bool) (n : Int) : Nat := if p then 4 else 6 + 8 * n.toNat
def prS (p : Bool) (n : Int) : UInt64 × UInt64 × UInt64 := if szB p n then (UInt64.ofNat (lenX n), UInt64.ofNat (lenY p n), UInt64.ofNat (lenZ p n)) else (0, 0, 0)
theorem u64_n {n : Int} (h : 1 ≤ n ∧ n ≤ 32768) : u64 n = UInt64.ofNat n.toNat := by
  obtain ⟨k, rfl⟩ : ∃ k : Nat, n = (k : Int) := ⟨n.toNat, by omega⟩
  rw [u64_of, Int.toNat_natCast]
theorem mul_of (a b : Nat) : UInt64.ofNat a * UInt64.ofNat b = UInt64.ofNat (a * b) := by rw [UInt64.ofNat_mul]
theorem prs_of {p : Bool} {n : Int} (h : szB p n = true) : (if p then ((16 : UInt64) * u64 n, (4 : UInt64), (4 : UInt64)) else (16 * u64 n, 6 + 2 * u64 n, 6 + 8 * u64 n)) = prS p n := by
  have hn := szB_in h
  unfold prS lenX lenY lenZ
  rw [if_pos h, u64_n hn]
  have e16 : (16 : UInt64) * UInt64.ofNat n.toNat = UInt64.ofNat (16 * n.toNat) := mul_of 16 _
  have e2 : (6 : UInt64) + 2 * UInt64.ofNat n.toNat = UInt64.ofNat (6 + 2 * n.toNat) := by rw [UInt64.ofNat_add, ← mul_of]; rfl
  have e8 : (6 : UInt64) + 8 * UInt64.ofNat n.toNat = UInt64.ofNat (6 + 8 * n.toNat) := by rw [UInt64.ofNat_add, ← mul_of]; rfl
  rw [e16, e2, e8]
  cases p <;> rfl
theorem parts_eq (r : Rings) : layout_Parts r = some (prS r.Packed r.Size) := by
  unfold layout_Parts
  rw [oS (isSize_eq r)]
  cases h : szB r.Packed r.Size with
  | false => rw [bT (show (!false) = true from rfl)]; unfold prS; rw [h]; rfl
  | true =>
    rw [bFl (show (!true) = false from rfl), ← prs_of h]
    cases hp : r.Packed with
    | true => rw [bT rfl]; rfl
    | false => rw [bFl rfl]; rfl
theorem rparts_eq (r : Rings) : ref_Parts04 r = some (prS r.Packed r.Size) := by
  unfold ref_Parts04
  rw [oS (rsize_eq _ _)]
  cases h : szB r.Packed r.Size with
  | false => rw [bT (show (!false) = true from rfl)]; unfold prS; rw [h]; rfl
  | true =>
    rw [bFl (show (!true) = false from rfl), ← prs_of h]
    cases hp : r.Packed with
    | true => rw [bT rfl]; rfl
    | false => rw [bFl rfl]; rfl
theorem beyond_eq (a n : UInt64) (hn : 0 < n.toNat) : layout_beyond a n = some (decide (¬ a.toNat + n.toNat ≤ 18446744073709551616)) := by
  have ha := a.toNat_lt
  have hn2 := n.toNat_lt
  unfold layout_beyond
  rw [bP (lt64.2 (by simpa using hn))]
  refine congrArg some ?_
  rw [decide_eq_decide, GT.gt, lt64, sub64 (by simp only [UInt64.reduceToNat]; omega), sub64 (by simp only [UInt64.reduceToNat]; omega)]
  simp only [UInt64.reduceToNat]; omega
/-- have two spans a byte in common? -/
def comN (a n b m : Nat) : Prop := ¬ (a + n ≤ b ∨ b + m ≤ a)
instance (a n b m : Nat) : Decidable (comN a n b m) := by unfold comN; infer_instance
theorem common_eq (a n b m : UInt64) (hn : 0 < n.toNat) (hm : 0 < m.toNat) : layout_common a n b m = some (decide (comN a.toNat n.toNat b.toNat m.toNat)) := by
  unfold layout_common
  by_cases h : a ≤ b
  · have h' := le64.1 h
    rw [bP h]; refine congrArg some ?_
    rw [decide_eq_decide, lt64, sub64 h']; unfold comN; omega
  · have h' : ¬ a.toNat ≤ b.toNat := fun q => h (le64.2 q)
    rw [bN h]; refine congrArg some ?_
    rw [decide_eq_decide, lt64, sub64 (by omega)]; unfold comN; omega
def valN (D V W X Y Z Q : Nat) : Prop := D % 16 = 0 ∧ D + X ≤ 18446744073709551616 ∧ V % Q = 0 ∧ V + Y ≤ 18446744073709551616 ∧ ¬ comN V Y D X ∧ W % 4 = 0 ∧ W + Z ≤ 18446744073709551616 ∧ ¬ comN W Z D X ∧ ¬ comN W Z V Y
instance (D V W X Y Z Q : Nat) : Decidable (valN D V W X Y Z Q) := by unfold valN; infer_instance
theorem brD {c : Bool} {k : Option Int} {P : Prop} [Decidable P] (h : c = true → ¬ P) (h' : c = false → k = some (two (decide P))) : br c (some 2) k = some (two (decide P)) := by
  cases c with
  | false => exact h' rfl
  | true => rw [decide_eq_false (h rfl)]; rfl
theorem mod_ne (a q : UInt64) : (a % q != (0 : UInt64)) = decide (a.toNat % q.toNat ≠ 0) := by
  rw [Bool.eq_iff_iff, bne_iff_ne, decide_eq_true_eq]
  constructor
  · intro h e; exact h (UInt64.toNat_inj.1 (by rw [UInt64.toNat_mod]; exact e))
  · intro h e; apply h; rw [← UInt64.toNat_mod, e]; rfl
def pchain (d v w x y z q : UInt64) : Option Int :=
  chk (!((16 : UInt64) == 0)) <| br ((d % 16) != (0 : UInt64)) (some (2 : Int)) (ob (layout_beyond d x) fun b1 => br b1 (some (2 : Int))
  (chk (!(q == 0)) <| br ((v % q) != (0 : UInt64)) (some (2 : Int)) (ob (layout_beyond v y) fun b2 => br b2 (some (2 : Int)) (ob (layout_common v y d x) fun c1 => br c1 (some (2 : Int))
  (chk (!((4 : UInt64) == 0)) <| br ((w % 4) != (0 : UInt64)) (some (2 : Int)) (ob (layout_beyond w z) fun b3 => br b3 (some (2 : Int)) (ob (layout_common w z d x) fun c2 => br c2 (some (2 : Int)) (ob (layout_common w z v y) fun c3 => br c3 (some (2 : Int)) (some (0 : Int))))))))))
theorem pchain_eq (d v w x y z q : UInt64) (hx : 0 < x.toNat) (hy : 0 < y.toNat) (hz : 0 < z.toNat) (hq : 0 < q.toNat) : pchain d v w x y z q = some (two (decide (valN d.toNat v.toNat w.toNat x.toNat y.toNat z.toNat q.toNat))) := by
  unfold pchain
  have q0 : ∀ u : UInt64, 0 < u.toNat → (u == 0) = false := fun u hu => beq_false_of_ne (fun e => by rw [e] at hu; exact absurd hu (by decide))
  rw [cNT (q0 16 (by decide)), mod_ne]
  refine brD (fun h p => of_decide_eq_true h p.1) fun h1 => ?_
  rw [oS (beyond_eq d x hx)]
  refine brD (fun h p => of_decide_eq_true h p.2.1) fun h2 => ?_
  rw [cNT (q0 q hq), mod_ne]
  refine brD (fun h p => of_decide_eq_true h p.2.2.1) fun h3 => ?_
  rw [oS (beyond_eq v y hy)]
  refine brD (fun h p => of_decide_eq_true h p.2.2.2.1) fun h4 => ?_
  rw [oS (common_eq v y d x hy hx)]
  refine brD (fun h p => p.2.2.2.2.1 (of_decide_eq_true h)) fun h5 => ?_
  rw [cNT (q0 4 (by decide)), mod_ne]
  refine brD (fun h p => of_decide_eq_true h p.2.2.2.2.2.1) fun h6 => ?_
  rw [oS (beyond_eq w z hz)]
  refine brD (fun h p => of_decide_eq_true h p.2.2.2.2.2.2.1) fun h7 => ?_
  rw [oS (common_eq w z d x hz hx)]
  refine brD (fun h p => p.2.2.2.2.2.2.2.1 (of_decide_eq_true h)) fun h8 => ?_
  rw [oS (common_eq w z v y hz hy)]
  refine brD (fun h p => p.2.2.2.2.2.2.2.2 (of_decide_eq_true h)) fun h9 => ?_
  have nn : ∀ {P : Prop} [Decidable P], decide (¬ P) = false → P := fun {P} _ h => Decidable.not_not.1 (of_decide_eq_false h)
  have hv : valN d.toNat v.toNat w.toNat x.toNat y.toNat z.toNat q.toNat := ⟨nn h1, nn h2, nn h3, nn h4, of_decide_eq_false h5, nn h6, nn h7, of_decide_eq_false h8, of_decide_eq_false h9⟩
  rw [decide_eq_true hv]; rfl
/-- are rings valid? -/
def valR (r : Rings) : Prop := szB r.Packed r.Size = true ∧ valN r.Desc.toNat r.Driver.toNat r.Device.toNat (lenX r.Size) (lenY r.Packed r.Size) (lenZ r.Packed r.Size) (if r.Packed then 4 else 2)
instance (r : Rings) : Decidable (valR r) := by unfold valR; infer_instance
theorem lenN_of {p : Bool} {n : Int} (h : szB p n = true) : (UInt64.ofNat (lenX n)).toNat = lenX n ∧ (UInt64.ofNat (lenY p n)).toNat = lenY p n ∧ (UInt64.ofNat (lenZ p n)).toNat = lenZ p n ∧ 0 < lenX n ∧ 0 < lenY p n ∧ 0 < lenZ p n ∧ lenX n ≤ 524288 ∧ lenY p n ≤ 65542 ∧ lenZ p n ≤ 262150 := by
  have hn := szB_in h
  simp only [UInt64.toNat_ofNat']
  unfold lenX lenY lenZ
  cases p <;> simp <;> omega
theorem check_eq (r : Rings) : layout_Check r = some (two (decide (valR r))) := by
  unfold layout_Check
  rw [oS (isSize_eq r)]
  cases h : szB r.Packed r.Size with
  | false => rw [bT (show (!false) = true from rfl), decide_eq_false (fun q => by have := q.1; rw [h] at this; cases this)]; rfl
  | true =>
    have hs : layout_spans r = some ⟨⟨r.Desc, UInt64.ofNat (lenX r.Size)⟩, ⟨r.Driver, UInt64.ofNat (lenY r.Packed r.Size)⟩, ⟨r.Device, UInt64.ofNat (lenZ r.Packed r.Size)⟩⟩ := by
      unfold layout_spans; rw [oS (parts_eq r)]; unfold prS; rw [if_pos h]
    have hst : layout_steps r = some ⟨16, if r.Packed then 4 else 2, 4⟩ := by unfold layout_steps; cases r.Packed <;> rfl
    obtain ⟨l1, l2, l3, p1, p2, p3, _⟩ := lenN_of h
    rw [bFl (show (!true) = false from rfl), oS hs, oS hst]
    have hq : (if r.Packed then (4 : UInt64) else 2).toNat = if r.Packed then 4 else 2 := by cases r.Packed <;> rfl
    have hv : decide (valR r) = decide (valN r.Desc.toNat r.Driver.toNat r.Device.toNat (lenX r.Size) (lenY r.Packed r.Size) (lenZ r.Packed r.Size) (if r.Packed then 4 else 2)) := by
      rw [decide_eq_decide]; exact ⟨fun q => q.2, fun q => ⟨h, q⟩⟩
    have := pchain_eq r.Desc r.Driver r.Device (UInt64.ofNat (lenX r.Size)) (UInt64.ofNat (lenY r.Packed r.Size)) (UInt64.ofNat (lenZ r.Packed r.Size)) (if r.Packed then 4 else 2) (by rw [l1]; exact p1) (by rw [l2]; exact p2) (by rw [l3]; exact p3) (by rw [hq]; cases r.Packed <;> decide)
    rw [l1, l2, l3, hq, ← hv] at this
    exact this
theorem rcommon_eq (a n b m : UInt64) (hn : 0 < n.toNat) (hm : 0 < m.toNat) : ref_common04 a n b m = some (decide (comN a.toNat n.toNat b.toNat m.toNat)) := by
  unfold ref_common04
  rw [bP (lt64.2 (by simpa using hn)), bP (lt64.2 (by simpa using hm))]
  by_cases h : a ≤ b
  · have h' := le64.1 h
    rw [bP h]
    by_cases h2 : b - a < n
    · have := lt64.1 h2; rw [sub64 h'] at this
      rw [bP h2, decide_eq_true (by unfold comN; omega)]
    · have : ¬ (b - a).toNat < n.toNat := fun q => h2 (lt64.2 q)
      rw [sub64 h'] at this
      rw [bN h2, bN (fun q => by have := lt64.1 q; omega), decide_eq_false (by unfold comN; omega)]
  · have h' : ¬ a.toNat ≤ b.toNat := fun q => h (le64.2 q)
    rw [bN h, bP (lt64.2 (by omega))]; refine congrArg some ?_
    rw [decide_eq_decide, lt64, sub64 (by omega)]; unfold comN; omega
theorem rcommon0 (a n b m : UInt64) (hn : ¬ 0 < n.toNat) : ref_common04 a n b m = some false := by
  unfold ref_common04
  rw [bN (fun q => hn (by have := lt64.1 q; simpa using this))]
def rchain (d v w x y z q : UInt64) : Option Int :=
  chk (!((16 : UInt64) == 0)) <| br ((d % 16) != (0 : UInt64)) (some (2 : Int)) (br (decide (d + (x - 1) < d)) (some (2 : Int))
  (chk (!(q == 0)) <| br ((v % q) != (0 : UInt64)) (some (2 : Int)) (br (decide (v + (y - 1) < v)) (some (2 : Int)) (ob (ref_common04 v y d x) fun c1 => br c1 (some (2 : Int))
  (chk (!((4 : UInt64) == 0)) <| br ((w % 4) != (0 : UInt64)) (some (2 : Int)) (br (decide (w + (z - 1) < w)) (some (2 : Int)) (ob (ref_common04 w z d x) fun c2 => br c2 (some (2 : Int)) (ob (ref_common04 w z v y) fun c3 => br c3 (some (2 : Int)) (some (0 : Int))))))))))
theorem rchain_un (d v w x y z q : UInt64) : ref_Check04J1 [d, v, w] [x, y, z] [16, q, 4] = rchain d v w x y z q := by kernel_rfl
theorem over_eq (a n : UInt64) (hn : 0 < n.toNat) : decide (a + (n - 1) < a) = decide (¬ a.toNat + n.toNat ≤ 18446744073709551616) := by
  have ha := a.toNat_lt
  have hn2 := n.toNat_lt
  rw [decide_eq_decide, lt64, UInt64.toNat_add, sub64 (by simp only [UInt64.reduceToNat]; omega)]
  simp only [UInt64.reduceToNat]; omega
theorem rchain_eq (d v w x y z q : UInt64) (hx : 0 < x.toNat) (hy : 0 < y.toNat) (hz : 0 < z.toNat) (hq : 0 < q.toNat) : rchain d v w x y z q = some (two (decide (valN d.toNat v.toNat w.toNat x.toNat y.toNat z.toNat q.toNat))) := by
  unfold rchain
  have q0 : ∀ u : UInt64, 0 < u.toNat → (u == 0) = false := fun u hu => beq_false_of_ne (fun e => by rw [e] at hu; exact absurd hu (by decide))
  rw [cNT (q0 16 (by decide)), mod_ne]
  refine brD (fun h p => of_decide_eq_true h p.1) fun h1 => ?_
  rw [over_eq d x hx]
  refine brD (fun h p => of_decide_eq_true h p.2.1) fun h2 => ?_
  rw [cNT (q0 q hq), mod_ne]
  refine brD (fun h p => of_decide_eq_true h p.2.2.1) fun h3 => ?_
  rw [over_eq v y hy]
  refine brD (fun h p => of_decide_eq_true h p.2.2.2.1) fun h4 => ?_
  rw [oS (rcommon_eq v y d x hy hx)]
  refine brD (fun h p => p.2.2.2.2.1 (of_decide_eq_true h)) fun h5 => ?_
  rw [cNT (q0 4 (by decide)), mod_ne]
  refine brD (fun h p => of_decide_eq_true h p.2.2.2.2.2.1) fun h6 => ?_
  rw [over_eq w z hz]
  refine brD (fun h p => of_decide_eq_true h p.2.2.2.2.2.2.1) fun h7 => ?_
  rw [oS (rcommon_eq w z d x hz hx)]
  refine brD (fun h p => p.2.2.2.2.2.2.2.1 (of_decide_eq_true h)) fun h8 => ?_
  rw [oS (rcommon_eq w z v y hz hy)]
  refine brD (fun h p => p.2.2.2.2.2.2.2.2 (of_decide_eq_true h)) fun h9 => ?_
  have nn : ∀ {P : Prop} [Decidable P], decide (¬ P) = false → P := fun {P} _ h => Decidable.not_not.1 (of_decide_eq_false h)
  have hv : valN d.toNat v.toNat w.toNat x.toNat y.toNat z.toNat q.toNat := ⟨nn h1, nn h2, nn h3, nn h4, of_decide_eq_false h5, nn h6, nn h7, of_decide_eq_false h8, of_decide_eq_false h9⟩
  rw [decide_eq_true hv]; rfl
theorem rcheck_eq (r : Rings) : ref_Check04 r = some (two (decide (valR r))) := by
  unfold ref_Check04
  rw [oS (rparts_eq r)]
  cases h : szB r.Packed r.Size with
  | false =>
    unfold prS
    rw [h, if_neg (by decide), bE rfl, decide_eq_false (fun q => by have := q.1; rw [h] at this; cases this)]; rfl
  | true =>
    obtain ⟨l1, l2, l3, p1, p2, p3, _⟩ := lenN_of h
    unfold prS
    rw [if_pos h]
    dsimp only
    rw [bF (fun e => by have := congrArg UInt64.toNat e; rw [l1] at this; simp only [UInt64.reduceToNat] at this; omega)]
    have hv : decide (valR r) = decide (valN r.Desc.toNat r.Driver.toNat r.Device.toNat (lenX r.Size) (lenY r.Packed r.Size) (lenZ r.Packed r.Size) (if r.Packed then 4 else 2)) := by
      rw [decide_eq_decide]; exact ⟨fun q => q.2, fun q => ⟨h, q⟩⟩
    cases hp : r.Packed with
    | true =>
      rw [hp] at l2 l3 p2 p3 hv
      rw [bT rfl, oS (show ix [(16 : UInt64), 2, 4] (1 : Int) = some 2 from rfl)]
      have e : [(16 : UInt64), 2, 4].set (1 : Int).toNat 4 = [16, 4, 4] := rfl
      rw [e, rchain_un, rchain_eq _ _ _ _ _ _ _ (by rw [l1]; exact p1) (by rw [l2]; exact p2) (by rw [l3]; exact p3) (by decide), l1, l2, l3, hv]; rfl
    | false =>
      rw [hp] at l2 l3 p2 p3 hv
      rw [bFl rfl, rchain_un, rchain_eq _ _ _ _ _ _ _ (by rw [l1]; exact p1) (by rw [l2]; exact p2) (by rw [l3]; exact p3) (by decide), l1, l2, l3, hv]; rfl
end Go.Proofs.Ytbeendakebamhaa

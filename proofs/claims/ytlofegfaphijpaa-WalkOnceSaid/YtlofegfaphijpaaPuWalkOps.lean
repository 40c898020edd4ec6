/- Rings that are laid, and what the program answers of a split chain. No condition. -/
import Derived.Test.YtlofegfaphijpaaPuWalk
namespace Go.Proofs.Ytlofegfaphijpaa
theorem lives10 : law10zlives = some true := by decide +kernel
/-! the ring that is laid -/
def ringOk (r : Rings) (p : Bool) (n : Int) : Prop := r.Packed = p ∧ r.Size = n ∧ r.Desc = 0 ∧ layout_Check r = some 0 ∧ ref_Check04 r = some 0
instance (r : Rings) (p : Bool) (n : Int) : Decidable (ringOk r p n) := by unfold ringOk; infer_instance
def laidOk (p : Bool) (n : Int) : Bool := match ref_Place04 p n 0 with
  | some (r, _, e) => decide (ringOk r p n) && e == 0
  | none => false
theorem laid_split : ∀ k : Nat, k < 8 → laidOk false ((2 ^ k : Nat) : Int) = true := by decide +kernel
theorem laid_ring {p : Bool} {n : Int} (h : laidOk p n = true) : ∃ r u, ref_Place04 p n 0 = some (r, u, 0) ∧ ringOk r p n := by
  unfold laidOk at h
  cases e : ref_Place04 p n 0 with
  | none => rw [e] at h; cases h
  | some q =>
    obtain ⟨r, u, z⟩ := q
    rw [e] at h
    simp only [Bool.and_eq_true, decide_eq_true_eq, beq_iff_eq] at h
    exact ⟨r, u, by rw [h.2], h.1⟩
theorem laidL (p : Bool) (l : List dumbwaiterlaw10_Spot) (hl : l.length ≤ 1000) (m2 : Rings) : ∀ (nf i : Nat) (m1 : Rings) (x : List UInt8), flatOk 12000 x → i ≤ l.length → l.length - i < nf → ∃ y, flatOk 12000 y ∧
    law10zlaidL1 p l ⟨rg 12000, [z1 12000]⟩ ⟨rg 12000, [z1 12000]⟩ nf m1 m2 [x] [x] (i : Int) = some (some ⟨rg 12000, [y]⟩, some ⟨rg 12000, [y]⟩, m2, true)
  | 0, i, _, _, _, _, h => absurd h (Nat.not_lt_zero _)
  | nf + 1, i, m1, x, hx, hi, hn => by
    unfold law10zlaidL1 law10zlaidL1B
    by_cases h : i < l.length
    · have step : ∀ b : List UInt8, b.length = 16 → ∃ y, flatOk 12000 y ∧ law10zlaidJ2 l ⟨rg 12000, [z1 12000]⟩ ⟨rg 12000, [z1 12000]⟩ m1 m2 [x] [x] (i : Int) (law10zlaidL1 p l ⟨rg 12000, [z1 12000]⟩ ⟨rg 12000, [z1 12000]⟩ nf) b = some (some ⟨rg 12000, [y]⟩, some ⟨rg 12000, [y]⟩, m2, true) := by
        intro b hb
        unfold law10zlaidJ2
        obtain ⟨k, hk, hk2⟩ := pick_eq l[i].At 750 (by omega) (by omega)
        have ha : (u64 (wi (16 * (k : Int)))).toNat = 16 * k := by
          rw [wi_in (by omega) (by omega)]
          simp only [u64, UInt64.toNat_ofNat']
          omega
        have hle : (u64 (wi (16 * (k : Int)))).toNat + b.length ≤ (12000 : UInt64).toNat := by
          rw [ha, hb]; simp only [UInt64.reduceToNat]; omega
        rw [oS (ix_get h), oS (show kit_Pick l[i].At 750 = some (k : Int) from hk), oS (write1_eq hx _ _ hle), oS (rwrite1 hx _ _ hle), wi_succ (by omega)]
        exact laidL p l hl m2 nf (i + 1) m1 _ (wrF_ok hx hle) (by omega) (by omega)
      rw [bP (by simp only [len]; omega), oS (ix_get h), oS (refBytesD _)]
      cases p with
      | false => rw [brF]; exact step _ rfl
      | true => rw [brT, oS (ix_get h), oS (refBytesP _)]; exact step _ rfl
    · rw [bN (by simp only [len]; omega)]
      exact ⟨x, hx, rfl⟩
theorem laid_eq {p : Bool} {n : Int} (h : laidOk p n = true) (l : List dumbwaiterlaw10_Spot) (hl : l.length ≤ 1000) : ∃ r x, ringOk r p n ∧ flatOk 12000 x ∧ law10zlaid n p l = some (some ⟨rg 12000, [x]⟩, some ⟨rg 12000, [x]⟩, r, true) := by
  obtain ⟨r, u, h1, h2⟩ := laid_ring h
  have h12 : (12000 : UInt64).toNat = 12000 := rfl
  obtain ⟨y, hy, hz⟩ := laidL p l hl r fuel 0 (Rings.mk false 0 0 0 0) (z1 12000) (z1_ok (by omega) (by omega)) (by omega) (by rw [fuelS]; omega)
  refine ⟨r, y, h2, hy, ?_⟩
  unfold law10zlaid
  rw [oS h1, oS (show gmem_New [Region.mk 0 12000] = some (some ⟨rg 12000, [z1 12000]⟩, 0) from new1_eq (by omega) (by omega))]
  dsimp only [onO]
  rw [oS (show ref_New02 [Region.mk 0 12000] = some (some ⟨rg 12000, [z1 12000]⟩, 0) from rnew1 (by omega) (by omega))]
  dsimp only [onO]
  rw [nE rfl, nE rfl, nE rfl]
  exact hz
/-! what is refused -/
theorem wrefuse {N : UInt64} {x : List UInt8} (hx : flatOk N x) {r : Rings} {p : Bool} {n : Int} (h : ringOk r p n) : walk_refuse ⟨rg N, [x]⟩ r p = some 0 := by
  unfold walk_refuse
  rw [oS (read_eqM ⟨rg N, [x]⟩ (flat_mem hx) 0 0 (by omega)), if_neg (by omega), if_pos rfl, nE rfl, oS h.2.2.2.1, nE rfl, h.1, bneI, brF]
/-! what is taken -/
def lookF (N : Nat) (l : List Seg) : List Seg × Int := if l = [] ∨ errS l ≠ 0 then ([], 4) else if inF N l then (l, 0) else ([], 5)
theorem look_eq {N : UInt64} {x : List UInt8} (hx : flatOk N x) (l : List Seg) : walk_looked ⟨rg N, [x]⟩ l = some (lookF N.toNat l) := by
  unfold walk_looked lookF
  by_cases h1 : l = []
  · subst h1; rw [bE (show len ([] : List Seg) = 0 from rfl), if_pos (Or.inl rfl)]
  · have h0 : ¬ len l = 0 := by
      simp only [len]
      have := List.length_pos_iff.2 h1; omega
    rw [bF h0, oS (segCheck l)]
    by_cases h2 : errS l = 0
    · have hno : ¬ (l = [] ∨ errS l ≠ 0) := by
        rintro (q | q)
        · exact h1 q
        · exact q h2
      rw [nE h2, oS (segIn_eq _ (flat_mem hx) l), inE1, if_pos h2, if_neg hno]
      by_cases h3 : inF N.toNat l
      · rw [if_pos h3, if_pos h3, nE rfl]
      · rw [if_neg h3, if_neg h3, nF (by decide)]
    · rw [nF h2, if_pos (Or.inr h2)]
def splR (N : Nat) (x : List UInt8) (r : Rings) (head : Int) (t : Bool) : List Seg × Int := if (splW N x r head t).1 ≠ 0 then ([], (splW N x r head t).1) else lookF N (splW N x r head t).2.2
theorem wSplit_eq {N : UInt64} {x : List UInt8} (hx : flatOk N x) {r : Rings} {n : Int} (h : ringOk r false n) (h1 : 0 ≤ n) (h2 : n ≤ 32768) (head : Int) (t : Bool) : walk_Split ⟨rg N, [x]⟩ r head t = some (splR N.toNat x r head t) := by
  unfold walk_Split splR
  rw [oS (wrefuse hx h), nE rfl, oS (wsplit_eq hx r head t (by rw [h.2.1]; exact h1) (by rw [h.2.1]; exact h2))]
  generalize splW N.toNat x r head t = w
  dsimp only
  by_cases q : w.1 = 0
  · rw [nE q, oS (look_eq hx _), if_neg (by simpa using q)]
  · rw [nF q, if_pos q]
theorem wReads_eq {N : UInt64} {x : List UInt8} (hx : flatOk N x) {r : Rings} {n : Int} (h : ringOk r false n) (h1 : 0 ≤ n) (h2 : n ≤ 32768) (head : Int) (t : Bool) : walk_Reads ⟨rg N, [x]⟩ r head t = some (((splW N.toNat x r head t).2.1 : Nat) : Int) := by
  unfold walk_Reads
  rw [oS (wrefuse hx h), nE rfl, oS (wsplit_eq hx r head t (by rw [h.2.1]; exact h1) (by rw [h.2.1]; exact h2))]
end Go.Proofs.Ytlofegfaphijpaa

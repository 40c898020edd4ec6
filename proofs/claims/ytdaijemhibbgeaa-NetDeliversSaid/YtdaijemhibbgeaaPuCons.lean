/- Bytes given into buffers side by side, in plain words. No condition. -/
import Derived.Test.YtdaijemhibbgeaaPuFlat
namespace Go.Proofs.Ytdaijemhibbgeaa
theorem cD {P : Prop} [Decidable P] {ρ : Type} {k : Option ρ} (h : P) : chk (decide P) k = k := by rw [decide_eq_true h]; rfl
/-- a buffer of n writable bytes from a on -/
def bufR (a n : Nat) : List Seg := [⟨UInt64.ofNat a, UInt32.ofNat n, true⟩]
def roomsF : Nat → List Nat → List (List Seg)
  | _, [] => []
  | a, n :: l => bufR a n :: roomsF (a + n) l
def sumL : List Nat → Nat
  | [] => 0
  | n :: l => n + sumL l
theorem sumL_c (n : Nat) (l : List Nat) : sumL (n :: l) = n + sumL l := rfl
def okL (l : List Nat) : Prop := ∀ n ∈ l, 1 ≤ n ∧ n ≤ 700
theorem okL_c {n : Nat} {l : List Nat} (h : okL (n :: l)) : (1 ≤ n ∧ n ≤ 700) ∧ okL l := ⟨h n (List.mem_cons_self ..), fun m hm => h m (List.mem_cons_of_mem _ hm)⟩
theorem rooms_len : ∀ (a : Nat) (l : List Nat), (roomsF a l).length = l.length
  | _, [] => rfl
  | a, n :: l => by simp only [roomsF, List.length_cons, rooms_len (a + n) l]
theorem n32 {n : Nat} (h : n ≤ 4000000000) : (UInt32.ofNat n).toNat = n := by rw [UInt32.toNat_ofNat']; omega
theorem n64 {n : Nat} (h : n ≤ 4000000000) : (UInt64.ofNat n).toNat = n := by rw [UInt64.toNat_ofNat']; omega
theorem buf_good {a n : Nat} (hn : 1 ≤ n ∧ n ≤ 700) (h : a + n ≤ 16384) : goodS (bufR a n) ∧ inF 16384 (bufR a n) ∧ wrS (bufR a n) = n ∧ rdS (bufR a n) = 0 := by
  have h1 := n32 (n := n) (by omega)
  have h2 := n64 (n := a) (by omega)
  unfold bufR
  refine ⟨⟨by simp, ?_, ?_⟩, ?_, ?_, ?_⟩
  · unfold okS
    rw [Bool.and_eq_true]
    exact ⟨decide_eq_true ⟨by dsimp only; omega, by dsimp only; omega, fun q => by cases q⟩, rfl⟩
  · unfold sumS sumS; dsimp only; omega
  · intro s hs
    rw [List.mem_singleton] at hs; subst hs
    dsimp only; omega
  · unfold wrS wrS; dsimp only; rw [if_pos rfl]; omega
  · unfold rdS rdS; rfl
theorem wrF_app {x xs ys : List UInt8} {a : Nat} (h : a + xs.length + ys.length ≤ x.length) : wrF (wrF x a xs) (a + xs.length) ys = wrF x a (xs ++ ys) := by
  have e1 : (x.take a ++ xs).length = a + xs.length := by simp; omega
  have e2 : (wrF x a xs).take (a + xs.length) = x.take a ++ xs := by unfold wrF; exact List.take_left' e1
  have e3 : (wrF x a xs).drop (a + xs.length + ys.length) = x.drop (a + xs.length + ys.length) := by
    unfold wrF; rw [List.drop_append, e1, List.drop_of_length_le (by rw [e1]; omega), List.nil_append, List.drop_drop]
    refine congrArg (fun t => x.drop t) ?_; omega
  rw [wrF, e2, e3]
  unfold wrF
  simp only [List.append_assoc, List.length_append, Nat.add_assoc]
theorem drop_get {α : Type} {l : List α} {i : Nat} {x : α} {r : List α} (h : l.drop i = x :: r) : i < l.length ∧ l[i]? = some x ∧ l.drop (i + 1) = r := by
  have h1 : i < l.length := by
    rcases Nat.lt_or_ge i l.length with q | q
    · exact q
    · rw [List.drop_of_length_le q] at h; cases h
  rw [List.drop_eq_getElem_cons h1] at h
  injection h with h2 h3
  exact ⟨h1, by rw [getq h1, h2], h3⟩
theorem drop_end {α : Type} {l : List α} {i : Nat} (h : l.drop i = []) : l.length ≤ i := List.drop_eq_nil_iff.1 h
end Go.Proofs.Ytdaijemhibbgeaa

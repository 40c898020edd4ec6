/- Bytes given into buffers side by side, in plain words. No condition. -/
import Derived.Test.YtkjmmbmlapmkbaaPuFlat
namespace Go.Proofs.Ytkjmmbmlapmkbaa
theorem cnQ {c : Bool} {k : Option Bool} {r : Option Bool} (h : c = false) (hk : k = r) : chk (!c) k = r := by rw [h]; exact hk
theorem cD {P : Prop} [Decidable P] {ρ : Type} {k : Option ρ} (h : P) : chk (decide P) k = k := by rw [decide_eq_true h]; rfl
/-- a buffer of n writable bytes from a on -/
def bufR (a n : Nat) : List Seg := [⟨UInt64.ofNat a, UInt32.ofNat n, true⟩]
def roomsF : Nat → List Nat → List (List Seg)
  | _, [] => []
  | a, n :: l => bufR a n :: roomsF (a + n) l
def sumL : List Nat → Nat
  | [] => 0
  | n :: l => n + sumL l
theorem sumL_c (n : Nat) (l : List Nat) : sumL (n :: l) = n + sumL l := rfl
def okL (l : List Nat) : Prop := ∀ n ∈ l, 1 ≤ n ∧ n ≤ 700
/-- how much goes into each -/
def outF : Nat → List Nat → List Nat
  | _, [] => []
  | k, n :: l => if k = 0 then [] else min k n :: outF (k - min k n) l
theorem okL_c {n : Nat} {l : List Nat} (h : okL (n :: l)) : (1 ≤ n ∧ n ≤ 700) ∧ okL l := ⟨h n (List.mem_cons_self ..), fun m hm => h m (List.mem_cons_of_mem _ hm)⟩
theorem rooms_len : ∀ (a : Nat) (l : List Nat), (roomsF a l).length = l.length
  | _, [] => rfl
  | a, n :: l => by simp only [roomsF, List.length_cons, rooms_len (a + n) l]
theorem out0 (l : List Nat) : outF 0 l = [] := by cases l <;> simp [outF]
theorem out_len : ∀ (k : Nat) (l : List Nat), (outF k l).length ≤ l.length
  | _, [] => Nat.le_refl _
  | k, n :: l => by
    unfold outF
    split
    · simp
    · have := out_len (k - min k n) l
      simp only [List.length_cons]; omega
theorem n32 {n : Nat} (h : n ≤ 4000000000) : (UInt32.ofNat n).toNat = n := by rw [UInt32.toNat_ofNat']; omega
theorem n64 {n : Nat} (h : n ≤ 4000000000) : (UInt64.ofNat n).toNat = n := by rw [UInt64.toNat_ofNat']; omega
theorem buf_good {a n : Nat} (hn : 1 ≤ n ∧ n ≤ 700) (h : a + n ≤ 16384) : goodS (bufR a n) ∧ inF 16384 (bufR a n) ∧ wrS (bufR a n) = n ∧ rdS (bufR a n) = 0 := by
  have h1 := n32 (n := n) (by omega)
  have h2 := n64 (n := a) (by omega)
  unfold bufR
  refine ⟨⟨by simp, ?_, ?_⟩, ?_, ?_, ?_⟩
  · unfold okS
    rw [Bool.and_eq_true]
    exact ⟨decide_eq_true ⟨by dsimp only; omega, by dsimp only; omega, fun q => by cases q⟩, rfl⟩
  · unfold sumS sumS; dsimp only; omega
  · intro s hs
    rw [List.mem_singleton] at hs; subst hs
    dsimp only; omega
  · unfold wrS wrS; dsimp only; rw [if_pos rfl]; omega
  · unfold rdS rdS; rfl
theorem buf_tot {a n : Nat} (hn : 1 ≤ n ∧ n ≤ 700) (h : a + n ≤ 16384) : totS (bufR a n) = (0, UInt64.ofNat n) := by
  obtain ⟨g, _, w, r⟩ := buf_good hn h
  unfold totS; rw [if_pos g, w, r]; rfl
theorem wrF_app {x xs ys : List UInt8} {a : Nat} (h : a + xs.length + ys.length ≤ x.length) : wrF (wrF x a xs) (a + xs.length) ys = wrF x a (xs ++ ys) := by
  have e1 : (x.take a ++ xs).length = a + xs.length := by simp; omega
  have e2 : (wrF x a xs).take (a + xs.length) = x.take a ++ xs := by unfold wrF; exact List.take_left' e1
  have e3 : (wrF x a xs).drop (a + xs.length + ys.length) = x.drop (a + xs.length + ys.length) := by
    unfold wrF; rw [List.drop_append, e1, List.drop_of_length_le (by rw [e1]; omega), List.nil_append, List.drop_drop]
    refine congrArg (fun t => x.drop t) ?_; omega
  rw [wrF, e2, e3]
  unfold wrF
  simp only [List.append_assoc, List.length_append, Nat.add_assoc]
theorem drop_get {α : Type} {l : List α} {i : Nat} {x : α} {r : List α} (h : l.drop i = x :: r) : i < l.length ∧ l[i]? = some x ∧ l.drop (i + 1) = r := by
  have h1 : i < l.length := by
    rcases Nat.lt_or_ge i l.length with q | q
    · exact q
    · rw [List.drop_of_length_le q] at h; cases h
  rw [List.drop_eq_getElem_cons h1] at h
  injection h with h2 h3
  exact ⟨h1, by rw [getq h1, h2], h3⟩
theorem drop_end {α : Type} {l : List α} {i : Nat} (h : l.drop i = []) : l.length ≤ i := List.drop_eq_nil_iff.1 h
theorem giveL3 {x : List UInt8} (hx : flatOk 16384 x) (bufs : List (List Seg)) (hb : bufs.length ≤ 1000) (W W2 : List UInt8) : ∀ (l : List Nat) (a i nf left : Nat) (out : List UInt32), bufs.drop i = roomsF a l → okL l → a + sumL l ≤ 16384 → l.length < nf → left ≤ 100000 → out.length = i → i ≤ 1000 →
    cons_GiveL3 ⟨rg 16384, [x]⟩ bufs nf W W2 (UInt64.ofNat left) out (i : Int) (i : Int) = cons_GiveJ1 ⟨rg 16384, [x]⟩ bufs W W2 (out ++ (outF left l).map UInt32.ofNat) (((i + (outF left l).length : Nat)) : Int)
  | l, a, i, 0, left, out, _, _, _, h, _, _, _ => absurd h (Nat.not_lt_zero _)
  | [], a, i, nf + 1, left, out, hd, hok, hs, hf, hl, ho, hi => by
    have := drop_end hd
    unfold cons_GiveL3 cons_GiveL3B
    rw [bN (by simp only [len]; omega)]
    simp only [outF, List.map_nil, List.append_nil, List.length_nil, Nat.add_zero]
  | n :: l, a, i, nf + 1, left, out, hd, hok, hs, hf, hl, ho, hi => by
    obtain ⟨d1, d2, d3⟩ := drop_get hd
    obtain ⟨hn, hok2⟩ := okL_c hok
    rw [sumL_c] at hs
    obtain ⟨bg, bi, bw, br_⟩ := buf_good (a := a) hn (by omega)
    unfold cons_GiveL3 cons_GiveL3B
    rw [bP (by simp only [len]; omega), oS (ix_nat d2)]
    by_cases h0 : left = 0
    · subst h0
      rw [bE (show UInt64.ofNat 0 = 0 from rfl), out0, List.map_nil, List.append_nil, List.length_nil, Nat.add_zero]
    · have hm : minu64 (UInt64.ofNat left) (UInt64.ofNat n) = UInt64.ofNat (min left n) := minu_nat (by omega) (by omega)
      have hne : ¬ UInt64.ofNat left = 0 := fun q => by
        have := congrArg UInt64.toNat q; rw [n64 (by omega)] at this; exact h0 this
      have hin : seg_In ⟨rg 16384, [x]⟩ (bufR a n) = some 0 := by rw [segIn_eq _ (flat_mem hx)]; exact congrArg some (inE1_zero.2 ⟨bg, bi⟩)
      rw [bF hne, oS (segTotal _), buf_tot hn (by omega)]
      dsimp only
      rw [hm, bP (by rw [GT.gt, lt64, n64 (by omega)]; simp only [UInt64.reduceToNat]; omega), oS hin, nE rfl]
      unfold cons_GiveJ4
      dsimp only
      have e1 : UInt64.ofNat left - UInt64.ofNat (min left n) = UInt64.ofNat (left - min left n) := by
        apply UInt64.toNat_inj.1
        rw [sub64 (by rw [n64 (by omega), n64 (by omega)]; omega), n64 (by omega), n64 (by omega), n64 (by omega)]
      have e2 : (UInt64.ofNat (min left n)).toUInt32 = UInt32.ofNat (min left n) := by
        apply UInt32.toNat_inj.1
        rw [UInt64.toNat_toUInt32, n64 (by omega), n32 (by omega)]; omega
      rw [hm, e1, e2, cFits (by simp; omega), wi_succ (by omega)]
      have ih := giveL3 hx bufs hb W W2 l (a + n) (i + 1) nf (left - min left n) (out ++ [UInt32.ofNat (min left n)]) d3 hok2 (by omega) (by simp at hf; omega) (by omega) (by simp [ho]) (by omega)
      rw [ih]
      have e3 : outF left (n :: l) = min left n :: outF (left - min left n) l := by
        conv => lhs; unfold outF
        rw [if_neg h0]
      rw [e3, List.map_cons, List.append_assoc, List.length_cons]
      refine congrArg _ ?_
      omega
theorem giveL2 (bb : List (List UInt8)) (bufs : List (List Seg)) (OUT : List UInt32) (hO : OUT.length ≤ 1000) (W3 : List UInt8) : ∀ (l : List Nat) (a i nf : Nat) (x rest : List UInt8), flatOk 16384 x → bufs.drop i = roomsF a l → OUT.drop i = (outF rest.length l).map UInt32.ofNat → okL l → a + sumL l ≤ 16384 → l.length < nf → rest.length ≤ 100000 → i ≤ 1000 →
    cons_GiveL2 ⟨rg 16384, bb⟩ bufs OUT (OUT.length : Int) nf [x] W3 rest (i : Int) = some (⟨rest.drop (min rest.length (sumL l))⟩, OUT, 0, [wrF x a (rest.take (min rest.length (sumL l)))])
  | l, a, i, 0, x, rest, _, _, _, _, _, h, _, _ => absurd h (Nat.not_lt_zero _)
  | l, a, i, nf + 1, x, rest, hx, hd, hq, hok, hs, hf, hl, hi => by
    have sO : sub OUT (0 : Int) (OUT.length : Int) = OUT := by simp [sub]
    unfold cons_GiveL2 cons_GiveL2B
    rw [sO]
    have fin : OUT.length ≤ i → min rest.length (sumL l) = 0 → (br (decide ((i : Int) < len OUT)) (ob (ix OUT (i : Int)) fun y1 =>
        ob (ix bufs (i : Int)) fun y2 =>
        chk (decide (0 ≤ (0 : Int) ∧ (0 : Int) ≤ (y1.toNat : Int) ∧ (y1.toNat : Int) ≤ (y1.toNat : Int) ∧ (y1.toNat : Int) ≤ len rest)) <|
        ob (seg_Scatter (gmem_Mem.mk (rg 16384) [x]) y2 (sub rest (0 : Int) (y1.toNat : Int))) fun scatte1 =>
        chk (decide (0 ≤ (y1.toNat : Int) ∧ (y1.toNat : Int) ≤ (len rest) ∧ (len rest) ≤ (len rest) ∧ (len rest) ≤ len rest)) <|
        cons_GiveL2 ⟨rg 16384, bb⟩ bufs OUT (OUT.length : Int) nf scatte1.2.2 W3 (sub rest (y1.toNat : Int) (len rest)) (wi ((i : Int) + (1 : Int))))
        (chk (fits ([] : List UInt8).length rest.length 1) <| some ((Stream.mk rest), OUT, (0 : Int), [x]))) = some (⟨rest.drop (min rest.length (sumL l))⟩, OUT, 0, [wrF x a (rest.take (min rest.length (sumL l)))]) := fun h1 h2 => by
      rw [bN (by simp only [len]; omega), cFits (by simp; omega), h2, List.drop_zero, List.take_zero, wrF_nil]
    match l, hd, hq, hok, hs, hf with
    | [], hd, hq, hok, hs, hf =>
      exact fin (drop_end (by simpa [outF] using hq)) (by simp [sumL])
    | n :: l, hd, hq, hok, hs, hf =>
      by_cases h0 : rest.length = 0
      · exact fin (drop_end (by rw [hq, h0, out0]; rfl)) (by omega)
      · have e3 : outF rest.length (n :: l) = min rest.length n :: outF (rest.length - min rest.length n) l := by
          conv => lhs; unfold outF
          rw [if_neg h0]
        rw [e3, List.map_cons] at hq
        obtain ⟨d1, d2, d3⟩ := drop_get hd
        obtain ⟨q1, q2, q3⟩ := drop_get hq
        obtain ⟨hn, hok2⟩ := okL_c hok
        rw [sumL_c] at hs
        obtain ⟨bg, bi, bw, br_⟩ := buf_good (a := a) hn (by omega)
        have tk : (UInt32.ofNat (min rest.length n)).toNat = min rest.length n := n32 (by omega)
        generalize hk : min rest.length n = k at *
        have s1 : sub rest (0 : Int) (k : Int) = rest.take k := by simp [sub]
        have s2 : sub rest (k : Int) (len rest) = rest.drop k := by
          simp only [sub, len, Int.toNat_natCast]
          exact List.take_of_length_le (by simp)
        have sc : seg_Scatter ⟨rg 16384, [x]⟩ (bufR a n) (rest.take k) = some (((min (rest.take k).length (wrS (bufR a n)) : Nat) : Int), 0, [wrF x a (rest.take k)]) := by
          rw [scatter1 hx _ _ (by simp; omega) bg bi]
          have e : (bufR a n).filter (fun s => s.Write == true) = bufR a n := rfl
          rw [e]
          have e2 : scatF x (bufR a n) (rest.take k) = wrF x a (rest.take k) := by
            show wrF x (UInt64.ofNat a).toNat ((rest.take k).take (UInt32.ofNat n).toNat) = _
            rw [n64 (by omega), n32 (by omega), List.take_of_length_le (by simp; omega)]
          rw [e2]
        rw [bP (by simp only [len]; omega), oS (ix_nat q2), oS (ix_nat d2), tk, cD (by simp only [len]; omega), s1, oS sc]
        dsimp only
        rw [cD (by simp only [len]; omega), s2, wi_succ (by omega)]
        have hl2 : (rest.drop k).length = rest.length - k := by simp
        have hx2 : flatOk 16384 (wrF x a (rest.take k)) := wrF_ok hx (by simp only [List.length_take]; show _ ≤ 16384; omega)
        have ih := giveL2 bb bufs OUT hO W3 l (a + n) (i + 1) nf (wrF x a (rest.take k)) (rest.drop k) hx2 d3 (by rw [q3, hl2]) hok2 (by omega) (by simp at hf; omega) (by omega) (by omega)
        rw [ih, hl2]
        have xl : x.length = 16384 := hx.2.2
        by_cases c : rest.length ≤ n
        · have : k = rest.length := by omega
          have z : min (rest.length - k) (sumL l) = 0 := by omega
          have z2 : min rest.length (sumL (n :: l)) = rest.length := by rw [sumL_c]; omega
          rw [z, z2, this, List.drop_zero, List.take_zero, wrF_nil]
        · have kn : k = n := by omega
          have z2 : min rest.length (sumL (n :: l)) = n + min (rest.length - k) (sumL l) := by rw [sumL_c]; omega
          rw [z2, List.drop_drop, kn]
          have e4 : wrF (wrF x a (rest.take n)) (a + n) ((rest.drop n).take (min (rest.length - n) (sumL l))) = wrF x a (rest.take (n + min (rest.length - n) (sumL l))) := by
            have ht : (rest.take n).length = n := by simp; omega
            have := wrF_app (x := x) (xs := rest.take n) (ys := (rest.drop n).take (min (rest.length - n) (sumL l))) (a := a) (by rw [ht]; simp only [List.length_take, List.length_drop]; omega)
            rw [ht] at this
            rw [this, List.take_add]
          rw [e4]
theorem give_eq {x : List UInt8} (hx : flatOk 16384 x) (w : List UInt8) (hw : w.length ≤ 100000) (a : Nat) (l : List Nat) (hok : okL l) (hs : a + sumL l ≤ 16384) (hl : l.length ≤ 1000) :
    cons_Give ⟨rg 16384, [x]⟩ ⟨w⟩ (roomsF a l) = some (⟨w.drop (min w.length (sumL l))⟩, (outF w.length l).map UInt32.ofNat, 0, [wrF x a (w.take (min w.length (sumL l)))]) := by
  unfold cons_Give
  dsimp only
  have ol := out_len w.length l
  have e : u64 (len w) = UInt64.ofNat w.length := u64_of _
  rw [e]
  have h3 := giveL3 hx (roomsF a l) (by rw [rooms_len]; omega) w [] l a 0 fuel w.length [] (by rw [List.drop_zero]) hok hs (by rw [fuelS]; omega) hw rfl (by omega)
  rw [List.nil_append, Nat.zero_add] at h3
  refine Eq.trans h3 ?_
  unfold cons_GiveJ1
  rw [cD (by simp only [len, List.length_map]; omega), cFits (by simp; omega)]
  have h2 := giveL2 [x] (roomsF a l) ((outF w.length l).map UInt32.ofNat) (by rw [List.length_map]; omega) [] l a 0 fuel x w hx (by rw [List.drop_zero]) (by rw [List.drop_zero]) hok hs (by rw [fuelS]; omega) hw (by omega)
  rw [List.length_map] at h2
  exact h2
end Go.Proofs.Ytkjmmbmlapmkbaa

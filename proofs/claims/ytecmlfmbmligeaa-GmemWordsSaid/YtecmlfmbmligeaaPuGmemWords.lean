/- The law GmemWords in plain words. No condition. -/
import Derived.Test.YtecmlfmbmligeaaPuWord
namespace Go.Proofs.Ytecmlfmbmligeaa
theorem lives02 : law02zlives = some true := by kernel_rfl
theorem cnQ {c : Bool} {k : Option Bool} {r : Option Bool} (h : c = false) (hk : k = r) : chk (!c) k = r := by rw [h]; exact hk
theorem bneF {α : Type} [BEq α] [LawfulBEq α] {a b : α} (h : a = b) : (a != b) = false := by rw [h]; exact bne_self_eq_false b
/-! bytes as a number -/
def natF : List UInt8 → Nat
  | [] => 0
  | b :: r => 256 * natF r + b.toNat
theorem pow8 (n : Nat) : 2 ^ (8 * (n + 1)) = 256 * 2 ^ (8 * n) := by rw [Nat.mul_add, Nat.pow_add, Nat.mul_comm]
theorem natF_lt : ∀ l : List UInt8, natF l < 2 ^ (8 * l.length)
  | [] => by simp [natF]
  | b :: r => by
    have := natF_lt r
    have hb := b.toNat_lt
    rw [List.length_cons, pow8]; unfold natF; omega
theorem horF_nat : ∀ l : List UInt8, l.length ≤ 8 → (horF l).toNat = natF l
  | [], _ => rfl
  | b :: r, h => by
    have ih := horF_nat r (by simp at h; omega)
    have h1 := natF_lt (b :: r)
    have h2 : 2 ^ (8 * (b :: r).length) ≤ 2 ^ 64 := Nat.pow_le_pow_right (by decide) (by omega)
    unfold natF at h1 ⊢
    unfold horF
    rw [UInt64.toNat_add, UInt64.toNat_mul, ih, UInt8.toNat_toUInt64]
    simp only [UInt64.reduceToNat]
    omega
theorem natF_drop : ∀ (i : Nat) (l : List UInt8), natF (l.drop i) = natF l / 2 ^ (8 * i)
  | 0, l => by simp
  | i + 1, [] => by simp [natF]
  | i + 1, b :: r => by
    have hb := b.toNat_lt
    rw [List.drop_succ_cons, natF_drop i r, pow8, ← Nat.div_div_eq_div_mul]
    refine congrArg (· / _) ?_
    show natF r = (256 * natF r + b.toNat) / 256
    omega
theorem natF_take : ∀ (n : Nat) (l : List UInt8), natF (l.take n) = natF l % 2 ^ (8 * n)
  | 0, l => by simp [natF, Nat.mod_one]
  | n + 1, [] => by simp [natF]
  | n + 1, b :: r => by
    have hb := b.toNat_lt
    rw [List.take_succ_cons, pow8, Nat.mod_mul]
    show 256 * natF (r.take n) + b.toNat = (256 * natF r + b.toNat) % 256 + 256 * ((256 * natF r + b.toNat) / 256 % 2 ^ (8 * n))
    rw [natF_take n r, show (256 * natF r + b.toNat) / 256 = natF r by omega]
    omega
theorem natF_app : ∀ (a b : List UInt8), natF (a ++ b) = natF a + 2 ^ (8 * a.length) * natF b
  | [], b => by simp [natF]
  | x :: a, b => by
    rw [List.length_cons, pow8, Nat.mul_assoc]
    show 256 * natF (a ++ b) + x.toNat = 256 * natF a + x.toNat + 256 * (2 ^ (8 * a.length) * natF b)
    rw [natF_app a b]; omega
theorem natF_bytes (v : UInt64) : ∀ n : Nat, n ≤ 8 → natF (bytesOf v n) = v.toNat % 2 ^ (8 * n)
  | 0, _ => by simp [natF, bytesOf, Nat.mod_one]
  | n + 1, h => by
    have ih := natF_bytes v n (by omega)
    have hv := v.toNat_lt
    have hd := Nat.div_le_self v.toNat (2 ^ (8 * n))
    rw [bytesOf_succ, natF_app, bytesOf_len, ih, pow8, Nat.mul_comm 256, Nat.mod_mul]
    have e : natF [(shr64 v (8 * n)).toUInt8] = v.toNat / 2 ^ (8 * n) % 256 := by
      show 256 * 0 + (shr64 v (8 * n)).toUInt8.toNat = _
      rw [UInt64.toNat_toUInt8, shr64, UInt64.toNat_ofNat', Nat.min_eq_left (by omega)]
      omega
    rw [e]
theorem or_nat (A s : Nat) : (A / 2 ^ s) * 2 ^ s ||| A % 2 ^ s = A := by
  have h := Nat.shiftLeft_add_eq_or_of_lt (Nat.mod_lt A (Nat.two_pow_pos s)) (A / 2 ^ s)
  rw [Nat.shiftLeft_eq] at h
  rw [← h, Nat.mul_comm]; exact Nat.div_add_mod A (2 ^ s)
theorem or_nat2 {A y s : Nat} (h : y < 2 ^ s) : A * 2 ^ s ||| y = A * 2 ^ s + y := by
  have h := Nat.shiftLeft_add_eq_or_of_lt h A
  rw [Nat.shiftLeft_eq] at h; exact h.symm
/-! the memory -/
abbrev R1 : Region := ⟨1000, 64⟩
theorem good1 : goodM [R1] := by
  refine ⟨by decide, by decide, by decide⟩
theorem mem1_ok {x : List UInt8} (h : x.length = 64) : memOk [R1] [x] := by
  refine ⟨good1, rfl, fun i r y h1 h2 => ?_⟩
  match i with
  | 0 => cases h1; cases h2; rw [h]; rfl
  | i + 1 => cases h1
theorem at_a {k : Nat} (h : k < 64) : ((1000 : UInt64) + u64 (k : Int)).toNat = 1000 + k := by
  rw [u64_of, UInt64.toNat_add, UInt64.toNat_ofNat']; simp only [UInt64.reduceToNat]; omega
theorem find1 {a n : Nat} (hn : 0 < n) (h : a + n ≤ 64) : findR [R1] (1000 + a) n = some 0 :=
  findR_some (i := 0) good1.2.1 hn (by decide) (show 1000 ≤ 1000 + a by omega) (show 1000 + a + n ≤ 1000 + 64 by omega)
theorem rd1 {x : List UInt8} {A a n : Nat} (hA : A = 1000 + a) (hn : 0 < n) (h : a + n ≤ 64) : readR [R1] [x] A n = some ((x.drop a).take n) := by
  unfold readR
  rw [hA, find1 hn h]
  show some ((x.drop (1000 + a - 1000)).take n) = _
  rw [Nat.add_sub_cancel_left]
theorem wr1 {x xs : List UInt8} {A a : Nat} (hA : A = 1000 + a) (hn : 0 < xs.length) (h : a + xs.length ≤ 64) : writeR [R1] [x] A xs = some [wrF x a xs] := by
  unfold writeR
  rw [hA, find1 hn h]
  show some [x.take (1000 + a - 1000) ++ xs ++ x.drop (1000 + a - 1000 + xs.length)] = _
  rw [Nat.add_sub_cancel_left]; rfl
theorem wr_at {x xs : List UInt8} {a : Nat} (h : a ≤ x.length) : (wrF x a xs).drop a = xs ++ x.drop (a + xs.length) := by
  have e : (x.take a).length = a := by simp; omega
  unfold wrF
  rw [List.append_assoc, List.drop_left' e]
theorem wr_take {x xs : List UInt8} {a : Nat} (h : a ≤ x.length) : (wrF x a xs).take a = x.take a := by
  have e : (x.take a).length = a := by simp; omega
  unfold wrF
  rw [List.append_assoc, List.take_left' e]
theorem byte_at {xs : List UInt8} {i : Nat} (h : i < xs.length) (h8 : xs.length ≤ 8) : (shr64 (horF xs) ((u64 (wi ((8 : Int) * (i : Int)))).toNat)).toUInt8 = xs[i] := by
  apply UInt8.toNat_inj.1
  have hl := (horF xs).toNat_lt
  have hd := Nat.div_le_self (horF xs).toNat (2 ^ (8 * i))
  have hn := horF_nat xs h8
  have hb := xs[i].toNat_lt
  have hdr := natF_drop i xs
  rw [List.drop_eq_getElem_cons h] at hdr
  rw [wi8 (by omega), u64_of, UInt64.toNat_ofNat', Nat.mod_eq_of_lt (by omega), UInt64.toNat_toUInt8, shr64, UInt64.toNat_ofNat', Nat.min_eq_left (by omega)]
  rw [hn] at hd hl ⊢
  rw [← hdr] at hd ⊢
  have e : natF (xs[i] :: xs.drop (i + 1)) = 256 * natF (xs.drop (i + 1)) + xs[i].toNat := rfl
  rw [e] at hd ⊢
  omega
theorem words2 (m1 : gmem_Mem) (hm : m1.l = [R1]) (k : Nat) (hk : k < 57) (e2 : Int) (x : List UInt8) (hx : x.length = 64) (hz : x.take k = List.replicate k 0) (e : Int) : ∀ (nf i : Nat), i ≤ 8 → 8 - i < nf →
    law02zGmemWordsL2 m1 (k : Int) (e2, [x]) (horF ((x.drop k).take 8), e) ((x.drop k).take 8, e) nf (i : Int) = some true
  | 0, i, _, h => absurd h (Nat.not_lt_zero _)
  | nf + 1, i, hi, hf => by
    have hl : ((x.drop k).take 8).length = 8 := by simp; omega
    unfold law02zGmemWordsL2 law02zGmemWordsL2B
    dsimp only
    rw [hm]
    by_cases h : i < 8
    · rw [bP (by omega), oS (ix_nat (getq (by omega : i < ((x.drop k).take 8).length))), cnQ (bneF (byte_at (by omega) (by omega)).symm) rfl, wi_succ (by omega)]
      exact words2 m1 hm k hk e2 x hx hz e nf (i + 1) (by omega) (by omega)
    · have y0 : ix ((x.drop k).take 8) (0 : Int) = some (((x.drop k).take 8)[0]'(by omega)) := ix_nat (getq (by omega : 0 < ((x.drop k).take 8).length))
      rw [bN (by omega), oS y0, oS (write_eqM ⟨[R1], [x]⟩ (mem1_ok hx) _ _ (by simp))]
      rw [if_neg (by simp), wr1 (at_a (by omega)) (by simp) (by simp; omega)]
      dsimp only
      have hx2 : (wrF x k [((x.drop k).take 8)[0]'(by omega) ^^^ 1]).length = 64 := by rw [wrF_len (by simp; omega), hx]
      rw [cE rfl, oS (image_eq ⟨[R1], [wrF x k [((x.drop k).take 8)[0]'(by omega) ^^^ 1]]⟩ (mem1_ok hx2))]
      dsimp only
      have e1 : ((1000 : UInt64) + u64 (k : Int) - 1000).toNat = k := by
        rw [sub64 (by rw [at_a (by omega)]; simp only [UInt64.reduceToNat]; omega), at_a (by omega)]; simp only [UInt64.reduceToNat]; omega
      rw [e1, List.flatten_cons, List.flatten_nil, List.append_nil, cT (decide_eq_true (by simp only [len]; omega)), cT (decide_eq_true (by omega)), Int.toNat_natCast]
      have e3 : sub (wrF x k [((x.drop k).take 8)[0]'(by omega) ^^^ 1]) 0 (k : Int) = List.replicate k 0 := by
        rw [← hz, ← wr_take (x := x) (xs := [((x.drop k).take 8)[0]'(by omega) ^^^ 1]) (a := k) (by omega)]
        simp [sub]
      rw [e3, cE rfl]
theorem words_end (v w : UInt64) (m1 : gmem_Mem) (hm : m1.l = [R1]) (k n : Nat) (hk : k < 57) (hn : n = 1 ∨ n = 2 ∨ n = 4) (e1 : Int) (x : List UInt8) (hx : x.length = 64) (hz : x.take k = List.replicate k 0) (hv : (x.drop k).take 8 = bytesOf v 8) :
    (ob (gmem_Mem_Store (gmem_Mem.mk m1.l [x]) ((1000 : UInt64) + (u64 (k : Int))) (n : Int) w) fun store2 =>
    chk (!(store2.1 != (0 : Int))) <|
    ob (gmem_Mem_Load (gmem_Mem.mk m1.l store2.2) ((1000 : UInt64) + (u64 (k : Int))) (8 : Int)) fun load2 =>
    ob (gmem_Mem_Read (gmem_Mem.mk m1.l store2.2) ((1000 : UInt64) + (u64 (k : Int))) (8 : Int)) fun read1 =>
    chk (!(load2.2 != (0 : Int))) <|
    chk (!(read1.2 != (0 : Int))) <|
    chk (!(load2.1 != ((v &&& ~~~((shl64 (1 : UInt64) ((u64 (wi ((8 : Int) * (n : Int)))).toNat)) - (1 : UInt64))) ||| (w &&& ((shl64 (1 : UInt64) ((u64 (wi ((8 : Int) * (n : Int)))).toNat)) - (1 : UInt64)))))) <|
    law02zGmemWordsL2 m1 (k : Int) store2 load2 read1 fuel (0 : Int)) = some true := by
  have hw : isW (n : Int) = true := by rcases hn with rfl | rfl | rfl <;> rfl
  have hn8 : 0 < n ∧ n ≤ 4 := by omega
  rw [hm, oS (store_eq ⟨[R1], [x]⟩ (mem1_ok hx) _ _ _), hw, if_pos rfl, Int.toNat_natCast, wr1 (at_a (by omega)) (by rw [bytesOf_len]; omega) (by rw [bytesOf_len]; omega)]
  dsimp only
  have hx2 : (wrF x k (bytesOf w n)).length = 64 := by rw [wrF_len (by rw [bytesOf_len]; omega), hx]
  have hz2 : (wrF x k (bytesOf w n)).take k = List.replicate k 0 := by rw [wr_take (by omega), hz]
  have hb : ((wrF x k (bytesOf w n)).drop k).take 8 = bytesOf w n ++ (bytesOf v 8).drop n := by
    rw [wr_at (by omega), bytesOf_len, List.take_append, bytesOf_len, List.take_of_length_le (by rw [bytesOf_len]; omega), ← hv, List.drop_take, List.drop_drop]
  generalize wrF x k (bytesOf w n) = y at *
  rw [cnE rfl, oS (load_eq ⟨[R1], [y]⟩ (mem1_ok hx2) _ _), show isW (8 : Int) = true from rfl, if_pos rfl, show Int.toNat 8 = 8 from rfl, rd1 (at_a (by omega)) (by omega) (by omega), oS (read_eqM ⟨[R1], [y]⟩ (mem1_ok hx2) _ _ (by omega)), if_neg (by omega), if_neg (by omega), show Int.toNat 8 = 8 from rfl, rd1 (at_a (by omega)) (by omega) (by omega)]
  dsimp only
  rw [cnE rfl, cnE rfl]
  have val : horF ((y.drop k).take 8) = ((v &&& ~~~((shl64 (1 : UInt64) ((u64 (wi ((8 : Int) * (n : Int)))).toNat)) - (1 : UInt64))) ||| (w &&& ((shl64 (1 : UInt64) ((u64 (wi ((8 : Int) * (n : Int)))).toNat)) - (1 : UInt64)))) := by
    apply UInt64.toNat_inj.1
    have hvv := v.toNat_lt
    have hp : 2 ^ (8 * n) ≤ 2 ^ 32 := Nat.pow_le_pow_right (by decide) (by omega)
    have hp0 := Nat.two_pow_pos (8 * n)
    rw [horF_nat _ (by simp; omega), hb, natF_app, bytesOf_len, natF_drop, natF_bytes w n (by omega), natF_bytes v 8 (by omega), Nat.mod_eq_of_lt (show v.toNat < 2 ^ (8 * 8) from hvv), wi8 (by omega), u64_of, UInt64.toNat_ofNat', Nat.mod_eq_of_lt (show 8 * n < 2 ^ 64 by omega)]
    have hM : (shl64 (1 : UInt64) (8 * n) - 1).toNat = 2 ^ (8 * n) - 1 := by
      have e : (shl64 (1 : UInt64) (8 * n)).toNat = 2 ^ (8 * n) := by
        rw [shl64, UInt64.toNat_ofNat', Nat.min_eq_left (by omega)]; simp only [UInt64.reduceToNat]; omega
      rw [sub64 (by rw [e]; simp only [UInt64.reduceToNat]; omega), e]; rfl
    generalize shl64 (1 : UInt64) (8 * n) - 1 = M at *
    have e1 : (v &&& ~~~M).toNat = v.toNat / 2 ^ (8 * n) * 2 ^ (8 * n) := by
      have e : (v &&& ~~~M).toBitVec = (v.toBitVec >>> (8 * n)) <<< (8 * n) := by
        apply BitVec.eq_of_getLsbD_eq
        intro i hi
        have mb : M.toBitVec.getLsbD i = decide (i < 8 * n) := by
          have : M.toBitVec.getLsbD i = M.toNat.testBit i := rfl
          rw [this, hM, Nat.testBit_two_pow_sub_one]
        simp only [UInt64.toBitVec_and, UInt64.toBitVec_not, BitVec.getLsbD_and, BitVec.getLsbD_not, BitVec.getLsbD_shiftLeft, BitVec.getLsbD_ushiftRight, mb]
        by_cases h : i < 8 * n
        · simp [h]
        · have : 8 * n + (i - 8 * n) = i := by omega
          simp [h, hi, this]
      have e2 := congrArg BitVec.toNat e
      rw [UInt64.toNat_toBitVec, BitVec.toNat_shiftLeft, BitVec.toNat_ushiftRight, Nat.shiftLeft_eq, Nat.shiftRight_eq_div_pow, UInt64.toNat_toBitVec] at e2
      rw [e2, Nat.mod_eq_of_lt (Nat.lt_of_le_of_lt (Nat.div_mul_le_self _ _) hvv)]
    have e2 : (w &&& M).toNat = w.toNat % 2 ^ (8 * n) := by rw [UInt64.toNat_and, hM, Nat.and_two_pow_sub_one_eq_mod]
    rw [UInt64.toNat_or, e1, e2, or_nat2 (Nat.mod_lt _ hp0), Nat.add_comm, Nat.mul_comm]
  rw [cnQ (bneF val) rfl]
  exact words2 m1 hm k hk 0 y hx2 hz2 0 fuel 0 (by omega) (by unfold fuel; omega)
theorem words1 (v w : UInt64) (m1 : gmem_Mem) (hm : m1.l = [R1]) (k n : Nat) (hk : k < 57) (hn : n = 1 ∨ n = 2 ∨ n = 4) (e1 : Int) (x : List UInt8) (hx : x.length = 64) (hz : x.take k = List.replicate k 0) (hv : (x.drop k).take 8 = bytesOf v 8) : ∀ (t nf : Nat), n * t ≤ 8 → t < nf →
    law02zGmemWordsL1 v w m1 (k : Int) (n : Int) (e1, [x]) nf (UInt64.ofNat (v.toNat / 2 ^ (8 * (n * t)))) (((n * t : Nat) : Int) - (n : Int)) = some true
  | t, 0, _, h => absurd h (Nat.not_lt_zero _)
  | 0, nf + 1, ht, h => by
    unfold law02zGmemWordsL1 law02zGmemWordsL1B
    rw [bN (by rw [Nat.mul_zero]; omega), cnQ (bneF (by simp)) rfl]
    exact words_end v w m1 hm k n hk hn e1 x hx hz hv
  | t + 1, nf + 1, ht, h => by
    unfold law02zGmemWordsL1 law02zGmemWordsL1B
    have hw : isW (n : Int) = true := by rcases hn with rfl | rfl | rfl <;> rfl
    have hn8 : 0 < n ∧ n ≤ 4 := by omega
    have es : n * (t + 1) = n * t + n := Nat.mul_succ n t
    rw [es] at ht ⊢
    have ei : (((n * t + n : Nat) : Int) - (n : Int)) = ((n * t : Nat) : Int) := by omega
    have ad : ((1000 : UInt64) + u64 (k : Int) + u64 ((n * t : Nat) : Int)).toNat = 1000 + (k + n * t) := by
      rw [UInt64.toNat_add, at_a (by omega), u64_of, UInt64.toNat_ofNat']; omega
    have hvv := v.toNat_lt
    have hp : 2 ^ (8 * n) ≤ 2 ^ 32 := Nat.pow_le_pow_right (by decide) (by omega)
    have hp0 := Nat.two_pow_pos (8 * n)
    have e8 : (u64 (wi ((8 : Int) * (n : Int)))).toNat = 8 * n := by rw [wi8 (by omega), u64_of, UInt64.toNat_ofNat', Nat.mod_eq_of_lt (by omega)]
    rw [ei, bP (by omega), hm, oS (load_eq ⟨[R1], [x]⟩ (mem1_ok hx) _ _), hw, if_pos rfl, Int.toNat_natCast, rd1 ad (by omega) (by omega), e8]
    dsimp only
    have hb : (x.drop (k + n * t)).take n = ((bytesOf v 8).drop (n * t)).take n := by
      rw [← hv, List.drop_take, List.take_take, Nat.min_eq_left (by omega), List.drop_drop]
    have hN : (horF ((x.drop (k + n * t)).take n)).toNat = v.toNat / 2 ^ (8 * (n * t)) % 2 ^ (8 * n) := by
      rw [horF_nat _ (by simp; omega), hb, natF_take, natF_drop, natF_bytes v 8 (by omega), Nat.mod_eq_of_lt (show v.toNat < 2 ^ (8 * 8) from hvv)]
    have hlt := Nat.mod_lt (v.toNat / 2 ^ (8 * (n * t))) hp0
    have hA := Nat.div_le_self v.toNat (2 ^ (8 * (n * t)))
    have hmul := Nat.div_mul_le_self (v.toNat / 2 ^ (8 * (n * t))) (2 ^ (8 * n))
    have ep : v.toNat / 2 ^ (8 * (n * t + n)) = v.toNat / 2 ^ (8 * (n * t)) / 2 ^ (8 * n) := by
      rw [Nat.mul_add, Nat.pow_add, Nat.div_div_eq_div_mul]
    have o := or_nat (v.toNat / 2 ^ (8 * (n * t))) (8 * n)
    have ih := words1 v w m1 hm k n hk hn e1 x hx hz hv t nf (by omega) (by omega)
    rw [ep]
    generalize v.toNat / 2 ^ (8 * (n * t)) = A at *
    have s0 : shr64 (horF ((x.drop (k + n * t)).take n)) (8 * n) = 0 := by
      apply UInt64.toNat_inj.1
      rw [shr64, UInt64.toNat_ofNat', Nat.min_eq_left (by omega), hN, Nat.div_eq_of_lt hlt]; rfl
    rw [cnE rfl, cnQ (bneF s0) rfl]
    have bk : (shl64 (UInt64.ofNat (A / 2 ^ (8 * n))) (8 * n) ||| horF ((x.drop (k + n * t)).take n)) = UInt64.ofNat A := by
      apply UInt64.toNat_inj.1
      have hd := Nat.div_le_self A (2 ^ (8 * n))
      rw [UInt64.toNat_or, hN, shl64, UInt64.toNat_ofNat', UInt64.toNat_ofNat', Nat.min_eq_left (by omega), Nat.mod_eq_of_lt (by omega : A / 2 ^ (8 * n) < 2 ^ 64), Nat.mod_eq_of_lt (by omega : A / 2 ^ (8 * n) * 2 ^ (8 * n) < 2 ^ 64), o, UInt64.toNat_ofNat', Nat.mod_eq_of_lt (by omega)]
    have ej : wi (((n * t : Nat) : Int) - (n : Int)) = ((n * t : Nat) : Int) - (n : Int) := wi_in (by omega) (by omega)
    rw [bk, ej]
    exact ih
theorem size3 (k : Nat) (h : k < 3) : ∃ n t : Nat, ix [(1 : Int), 2, 4] (k : Int) = some (n : Int) ∧ (n = 1 ∨ n = 2 ∨ n = 4) ∧ n * t = 8 ∧ t < 10 := by
  have : k = 0 ∨ k = 1 ∨ k = 2 := by omega
  rcases this with rfl | rfl | rfl
  · exact ⟨1, 8, rfl, by omega, by omega, by omega⟩
  · exact ⟨2, 4, rfl, by omega, by omega, by omega⟩
  · exact ⟨4, 2, rfl, by omega, by omega, by omega⟩
theorem t_law02zGmemWords (at_ : Int) (v w : UInt64) (width : Int) : law02zGmemWords at_ v w width = some true := by
  unfold law02zGmemWords
  have hn : (!true) = false := rfl
  rw [oS lives02, cNT hn, oS (new_ok good1)]
  dsimp only
  obtain ⟨k, ek, hk⟩ := pick_eq at_ 57 (by decide) (by decide)
  obtain ⟨p, ep, hp⟩ := pick_eq width 3 (by decide) (by decide)
  obtain ⟨n, t, en, hn3, ht, ht2⟩ := size3 p hp
  rw [onS, cnE rfl, oS (show kit_Pick at_ 57 = some (k : Int) from ek), oS (show kit_Pick width 3 = some (p : Int) from ep), oS en]
  have hz0 : zer [R1] = [List.replicate 64 0] := rfl
  rw [hz0, oS (store_eq ⟨[R1], [List.replicate 64 0]⟩ (mem1_ok (by simp)) _ _ _), show isW (8 : Int) = true from rfl, if_pos rfl, show Int.toNat 8 = 8 from rfl, wr1 (at_a (by omega)) (by rw [bytesOf_len]; omega) (by rw [bytesOf_len]; omega)]
  dsimp only
  rw [cnE rfl]
  have hx : (wrF (List.replicate 64 0) k (bytesOf v 8)).length = 64 := by rw [wrF_len (by rw [bytesOf_len]; simp; omega)]; simp
  have hz : (wrF (List.replicate 64 0) k (bytesOf v 8)).take k = List.replicate k 0 := by rw [wr_take (by simp; omega), List.take_replicate, Nat.min_eq_left (by omega)]
  have hv : ((wrF (List.replicate 64 0) k (bytesOf v 8)).drop k).take 8 = bytesOf v 8 := by
    rw [wr_at (by simp; omega), bytesOf_len, List.take_left' (bytesOf_len v 8)]
  have w1 := words1 v w ⟨[R1], [List.replicate 64 0]⟩ rfl k n hk hn3 0 _ hx hz hv t fuel (by omega) (by unfold fuel; omega)
  rw [ht] at w1
  have ej : wi ((8 : Int) - (n : Int)) = ((8 : Nat) : Int) - (n : Int) := wi_in (by omega) (by omega)
  rw [ej]
  have e0 : v.toNat / 2 ^ (8 * 8) = 0 := Nat.div_eq_of_lt v.toNat_lt
  rw [e0] at w1
  exact w1
end Go.Proofs.Ytecmlfmbmligeaa

/- The law ConsStreams in plain words. No condition. -/
import Derived.Test.YtkjmmbmlapmkbaaPuCons2
namespace Go.Proofs.Ytkjmmbmlapmkbaa
def bufN (a n : Nat) : List Seg := [⟨UInt64.ofNat a, UInt32.ofNat n, false⟩]
theorem bufN_good {a n : Nat} (hn : 1 ≤ n ∧ n ≤ 700) (h : a + n ≤ 16384) : goodS (bufN a n) ∧ inF 16384 (bufN a n) := by
  have h1 := n32 (n := n) (by omega)
  have h2 := n64 (n := a) (by omega)
  unfold bufN
  refine ⟨⟨by simp, ?_, ?_⟩, ?_⟩
  · unfold okS
    rw [Bool.and_eq_true]
    exact ⟨decide_eq_true ⟨by dsimp only; omega, by dsimp only; omega, fun q => by cases q⟩, rfl⟩
  · unfold sumS sumS; dsimp only; omega
  · intro s hs
    rw [List.mem_singleton] at hs; subst hs
    dsimp only; omega
theorem take_buf {a n k : Nat} (hn : 1 ≤ n ∧ n ≤ 700) (hk : 0 < k ∧ k ≤ n) : takeS k (dropS 0 (bufN a n)) = bufN a k := by
  have h1 := n32 (n := n) (by omega)
  unfold bufN dropS
  rw [if_pos rfl]
  unfold takeS
  dsimp only
  rw [if_neg (by omega), h1]
  by_cases c : k < n
  · rw [if_pos c]; rfl
  · have : k = n := by omega
    rw [if_neg c, this]
    cases n - n <;> simp [takeS]
theorem joinL2 (m : gmem_Mem) (x1 : Int) (L1 : List UInt8 → Int → Option (List UInt8 × Int)) (a n : Nat) (y2 : UInt32) (out : List UInt8) (nf : Nat) :
    cons_JoinL2 m x1 L1 (bufR a n) y2 (nf + 2) out (bufR a n) (0 : Int) = (ob (seg_Cut (bufN a n) (0 : UInt64) y2.toUInt64) fun cut1 =>
  ob (seg_Gather m cut1) fun gather1 =>
  br (gather1.2 != (0 : Int))
  (some (([] : List UInt8), gather1.2))
  (chk (fits out.length gather1.1.length 1) <|
  L1 (out ++ gather1.1) (wi (x1 + (1 : Int))))) := rfl
theorem rd_split (x : List UInt8) (a m n : Nat) : rdF x a (m + n) = rdF x a m ++ rdF x (a + m) n := by
  unfold rdF
  rw [List.take_add, List.drop_drop]
theorem joinL {x : List UInt8} (hx : flatOk 16384 x) (bufs : List (List Seg)) (OUT : List UInt32) (hO : bufs.length = OUT.length) (hl0 : OUT.length ≤ 1000) : ∀ (l : List Nat) (a i nf left : Nat) (out : List UInt8), bufs.drop i = (roomsF a l).take (outF left l).length → OUT.drop i = (outF left l).map UInt32.ofNat → okL l → a + sumL l ≤ 16384 → left ≤ 100000 → l.length < nf → out.length ≤ 1000000 * i →
    cons_JoinL1 ⟨rg 16384, [x]⟩ bufs OUT nf out (i : Int) = some (out ++ rdF x a (min left (sumL l)), 0)
  | l, a, i, 0, left, out, _, _, _, _, _, h, _ => absurd h (Nat.not_lt_zero _)
  | l, a, i, nf + 1, left, out, hd, hq, hok, hs, hl, hf, ho => by
    have zz : outF left l = [] → min left (sumL l) = 0 := fun q => by
      match l, q with
      | [], _ => simp [sumL]
      | k :: l, q =>
        by_cases h0 : left = 0
        · omega
        · unfold outF at q; rw [if_neg h0] at q; cases q
    unfold cons_JoinL1 cons_JoinL1B
    by_cases e : outF left l = []
    · rw [e] at hq
      have := drop_end hq
      rw [bN (by simp only [len]; omega), zz e]
      simp [rdF]
    · match l, hd, hq, hok, hs, hf, e with
      | [], hd, hq, hok, hs, hf, e => exact absurd (by simp [outF]) e
      | n :: l, hd, hq, hok, hs, hf, e =>
        have h0 : left ≠ 0 := fun q => e (by rw [q, out0])
        have e3 : outF left (n :: l) = min left n :: outF (left - min left n) l := by
          conv => lhs; unfold outF
          rw [if_neg h0]
        rw [e3] at hq hd
        rw [List.map_cons] at hq
        have hd' : bufs.drop i = bufR a n :: (roomsF (a + n) l).take (outF (left - min left n) l).length := hd
        obtain ⟨d1, d2, d3⟩ := drop_get hd'
        obtain ⟨q1, q2, q3⟩ := drop_get hq
        obtain ⟨hn, hok2⟩ := okL_c hok
        rw [sumL_c] at hs ⊢
        obtain ⟨bg, bi, bw, br_⟩ := buf_good (a := a) hn (by omega)
        have t32 : (UInt32.ofNat (min left n)).toNat = min left n := n32 (by omega)
        have t64 : (UInt32.ofNat (min left n)).toUInt64 = UInt64.ofNat (min left n) := by
          apply UInt64.toNat_inj.1; rw [UInt32.toNat_toUInt64, t32, n64 (by omega)]
        have hin : seg_In ⟨rg 16384, [x]⟩ (bufR a n) = some 0 := by rw [segIn_eq _ (flat_mem hx)]; exact congrArg some (inE1_zero.2 ⟨bg, bi⟩)
        have hk : 1 ≤ min left n ∧ min left n ≤ 700 := by omega
        have ef : fuel = 36893488147419103230 + 2 := rfl
        have hcut : seg_Cut (bufN a n) (0 : UInt64) (UInt64.ofNat (min left n)) = some (bufN a (min left n)) := by
          have := cut_eq (a := 0) (n := min left n) (bufN_good (a := a) hn (by omega)).1 (by omega) (by omega)
          rw [take_buf hn (by omega)] at this
          exact this
        have hg : seg_Gather ⟨rg 16384, [x]⟩ (bufN a (min left n)) = some (rdF x a (min left n), 0) := by
          rw [gather1 hx _ (bufN_good (a := a) hk (by omega)).1 (bufN_good (a := a) hk (by omega)).2]
          have e1 : ∀ q r : Nat, (bufN q r).filter (fun s => s.Write == false) = bufN q r := fun q r => rfl
          rw [e1]
          have e2 : gatF x (bufN a (min left n)) = rdF x a (min left n) := by
            unfold bufN
            rw [gatF_cons, gatF_nil, List.append_nil]
            dsimp only
            rw [n64 (by omega), t32]
          rw [e2]
        have xl : x.length = 16384 := hx.2.2
        have rl : (rdF x a (min left n)).length = min left n := rdF_len (by omega)
        rw [bP (by simp only [len]; omega), oS (ix_nat d2), oS hin, nE rfl, oS (part_eq bg true), show (bufR a n).filter (fun s => s.Write == true) = bufR a n from rfl, oS (ix_nat q2), oS (segTotal _), buf_tot hn (by omega), t64]
        dsimp only
        rw [bN (by rw [GT.gt, lt64, n64 (by omega), n64 (by omega)]; omega), ef, joinL2, t64, oS hcut, oS hg]
        dsimp only
        rw [nE rfl, cFits (by rw [rl]; omega), wi_succ (by omega)]
        have ih := joinL hx bufs OUT hO hl0 l (a + n) (i + 1) nf (left - min left n) (out ++ rdF x a (min left n)) d3 q3 hok2 (by omega) (by omega) (by simp at hf; omega) (by rw [List.length_append, rl]; omega)
        rw [ih, List.append_assoc]
        refine congrArg (fun t => some (out ++ t, (0 : Int))) ?_
        by_cases c : left ≤ n
        · have z : min (left - min left n) (sumL l) = 0 := by omega
          have z2 : min left (n + sumL l) = min left n := by omega
          rw [z, z2]; simp [rdF]
        · have z : min left n = n := by omega
          have z2 : min left (n + sumL l) = n + min (left - n) (sumL l) := by omega
          rw [z, z2, rd_split]
theorem join_eq {x : List UInt8} (hx : flatOk 16384 x) (L : List Nat) (hok : okL L) (left : Nat) (hl : left ≤ 100000) (hs : sumL L ≤ 16384) (hL : L.length ≤ 100) :
    cons_Join ⟨rg 16384, [x]⟩ ((roomsF 0 L).take (outF left L).length) ((outF left L).map UInt32.ofNat) = some (rdF x 0 (min left (sumL L)), 0) := by
  have ol := out_len left L
  have rl := rooms_len 0 L
  have e : ((roomsF 0 L).take (outF left L).length).length = ((outF left L).map UInt32.ofNat).length := by simp; omega
  unfold cons_Join
  rw [nE (by simp only [len]; omega)]
  have j := joinL hx ((roomsF 0 L).take (outF left L).length) ((outF left L).map UInt32.ofNat) e (by simp; omega) L 0 0 fuel left [] (by rw [List.drop_zero]) (by rw [List.drop_zero]) hok (by omega) hl (by rw [fuelS]; omega) (by simp)
  exact j
theorem put_eq (W b : List UInt8) (hW : W.length ≤ 4096) (hb : b.length ≤ 6000) : cons_Put ⟨W⟩ b = some (⟨W ++ b.take (min b.length (4096 - W.length))⟩, ((min b.length (4096 - W.length) : Nat) : Int)) := by
  unfold cons_Put
  dsimp only
  have e1 : wi ((4096 : Int) - len W) = ((4096 - W.length : Nat) : Int) := by simp only [len]; rw [wi_in (by omega) (by omega)]; omega
  have e2 : maxi (0 : Int) ((4096 - W.length : Nat) : Int) = ((4096 - W.length : Nat) : Int) := by
    unfold maxi
    by_cases q : (0 : Int) < ((4096 - W.length : Nat) : Int)
    · rw [if_pos q]
    · rw [if_neg q]; omega
  have e3 : mini (len b) ((4096 - W.length : Nat) : Int) = ((min b.length (4096 - W.length) : Nat) : Int) := by
    unfold mini len
    by_cases q : ((4096 - W.length : Nat) : Int) < ((b.length : Nat) : Int)
    · rw [if_pos q]; omega
    · rw [if_neg q]; omega
  have e4 : wi (len W + ((min b.length (4096 - W.length) : Nat) : Int)) = ((W.length + min b.length (4096 - W.length) : Nat) : Int) := by simp only [len]; rw [wi_in (by omega) (by omega)]; omega
  have e5 : sub b (0 : Int) ((min b.length (4096 - W.length) : Nat) : Int) = b.take (min b.length (4096 - W.length)) := by
    simp only [sub, Int.toNat_natCast, Int.toNat_zero, List.drop_zero, Nat.sub_zero]
  rw [e1, e2, e3, e4, e5]
  clear e1 e2 e3 e4 e5
  rw [cD (by omega), cFits (by simp; omega), cD (by simp only [len]; omega), cFits (by simp; omega)]
  rfl
theorem l3_eq (sizes : List Int) (m : gmem_Mem) (rows : List (List UInt8)) (put got : List UInt8) (i : Int) (L1 : List (List UInt8) → List UInt8 → List UInt8 → List UInt8 → Int → Option Bool) (p : Stream × Int) (y : List UInt8) : ∀ nf, law28zConsStreamsL3 sizes m rows put got i L1 p y nf = law28zConsStreamsL2 sizes m rows put got i L1 p y nf
  | 0 => rfl
  | nf + 1 => by
    funext a b c d
    show law28zConsStreamsL3B sizes m rows put got i L1 p y (law28zConsStreamsL3 sizes m rows put got i L1 p y nf) a b c d = law28zConsStreamsL2B sizes m rows put got i L1 p y (law28zConsStreamsL2 sizes m rows put got i L1 p y nf) a b c d
    rw [l3_eq sizes m rows put got i L1 p y nf]; rfl
theorem oneL {x : List UInt8} (hx : flatOk 16384 x) (sizes : List Int) (hz : sizes.length ≤ 20) (bb : List (List UInt8)) (put got y W0 W : List UInt8) (hW : W.length ≤ 4096) (hgot : got.length ≤ 1000000) (i : Int) (L1 : List (List UInt8) → List UInt8 → List UInt8 → List UInt8 → Int → Option Bool) (s : Stream) (n : Nat)
    (next : ∀ (x' : List UInt8) (f : Nat), flatOk 16384 x' → f ≤ W.length → L1 [x'] (W.drop f) (put ++ y.take n) (got ++ W.take f) (wi (i + 1)) = some true) : ∀ (nf k : Nat) (L : List Nat), k ≤ sizes.length → sizes.length - k < nf → L.length = k → okL L →
    law28zConsStreamsL2 sizes ⟨rg 16384, bb⟩ [x] put got i L1 (s, (n : Int)) y nf W0 W (asI L) (k : Int) = some true
  | 0, k, L, _, h, _, _ => absurd h (Nat.not_lt_zero _)
  | nf + 1, k, L, hi, hf, hL, hok => by
    unfold law28zConsStreamsL2 law28zConsStreamsL2B
    by_cases h : k < sizes.length
    · obtain ⟨q, eq, hq⟩ := pick_eq (wi (sizes[k] + i)) 500 (by decide) (by decide)
      have e1 : wi (1 + (q : Int)) = ((1 + q : Nat) : Int) := by rw [wi_in (by omega) (by omega)]; omega
      have e2 : asI L ++ [((1 + q : Nat) : Int)] = asI (L ++ [1 + q]) := by simp [asI]
      rw [bP (by simp only [len]; omega), oS (ix_nat (getq h)), oS (show kit_Pick (wi (sizes[k] + i)) 500 = some (q : Int) from eq), cFits (by rw [asI_len]; simp; omega), e1, e2, wi_succ (by omega)]
      clear e1 eq
      refine oneL hx sizes hz bb put got y W0 W hW hgot i L1 s n next nf (k + 1) (L ++ [1 + q]) (by omega) (by omega) (by simp [hL]) ?_
      intro m hm
      rcases List.mem_append.1 hm with q | q
      · exact hok m q
      · rw [List.mem_singleton] at q; omega
    · have hL20 : L.length ≤ 20 := by omega
      have hsL := okL_sum L hok
      have ol := out_len W.length L
      have rl := rooms_len 0 L
      have xl : x.length = 16384 := hx.2.2
      have tl : (W.take (min W.length (sumL L))).length = min W.length (sumL L) := by simp
      have hx2 : flatOk 16384 (wrF x 0 (W.take (min W.length (sumL L)))) := wrF_ok hx (by rw [tl]; show _ ≤ 16384; omega)
      have oll : len ((outF W.length L).map UInt32.ofNat) = (((outF W.length L).length : Nat) : Int) := by simp only [len, List.length_map]
      have sb : sub (roomsF 0 L) (0 : Int) (((outF W.length L).length : Nat) : Int) = (roomsF 0 L).take (outF W.length L).length := by simp [sub]
      rw [bN (by simp only [len]; omega), oS (rooms_eq L hok (by omega) (by omega)), oS (give_eq hx W (by omega) 0 L hok (by omega) (by omega))]
      dsimp only
      have w1 : rdF (wrF x 0 (W.take (min W.length (sumL L)))) 0 (min W.length (sumL L)) = W.take (min W.length (sumL L)) := by
        unfold rdF wrF
        rw [List.drop_zero, List.take_zero, List.nil_append]
        exact List.take_left' tl
      rw [cnE rfl, oll, cnQ (decide_eq_false (by simp only [len]; omega)) rfl, cD (by simp only [len]; omega), sb, oS (join_eq hx2 L hok W.length (by omega) (by omega) (by omega))]
      dsimp only
      rw [cnE rfl, w1, cD (by rw [tl]; omega)]
      have s5 : sub y (0 : Int) (n : Int) = y.take n := by simp [sub]
      rw [s5]
      exact next _ _ hx2 (Nat.min_le_left _ _)
theorem strL (parts : List (List UInt8)) (hp : parts.length ≤ 20) (sizes : List Int) (hz : sizes.length ≤ 20) (bb : List (List UInt8)) : ∀ (nf i : Nat) (x W put got : List UInt8), i ≤ parts.length → parts.length - i < nf → flatOk 16384 x → W.length ≤ 4096 → got ++ W = put → got.length ≤ 6000 * i →
    law28zConsStreamsL1 parts sizes ⟨rg 16384, bb⟩ nf [x] W put got (i : Int) = some true
  | 0, i, _, _, _, _, _, h, _, _, _, _ => absurd h (Nat.not_lt_zero _)
  | nf + 1, i, x, W, put, got, hi, hf, hx, hW, hg, hl => by
    have hpl : put.length = got.length + W.length := by rw [← hg, List.length_append]
    unfold law28zConsStreamsL1 law28zConsStreamsL1B
    by_cases h : i < parts.length
    · have g := ix_nat (getq h)
      rw [bP (by simp only [len]; omega), oS g]
      generalize parts[i] = y at g
      by_cases c : len y > 6000
      · rw [bP c]
      · simp only [len] at c
        have hy : y.length ≤ 6000 := by omega
        rw [bN (by simp only [len]; omega), oS g, oS (own_eq y (by omega)), oS (put_eq W y hW hy)]
        dsimp only
        have nl : (W ++ y.take (min y.length (4096 - W.length))).length = W.length + min y.length (4096 - W.length) := by simp
        have hn : min y.length (4096 - W.length) ≤ y.length := Nat.min_le_left _ _
        have hn2 : W.length + min y.length (4096 - W.length) ≤ 4096 := by omega
        have sy : sub y (0 : Int) ((min y.length (4096 - W.length) : Nat) : Int) = y.take (min y.length (4096 - W.length)) := by
          simp only [sub, Int.toNat_natCast, Int.toNat_zero, List.drop_zero, Nat.sub_zero]
        have hfull : min y.length (4096 - W.length) < y.length → W.length + min y.length (4096 - W.length) = 4096 := by omega
        generalize min y.length (4096 - W.length) = n at *
        have ty : (y.take n).length = n := by simp; omega
        have one := oneL hx sizes hz bb put got y W (W ++ y.take n) (by omega) (by omega) (i : Int) (law28zConsStreamsL1 parts sizes ⟨rg 16384, bb⟩ nf) ⟨W ++ y.take n⟩ n (fun x' f hx' hf' => by
          rw [wi_succ (by omega)]
          refine strL parts hp sizes hz bb nf (i + 1) x' _ _ _ (by omega) (by omega) hx' ?_ ?_ ?_
          · simp only [List.length_drop]; omega
          · rw [List.append_assoc, List.take_append_drop, ← List.append_assoc, hg]
          · simp only [List.length_append, List.length_take] at *; omega) fuel 0 [] (by omega) (by rw [fuelS]; omega) rfl (fun n h => by cases h)
        have ew : wi (len W + (n : Int)) = ((W.length + n : Nat) : Int) := by simp only [len]; rw [wi_in (by omega) (by omega)]; omega
        rw [cnQ (decide_eq_false (by omega)) rfl, oS g, cnQ (decide_eq_false (by simp only [len]; omega)) rfl, ew]
        clear ew
        rw [cnE (by simp only [len]; rw [nl]), cnQ (decide_eq_false (by simp only [len]; rw [nl]; omega)) rfl, oS g]
        by_cases c2 : n < y.length
        · rw [bP (by simp only [len]; omega), cnE (by simp only [len]; rw [nl, hfull c2]; rfl), oS g, cD (by simp only [len]; omega), sy, cD (by rw [ty]; omega)]
          exact one
        · rw [bN (by simp only [len]; omega), oS g, cD (by simp only [len]; omega), sy, cD (by rw [ty]; omega), l3_eq]
          exact one
    · rw [bN (by simp only [len]; omega), cD (by omega), cE hg]
theorem t_law28zConsStreams (parts : List (List UInt8)) (sizes : List Int) : law28zConsStreams parts sizes = some true := by
  unfold law28zConsStreams
  have hn : (!true) = false := rfl
  rw [oS lives28, cNT hn]
  by_cases h1 : len parts > 20
  · rw [bP h1]
  rw [bN h1]
  by_cases h2 : len sizes > 20
  · rw [bP h2]
  simp only [len] at h1 h2
  rw [bN (by simp only [len]; omega), oS (show law28zmemory = some (rg 16384) from rfl), oS (new1_eq (by decide) (by decide))]
  dsimp only
  rw [onS, cnE rfl]
  exact strL parts (by omega) sizes (by omega) _ fuel 0 (z1 16384) [] [] [] (by omega) (by rw [fuelS]; omega) (z1_ok (by decide) (by decide)) (by simp) rfl (by simp)
end Go.Proofs.Ytkjmmbmlapmkbaa

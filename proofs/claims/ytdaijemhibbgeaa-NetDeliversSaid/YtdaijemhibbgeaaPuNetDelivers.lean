/- The law NetDelivers in plain words: it answers true. No condition. -/
import Derived.Test.YtdaijemhibbgeaaPuNet
namespace Go.Proofs.Ytdaijemhibbgeaa
theorem fillN_ok : ∀ (T : List Nat) (W : Nat), T ≠ [] → sumL (T.take (T.length - 1)) < W → W ≤ sumL T → okL T →
    sumL (fillN W T) = W ∧ ∀ i (h : i < T.length), ∃ y, (fillN W T)[i]? = some y ∧ y ≤ T[i] ∧ (i + 1 < T.length → y = T[i]) ∧ 0 < y
  | [], W, h, _, _, _ => absurd rfl h
  | [n], W, _, h1, h2, _ => by
    simp only [sumL, List.length_singleton, Nat.sub_self, List.take_zero] at h1 h2
    simp only [fillN, sumL]
    refine ⟨by omega, fun i hi => ?_⟩
    simp only [List.length_singleton] at hi
    have : i = 0 := by omega
    subst this
    exact ⟨_, rfl, by simp only [List.getElem_cons_zero]; omega, fun q => by simp at q, by omega⟩
  | n :: m :: T, W, _, h1, h2, hok => by
    obtain ⟨hn, hok2⟩ := okL_c hok
    have e1 : (n :: m :: T).take ((n :: m :: T).length - 1) = n :: (m :: T).take ((m :: T).length - 1) := by
      simp only [List.length_cons, Nat.add_sub_cancel, List.take_succ_cons]
    rw [e1, sumL_c] at h1
    rw [sumL_c] at h2
    have hnW : min W n = n := by omega
    have ih := fillN_ok (m :: T) (W - n) (by simp) (by omega) (by omega) hok2
    have e2 : fillN W (n :: m :: T) = n :: fillN (W - n) (m :: T) := by
      conv => lhs; unfold fillN
      rw [hnW]
    rw [e2]
    refine ⟨by rw [sumL_c, ih.1]; omega, fun i hi => ?_⟩
    cases i with
    | zero => exact ⟨n, rfl, by simp, fun _ => rfl, by omega⟩
    | succ i =>
      obtain ⟨y, h3, h4, h5, h6⟩ := ih.2 i (by simp only [List.length_cons] at hi ⊢; omega)
      refine ⟨y, by simpa using h3, by simpa using h4, fun q => ?_, h6⟩
      have := h5 (by simp only [List.length_cons] at q ⊢; omega)
      simpa using this
theorem sumL_take_le (l : List Nat) (i : Nat) : sumL (l.take i) ≤ sumL l := by have := sum_split i l; omega
theorem sumL_succ {l : List Nat} {i y : Nat} (h : l[i]? = some y) : sumL (l.take (i + 1)) = sumL (l.take i) + y := by
  obtain ⟨h1, h2⟩ := List.getElem?_eq_some_iff.1 h
  rw [List.take_succ_eq_append_getElem h1, sumL_app, h2]; simp [sumL]
theorem wrF_from {x xs : List UInt8} {a : Nat} (h : a ≤ x.length) : (wrF x a xs).drop a = xs ++ x.drop (a + xs.length) := by
  unfold wrF
  rw [List.append_assoc, List.drop_left' (by simp; omega)]
theorem wrF_to {x xs : List UInt8} {a : Nat} (h : a ≤ x.length) : (wrF x a xs).take a = x.take a := by
  unfold wrF
  rw [List.append_assoc, List.take_left' (by simp; omega)]
theorem wrF_end {x xs : List UInt8} {a : Nat} (h : a + xs.length ≤ x.length) : (wrF x a xs).drop (a + xs.length) = x.drop (a + xs.length) := by
  unfold wrF
  rw [List.drop_left' (by simp; omega)]
theorem wrF_whole {x xs : List UInt8} (h : xs.length = x.length) : wrF x 0 xs = xs := by
  unfold wrF
  rw [List.take_zero, List.nil_append, List.drop_of_length_le (by omega), List.append_nil]
/-- the tail: all is there -/
theorem delTail (SZ : List Int) (fill B : List UInt8) (h : Hdr) (k : Nat) (OUT : List UInt32) (rest : Int × List (List UInt8)) (hf : fill.length = 16384) (hB : B.length ≤ 2000) (hO : OUT.length = k) (hk : k ≤ 1000) (hh : h.Buffers = UInt16.ofNat k) (K : Int → Int → Option Bool) (i : Int) (hi : i = (k : Int)) :
    law25zNetDeliversL3B SZ fill (B, 0) (OUT, rest) (wrF fill 100 (bytesH h ++ B)) K ((12 + B.length : Nat) : Int) i = some true := by
  have hl : (bytesH h).length = 12 := rfl
  have hlen : (bytesH h ++ B).length = 12 + B.length := by rw [List.length_append, hl]
  have hw : (wrF fill 100 (bytesH h ++ B)).length = 16384 := by rw [wrF_len (by rw [hlen]; omega), hf]
  have h1 : wi ((12 : Int) + len B) = ((12 + B.length : Nat) : Int) := by rw [show len B = ((B.length : Nat) : Int) from rfl, wi_in (by omega) (by omega)]; omega
  have h2 : wi ((100 : Int) + ((12 + B.length : Nat) : Int)) = ((112 + B.length : Nat) : Int) := by rw [wi_in (by omega) (by omega)]; omega
  have d := wrF_from (x := fill) (xs := bytesH h ++ B) (a := 100) (by omega)
  have t1 : sub (wrF fill 100 (bytesH h ++ B)) (100 : Int) (112 : Int) = bytesH h := by
    rw [show (100 : Int) = ((100 : Nat) : Int) from rfl, show (112 : Int) = ((112 : Nat) : Int) from rfl, sub_nat, d, List.append_assoc]
    exact List.take_left' rfl
  have t2 : sub (wrF fill 100 (bytesH h ++ B)) (112 : Int) ((112 + B.length : Nat) : Int) = B := by
    rw [show (112 : Int) = ((112 : Nat) : Int) from rfl, sub_nat, show (112 : Nat) = 100 + 12 from rfl, ← List.drop_drop, d, List.append_assoc, List.drop_left' hl]
    exact List.take_left' (by omega)
  have t3 : sub (wrF fill 100 (bytesH h ++ B)) (0 : Int) (100 : Int) = sub fill (0 : Int) (100 : Int) := by
    rw [sub_to, sub_to]
    exact wrF_to (by omega)
  have t4 : sub (wrF fill 100 (bytesH h ++ B)) ((112 + B.length : Nat) : Int) (len (wrF fill 100 (bytesH h ++ B))) = sub fill ((112 + B.length : Nat) : Int) (len fill) := by
    rw [sub_from, sub_from, Int.toNat_natCast]
    have := wrF_end (x := fill) (xs := bytesH h ++ B) (a := 100) (by rw [hlen]; omega)
    rw [hlen, show 100 + (12 + B.length) = 112 + B.length by omega] at this
    exact this
  have h3 : i16 h.Buffers = (k : Int) := by rw [hh]; simp only [i16, UInt16.toNat_ofNat']; omega
  unfold law25zNetDeliversL3B
  dsimp only
  rw [bN (by simp only [len, hO, hi]; omega), cD (by simp only [len, hw]; omega), t1, refReadHdr_eq, oS (readHdr_eq h), cnE rfl]
  dsimp only
  rw [h1, h2, t2, t3, t4]
  rw [cnE (by rw [h3]; simp only [len, hO])]
  rw [cnE rfl]
  rw [cD (by simp only [len, hw]; omega), cnE rfl]
  rw [cD (by simp only [len, hw]; omega), cD (by simp only [len, hf]; omega), cE rfl, cD (by simp only [len, hw]; omega), cD (by simp only [len, hf]; omega), cE rfl]
theorem delLoop (S F : List Nat) (fill B : List UInt8) (h : Hdr) (k : Nat) (rest : Int × List (List UInt8)) (hf : fill.length = 16384) (hB : B.length ≤ 2000) (hF : F.length = k) (hk : k ≤ 1000) (hkS : k ≤ S.length) (hh : h.Buffers = UInt16.ofNat k) (hs : sumL F = 12 + B.length)
    (hy : ∀ i (q : i < k), ∃ y, F[i]? = some y ∧ y ≤ S[i]'(by omega) ∧ (i + 1 < k → y = S[i]'(by omega)) ∧ 0 < y) :
    ∀ (nf i : Nat), i ≤ k → k - i < nf → law25zNetDeliversL3 (asI S) fill (B, 0) (F.map UInt32.ofNat, rest) (wrF fill 100 (bytesH h ++ B)) nf ((sumL (F.take i) : Nat) : Int) (i : Int) = some true
  | 0, i, _, q => absurd q (Nat.not_lt_zero _)
  | nf + 1, i, hi, hn => by
    have hO : (F.map UInt32.ofNat).length = k := by simp [hF]
    by_cases q : i < k
    · obtain ⟨y, y1, y2, y3, y4⟩ := hy i q
      have hss := sumL_succ y1
      have hle := sumL_take_le F (i + 1)
      have g : ix (F.map UInt32.ofNat) (i : Int) = some (UInt32.ofNat y) := ix_nat (by simp [y1])
      have gS : ix (asI S) (i : Int) = some ((S[i]'(by omega) : Nat) : Int) := asI_get (by omega)
      have e32 : (UInt32.ofNat y).toNat = y := n32 (by omega)
      have ei : i32 (UInt32.ofNat y) = (y : Int) := by simp only [i32, e32]
      have e0 : UInt32.ofNat y ≠ 0 := fun z => by have := congrArg UInt32.toNat z; rw [e32] at this; simp at this; omega
      have ew : wi (len (F.map UInt32.ofNat) - 1) = ((k : Int) - 1) := by simp only [len, hO]; rw [wi_in (by omega) (by omega)]
      have eg : wi (((sumL (F.take i) : Nat) : Int) + (y : Int)) = ((sumL (F.take (i + 1)) : Nat) : Int) := by rw [hss, wi_in (by omega) (by omega)]; omega
      have ih := delLoop S F fill B h k rest hf hB hF hk hkS hh hs hy nf (i + 1) (by omega) (by omega)
      unfold law25zNetDeliversL3 law25zNetDeliversL3B
      dsimp only
      rw [bP (by simp only [len, hO]; omega), ew]
      simp only [g, gS, obS, ei, eg, wi_succ (show i < 9223372036854775807 by omega), ih]
      by_cases q2 : i + 1 < k
      · rw [bP (by omega), cnE (by rw [y3 q2])]
        rw [cN (by omega), cnF e0]
      · rw [bN (by omega), cN (by omega), cnF e0]
    · have : i = k := by omega
      subst this
      have e : F.take i = F := List.take_of_length_le (by omega)
      unfold law25zNetDeliversL3
      rw [e, hs]
      exact delTail (asI S) fill B h i _ rest hf hB hO hk hh _ _ rfl
theorem delFill (feats : UInt64) (v : UInt8) (SZ : List Int) (all : Int) (mem : gmem_Mem) (D S : A6 UInt8) (V : Int) (T : UInt16) (Da : List UInt8) (l1 : List (List Seg)) : ∀ (nf i : Nat), i ≤ 16384 → 16384 - i < nf →
    ∃ K, law25zNetDeliversL2 feats v SZ all mem nf D S V T Da l1 (List.replicate i v) (i : Int) = law25zNetDeliversL2B feats v SZ all mem K D S V T Da l1 (List.replicate 16384 v) (16384 : Int)
  | 0, i, _, h => absurd h (Nat.not_lt_zero _)
  | nf + 1, i, hi, hn => by
    by_cases h : i < 16384
    · obtain ⟨K, ih⟩ := delFill feats v SZ all mem D S V T Da l1 nf (i + 1) (by omega) (by omega)
      refine ⟨K, ?_⟩
      unfold law25zNetDeliversL2
      rw [← ih]
      conv => lhs; unfold law25zNetDeliversL2B
      rw [bP (by omega), cFits (by simp; omega), wi_succ (by omega), List.replicate_succ']
    · have : i = 16384 := by omega
      subst this
      exact ⟨_, rfl⟩
theorem delAll (feats : UInt64) (v : UInt8) (S : List Nat) (hok : okL S) (hl : S.length ≤ 20) (f : Frame) (hf : okF f) (K : A6 UInt8 → A6 UInt8 → Int → UInt16 → List UInt8 → List (List Seg) → List UInt8 → Int → Option Bool) :
    law25zNetDeliversL2B feats v (asI S) ((sumL S : Nat) : Int) ⟨rg 16384, [z1 16384]⟩ K f.Dst f.Src f.Vlan f.Type_ f.Data (roomsF 100 S) (List.replicate 16384 v) (16384 : Int) = some true := by
  have hs7 := okL_sum S hok
  have hx : flatOk 16384 (List.replicate 16384 v) := ⟨by decide, by decide, by rw [List.length_replicate]; rfl⟩
  have hb : (bytesF f).length ≤ 2000 := by
    rw [bytesF_len]; have := hf.2.2.2
    have : (tagB f.Vlan).length ≤ 4 := by unfold tagB; split <;> simp
    omega
  have hwr := write1_eq (z1_ok (n := 16384) (by decide) (by decide)) 0 (List.replicate 16384 v) (by rw [List.length_replicate]; decide)
  rw [show (0 : UInt64).toNat = 0 from rfl, wrF_whole (by unfold z1; rw [List.length_replicate, List.length_replicate]; rfl)] at hwr
  have hby : ref_Bytes23 (Frame.mk f.Dst f.Src f.Vlan f.Type_ f.Data) = some (bytesF f, 0) := by rw [refBytes_eq]; exact bytes_ok hf
  have hwi : wi ((12 : Int) + len (bytesF f)) = ((12 + (bytesF f).length : Nat) : Int) := by rw [show len (bytesF f) = (((bytesF f).length : Nat) : Int) from rfl, wi_in (by omega) (by omega)]; omega
  generalize hfill : List.replicate 16384 v = fill at *
  unfold law25zNetDeliversL2B
  rw [bN (by omega), oS hwr, cnE rfl]
  rw [oS hby]
  dsimp only
  cases hg : go (shr64 feats (15 : UInt64).toNat &&& 1 == 1) (12 + (bytesF f).length) 0 0 S with
  | none =>
    rw [oS (deliver_full feats S hok (by omega) (by omega) f hf hg)]
    dsimp only
    rw [oS (image1_eq hx), nF (by decide), hwi]
    cases S with
    | nil => rw [bE (show len (asI []) = 0 from rfl), cE rfl, cE rfl]
    | cons n S =>
      have g0 : ix (asI (n :: S)) (0 : Int) = some (n : Int) := rfl
      rw [bF (by simp only [len, asI_len, List.length_cons]; omega), oS g0]
      by_cases c1 : n < 12
      · rw [bP (by omega), cE rfl, cE rfl]
      · rw [bN (by omega)]
        cases hm : (shr64 feats (15 : UInt64).toNat &&& 1 == 1) with
        | false =>
          rw [hm] at hg
          have c2 : n < 12 + (bytesF f).length := by
            simp only [go] at hg
            obtain ⟨hn, _⟩ := okL_c hok
            rw [if_neg (by rintro (q | q | q) <;> omega)] at hg
            by_cases c3 : 12 + (bytesF f).length ≤ 0 + n
            · rw [if_pos c3] at hg; cases hg
            · omega
          rw [notF, brT, oS g0, bP (by omega), cE rfl, cE rfl]
        | true =>
          rw [hm] at hg
          have := go_none hok (fun _ r l q => by injection q with q1 q2; omega) (by omega) hg
          rw [notT, brF, chkT, cE rfl, cP (by omega), cE rfl]
  | some k =>
    have hk := go_le hg
    have hsum := go_sum hg
    rw [Nat.sub_zero, Nat.sub_zero, Nat.zero_add, Nat.zero_add] at hsum
    have hlt : (S.take k).length = k := by rw [List.length_take]; omega
    have hF := fillN_ok (S.take k) (12 + (bytesF f).length) (fun q => by rw [q] at hlt; simp at hlt; omega) (by rw [hlt, List.take_take, Nat.min_eq_left (by omega)]; exact hsum.2 (by omega)) hsum.1 (okL_take hok k)
    rw [oS (deliver_ok hx feats S hok (by omega) (by omega) f hf k hg)]
    dsimp only
    have hxl : fill.length = 16384 := hx.2.2
    have hH : (bytesH (hdrD feats k) ++ bytesF f).length = 12 + (bytesF f).length := by rw [List.length_append]; rfl
    rw [oS (image1_eq (wrF_ok hx (by rw [hH]; show _ ≤ 16384; omega))), nE rfl]
    refine delLoop S _ fill (bytesF f) (hdrD feats k) k _ hxl hb (by rw [fillN_len, hlt]) (by omega) (by omega) rfl hF.1 ?_ fuel 0 (by omega) (by rw [fuelS]; omega)
    intro i q
    obtain ⟨y, y1, y2, y3, y4⟩ := hF.2 i (by rw [hlt]; exact q)
    refine ⟨y, y1, ?_, fun q2 => ?_, y4⟩
    · rw [List.getElem_take] at y2; exact y2
    · have := y3 (by rw [hlt]; exact q2)
      rw [List.getElem_take] at this; exact this
theorem delL1s (l : List Int) (feats : UInt64) (v : UInt8) (f : Frame) (hf : okF f) (hl : l.length ≤ 20) : ∀ (nf i : Nat) (S : List Nat), S.length = i → okL S → i ≤ l.length → l.length - i < nf → law25zNetDeliversL1 l feats v nf f.Dst f.Src f.Vlan f.Type_ f.Data (asI S) ((sumL S : Nat) : Int) (i : Int) = some true
  | 0, i, S, _, _, _, h => absurd h (Nat.not_lt_zero _)
  | nf + 1, i, S, hS, hok, hi, hn => by
    have hs7 := okL_sum S hok
    unfold law25zNetDeliversL1 law25zNetDeliversL1B
    by_cases h : i < l.length
    · obtain ⟨k, hk1, hk2⟩ := pick_eq l[i] 700 (by decide) (by decide)
      replace hk1 : kit_Pick l[i] 700 = some (k : Int) := hk1
      have e1 : wi ((1 : Int) + (k : Int)) = ((k + 1 : Nat) : Int) := by rw [wi_in (by omega) (by omega)]; omega
      have e2 : wi (((sumL S : Nat) : Int) + ((k + 1 : Nat) : Int)) = ((sumL (S ++ [k + 1]) : Nat) : Int) := by
        rw [sumL_app, wi_in (by omega) (by omega)]; simp only [sumL]; omega
      have e3 : asI S ++ [((k + 1 : Nat) : Int)] = asI (S ++ [k + 1]) := by simp [asI]
      rw [bP (by simp only [len]; omega), oS (ix_nat (getq h)), oS hk1, e1, cFits (by rw [asI_len]; simp only [List.length_cons, List.length_nil]; omega), e2, e3, wi_succ (by omega)]
      clear e1 e2 e3 hk1
      have hok2 : okL (S ++ [k + 1]) := by
        intro n hn'
        rcases List.mem_append.1 hn' with q | q
        · exact hok n q
        · rw [List.mem_singleton] at q; omega
      have hl2 : (S ++ [k + 1]).length = i + 1 := by rw [List.length_append, hS]; rfl
      exact delL1s l feats v f hf hl nf (i + 1) (S ++ [k + 1]) hl2 hok2 (by omega) (by omega)
    · rw [bN (by simp only [len]; omega), oS (rooms25_eq S hok (by omega) (by omega)), oS mem25, oS (new1_eq (n := 16384) (by decide) (by decide))]
      dsimp only
      rw [onS, cnE rfl]
      obtain ⟨K, hK⟩ := delFill feats v (asI S) ((sumL S : Nat) : Int) ⟨rg 16384, [z1 16384]⟩ f.Dst f.Src f.Vlan f.Type_ f.Data (roomsF 100 S) fuel 0 (by omega) (by rw [fuelS]; omega)
      exact hK.trans (delAll feats v S hok (by omega) f hf K)
theorem t_law25zNetDelivers (f : Frame) (l : List Int) (feats : UInt64) (vp3 : UInt8) : law25zNetDelivers f l feats vp3 = some true := by
  unfold law25zNetDelivers
  rw [oS lives25, notT, notF, chkT]
  by_cases h : len l > 20
  · rw [bP h]
  · rw [bN h, refCheck_eq]
    simp only [len] at h
    by_cases hf : okF f
    · rw [oS (check_ok hf), nE rfl]
      exact delL1s l feats vp3 f hf (by omega) fuel 0 [] rfl (fun n hn => by cases hn) (by omega) (by rw [fuelS]; omega)
    · rw [oS (check_bad hf), nF (by decide)]
end Go.Proofs.Ytdaijemhibbgeaa

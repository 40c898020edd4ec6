/- Frames into buffers: how many are needed, what lies in them then. No condition. -/
import Derived.Test.YtdaijemhibbgeaaPuCons2
import Derived.Test.YtdaijemhibbgeaaPuFrameRef
namespace Go.Proofs.Ytdaijemhibbgeaa
theorem lives25 : law25zlives = some true := by kernel_rfl
theorem mem25 : law25zmemory = some (rg 16384) := rfl
theorem hasN_eq (f : UInt64) : feat_Has f 15 = some (shr64 f (15 : UInt64).toNat &&& 1 == 1) := by
  unfold feat_Has
  rw [bP (by decide), bP (by decide), cP (by decide)]; rfl
theorem hasG_eq (f : UInt64) : ∃ b, feat_Has f 1 = some b := by
  unfold feat_Has
  rw [bP (by decide), bP (by decide), cP (by decide)]; exact ⟨_, rfl⟩
/-- how many bytes may be written -/
def rmN (l : List Seg) : Nat := if goodS l then wrS l else 0
theorem rmN_lt (l : List Seg) : rmN l < 4294967296 := by
  unfold rmN
  split
  · rename_i h; have := h.2.2; have := sum_rw l; omega
  · decide
theorem tot2 (l : List Seg) : (totS l).2 = UInt64.ofNat (rmN l) := by
  unfold totS rmN
  split <;> rfl
theorem room_eq (l : List Seg) : net_room l = some (UInt64.ofNat (rmN l)) := by
  unfold net_room
  rw [oS (segTotal l), tot2]
/-- into how many buffers bytes go -/
def go (mg : Bool) (W : Nat) : Nat → Nat → List Nat → Option Nat
  | _, _, [] => none
  | i, s, r :: rs => if r = 0 ∨ (i = 0 ∧ r < 12) ∨ (0 < i ∧ mg = false) then none else if W ≤ s + r then some (i + 1) else go mg W (i + 1) (s + r) rs
def outN : Option Nat → Int × Bool
  | none => (0, false)
  | some k => ((k : Int), true)
theorem go_le {mg : Bool} {W : Nat} : ∀ {rs : List Nat} {i s k : Nat}, go mg W i s rs = some k → i < k ∧ k ≤ i + rs.length
  | [], i, s, k, h => by simp [go] at h
  | r :: rs, i, s, k, h => by
    simp only [go] at h
    split at h
    · cases h
    · split at h
      · simp at h; subst h; simp
      · have := go_le h; simp only [List.length_cons]; omega
theorem go_sum {mg : Bool} {W : Nat} : ∀ {rs : List Nat} {i s k : Nat}, go mg W i s rs = some k → W ≤ s + sumL (rs.take (k - i)) ∧ (s < W → s + sumL (rs.take (k - 1 - i)) < W)
  | [], i, s, k, h => by simp [go] at h
  | r :: rs, i, s, k, h => by
    have hk := go_le h
    simp only [go] at h
    split at h
    · cases h
    · split at h
      · rename_i h2
        simp at h; subst h
        rw [show i + 1 - i = 1 by omega, show i + 1 - 1 - i = 0 by omega]
        simp only [List.take_succ_cons, List.take_zero, sumL]; omega
      · rename_i h2
        have h3 := go_le h
        have h4 := go_sum h
        rw [show k - i = (k - (i + 1)) + 1 by omega, show k - 1 - i = (k - 1 - (i + 1)) + 1 by omega, List.take_succ_cons, List.take_succ_cons]
        simp only [sumL]
        refine ⟨by omega, fun _ => ?_⟩
        have := h4.2 (by omega); omega
theorem needsL (bufs : List (List Seg)) (np2 : Int) (mg : Bool) (W : Nat) (hb : bufs.length ≤ 1000) (hW : u64 (maxi np2 12) = UInt64.ofNat W) (hW2 : W < 18446744073709551616) :
    ∀ (nf i s : Nat), i ≤ bufs.length → bufs.length - i < nf → s ≤ 4294967296 * i → net_NeedsL1 bufs np2 mg nf (UInt64.ofNat s) (i : Int) = some (outN (go mg W i s ((bufs.drop i).map rmN)))
  | 0, i, s, _, h, _ => by omega
  | nf + 1, i, s, hi, hn, hs => by
    unfold net_NeedsL1 net_NeedsL1B
    by_cases h : i < bufs.length
    · have hd : bufs.drop i = bufs[i] :: bufs.drop (i + 1) := drop_ix h
      have hr := rmN_lt bufs[i]
      have hn0 : (UInt64.ofNat (rmN bufs[i])).toNat = rmN bufs[i] := by rw [UInt64.toNat_ofNat']; omega
      rw [hd, List.map_cons, bP (by simp only [len]; omega), oS (ix_nat (getq h)), oS (room_eq _)]
      have hJ : ∀ q : Bool, net_NeedsJ2 np2 (UInt64.ofNat s) (i : Int) (net_NeedsL1 bufs np2 mg nf) (UInt64.ofNat (rmN bufs[i])) q = some (outN (if q = true then none else if W ≤ s + rmN bufs[i] then some (i + 1) else go mg W (i + 1) (s + rmN bufs[i]) ((bufs.drop (i + 1)).map rmN))) := by
        intro q
        unfold net_NeedsJ2
        cases q with
        | true => rw [bT rfl]; rfl
        | false =>
          have ih := needsL bufs np2 mg W hb hW hW2 nf (i + 1) (s + rmN bufs[i]) (by omega) (by omega) (by omega)
          rw [bFl rfl, hW, ← UInt64.ofNat_add, wi_succ (by omega), if_neg (by decide)]
          by_cases h2 : W ≤ s + rmN bufs[i]
          · rw [if_pos h2, bP]
            · rfl
            · rw [GE.ge, UInt64.le_iff_toNat_le, UInt64.toNat_ofNat', UInt64.toNat_ofNat']; omega
          · rw [if_neg h2, bN, ih]
            rw [GE.ge, UInt64.le_iff_toNat_le, UInt64.toNat_ofNat', UInt64.toNat_ofNat']; omega
      simp only [hJ, go]
      by_cases h0 : rmN bufs[i] = 0
      · have e0 : (UInt64.ofNat (rmN bufs[i]) == 0) = true := by rw [h0]; rfl
        rw [e0, bT rfl, if_pos rfl, if_pos (Or.inl h0)]
      · have e0 : UInt64.ofNat (rmN bufs[i]) ≠ 0 := fun q => h0 (by have := congrArg UInt64.toNat q; rw [hn0] at this; simpa using this)
        rw [bF e0]
        by_cases h1 : i = 0
        · subst h1
          rw [bE (show ((0 : Nat) : Int) = 0 from rfl)]
          by_cases h2 : rmN bufs[0] < 12
          · have e2 : UInt64.ofNat (rmN bufs[0]) < 12 := by rw [UInt64.lt_iff_toNat_lt, hn0]; exact h2
            rw [bP e2, if_pos (by simpa using e2), if_pos (Or.inr (Or.inl ⟨rfl, h2⟩))]
          · have e2 : ¬ UInt64.ofNat (rmN bufs[0]) < 12 := by rw [UInt64.lt_iff_toNat_lt, hn0]; exact h2
            have hno : ¬ (rmN bufs[0] = 0 ∨ (0 = 0 ∧ rmN bufs[0] < 12) ∨ (0 < 0 ∧ mg = false)) := by
              rintro (q | q | q)
              · exact h0 q
              · exact h2 q.2
              · exact absurd q.1 (by omega)
            rw [bN e2, bN (by simp), if_neg (by simp), if_neg hno]
        · rw [bF (by omega), bP (by omega)]
          cases mg with
          | true =>
            have hno : ¬ (rmN bufs[i] = 0 ∨ (i = 0 ∧ rmN bufs[i] < 12) ∨ (0 < i ∧ true = false)) := by
              rintro (q | q | q)
              · exact h0 q
              · exact h1 q.1
              · exact absurd q.2 (by simp)
            rw [if_neg (by simp), if_neg hno]
          | false => rw [if_pos (by simp), if_pos (Or.inr (Or.inr ⟨by omega, rfl⟩))]
    · rw [bN (by simp only [len]; omega), List.drop_of_length_le (by omega)]; rfl
theorem needs_eq (f : UInt64) (bufs : List (List Seg)) (n : Int) (W : Nat) (hb : bufs.length ≤ 1000) (hW : maxi n 12 = (W : Int)) (hW2 : W < 18446744073709551616) : net_Needs f bufs n = some (outN (go (shr64 f (15 : UInt64).toNat &&& 1 == 1) W 0 0 (bufs.map rmN))) := by
  unfold net_Needs
  rw [oS (hasN_eq f)]
  have := needsL bufs n (shr64 f (15 : UInt64).toNat &&& 1 == 1) W hb (by rw [hW, u64_of]) hW2 fuel 0 0 (by omega) (by unfold fuel; omega) (by omega)
  simpa using this
theorem go_none {W : Nat} : ∀ {rs : List Nat} {i s : Nat}, okL rs → (i = 0 → ∀ r l, rs = r :: l → 12 ≤ r) → s < W → go true W i s rs = none → s + sumL rs < W
  | [], i, s, _, _, hs, _ => by simp only [sumL]; omega
  | r :: rs, i, s, hok, h0, hs, h => by
    obtain ⟨hr, hok2⟩ := okL_c hok
    simp only [go] at h
    have hno : ¬ (r = 0 ∨ (i = 0 ∧ r < 12) ∨ (0 < i ∧ true = false)) := by
      rintro (q | q | q)
      · omega
      · have := h0 q.1 r rs rfl; omega
      · cases q.2
    rw [if_neg hno] at h
    by_cases h2 : W ≤ s + r
    · rw [if_pos h2] at h; cases h
    · rw [if_neg h2] at h
      have := go_none hok2 (fun q => by omega) (by omega) h
      rw [sumL_c]; omega
/-- the rooms of buffers side by side -/
theorem rooms_rm : ∀ (a : Nat) (l : List Nat), okL l → a + sumL l ≤ 16384 → (roomsF a l).map rmN = l
  | a, [], _, _ => rfl
  | a, n :: l, h, hs => by
    obtain ⟨h1, h2⟩ := okL_c h
    rw [sumL_c] at hs
    obtain ⟨bg, _, bw, _⟩ := buf_good (a := a) h1 (by omega)
    simp only [roomsF, List.map_cons]
    rw [rooms_rm (a + n) l h2 (by omega)]
    unfold rmN
    rw [if_pos bg, bw]
theorem roomsL25 : ∀ (l : List Nat) (L : List Nat) (i a nf : Nat) (out : List (List Seg)), L.drop i = l → okL l → L.length ≤ 1000 → a + sumL l ≤ 100000 → l.length < nf → out.length = i →
    law25zroomsL1 (asI L) nf (UInt64.ofNat a) out (i : Int) = some (out ++ roomsF a l)
  | l, L, i, a, 0, out, _, _, _, _, h, _ => absurd h (Nat.not_lt_zero _)
  | [], L, i, a, nf + 1, out, hd, hok, hL, hs, hf, ho => by
    have := drop_end hd
    unfold law25zroomsL1 law25zroomsL1B
    rw [bN (by simp only [len, asI_len]; omega)]; simp [roomsF]
  | n :: l, L, i, a, nf + 1, out, hd, hok, hL, hs, hf, ho => by
    obtain ⟨d1, d2, d3⟩ := drop_get hd
    obtain ⟨hn, hok2⟩ := okL_c hok
    rw [sumL_c] at hs
    have g : ix (asI L) (i : Int) = some (n : Int) := by
      rw [asI_get d1]
      have : L[i] = n := by rw [getq d1] at d2; injection d2
      rw [this]
    unfold law25zroomsL1 law25zroomsL1B
    have e1 : u32 (n : Int) = UInt32.ofNat n := by unfold u32; rw [show ((n : Int) % 4294967296).toNat = n by omega]
    rw [bP (by simp only [len, asI_len]; omega), oS g, cFits (by simp; omega), oS g, u64_of, ← UInt64.ofNat_add, e1, wi_succ (by omega)]
    have ih := roomsL25 l L (i + 1) (a + n) nf (out ++ [bufR a n]) d3 hok2 hL (by omega) (by simp at hf; omega) (by simp [ho])
    rw [show out ++ [[⟨UInt64.ofNat a, UInt32.ofNat n, true⟩]] = out ++ [bufR a n] from rfl, ih]
    simp [roomsF]
theorem rooms25_eq (L : List Nat) (hok : okL L) (hL : L.length ≤ 1000) (hs : sumL L ≤ 90000) : law25zrooms (asI L) = some (roomsF 100 L) := by
  unfold law25zrooms
  exact roomsL25 L L 0 100 fuel [] (by rw [List.drop_zero]) hok hL (by omega) (by rw [fuelS]; omega) rfl
/-! delivering -/
/-- how much goes into each -/
def fillN : Nat → List Nat → List Nat
  | _, [] => []
  | k, n :: l => min k n :: fillN (k - min k n) l
theorem fillN_len : ∀ (k : Nat) (l : List Nat), (fillN k l).length = l.length
  | _, [] => rfl
  | k, n :: l => by simp only [fillN, List.length_cons, fillN_len]
theorem in_rooms {x : List UInt8} (hx : flatOk 16384 x) : ∀ (a : Nat) (l : List Nat), okL l → a + sumL l ≤ 16384 → ∀ y ∈ roomsF a l, seg_In ⟨rg 16384, [x]⟩ y = some 0
  | a, [], _, _, y, hy => by cases hy
  | a, n :: l, h, hs, y, hy => by
    obtain ⟨h1, h2⟩ := okL_c h
    rw [sumL_c] at hs
    rcases List.mem_cons.1 hy with e | e
    · subst e
      obtain ⟨bg, bi, _, _⟩ := buf_good (a := a) h1 (by omega)
      rw [segIn_eq _ (flat_mem hx)]
      exact congrArg some (inE1_zero.2 ⟨bg, bi⟩)
    · exact in_rooms hx (a + n) l h2 (by omega) y e
theorem delL1 (m : gmem_Mem) (feats : UInt64) (bufs : List (List Seg)) (bytes1 : List UInt8 × Int) (needs1 : Int × Bool) (R : List (List Seg)) (hR : sub bufs (0 : Int) needs1.1 = R) (hin : ∀ y ∈ R, seg_In m y = some 0) (hl : R.length ≤ 1000) :
    ∀ (nf i : Nat), i ≤ R.length → R.length - i < nf → net_DeliverL1 m feats bufs bytes1 needs1 nf (i : Int) = (ob (feat_Has feats (1 : Int)) fun has1 =>
      br (has1) (net_DeliverJ2 m bufs needs1 bytes1.1 (Hdr.mk (2 : UInt8) (0 : UInt16) (0 : UInt16) (u16 needs1.1))) (net_DeliverJ2 m bufs needs1 bytes1.1 (Hdr.mk (0 : UInt8) (0 : UInt16) (0 : UInt16) (u16 needs1.1))))
  | 0, i, _, h => absurd h (Nat.not_lt_zero _)
  | nf + 1, i, hi, hn => by
    unfold net_DeliverL1 net_DeliverL1B
    rw [hR]
    by_cases h : i < R.length
    · rw [bP (by simp only [len]; omega), oS (ix_nat (getq h)), oS (hin _ (List.getElem_mem h)), nE rfl, wi_succ (by omega)]
      exact delL1 m feats bufs bytes1 needs1 R hR hin hl nf (i + 1) (by omega) (by omega)
    · rw [bN (by simp only [len]; omega)]
theorem delL3 (m0 : gmem_Mem) (hm : m0.l = rg 16384) (bufs : List (List Seg)) (needs1 : Int × Bool) (R : List (List Seg)) (hR : sub bufs (0 : Int) needs1.1 = R) (hRl : R.length ≤ 1000) : ∀ (l : List Nat) (a i nf : Nat) (x rest : List UInt8) (out : List UInt32), flatOk 16384 x → R.drop i = roomsF a l → okL l → a + sumL l ≤ 16384 → l.length < nf → rest.length ≤ 100000 → out.length = i → i ≤ 1000 →
    net_DeliverL3 m0 bufs needs1 nf [x] rest out (i : Int) = some (out ++ (fillN rest.length l).map UInt32.ofNat, 0, [wrF x a (rest.take (min rest.length (sumL l)))])
  | l, a, i, 0, x, rest, out, _, _, _, _, h, _, _, _ => absurd h (Nat.not_lt_zero _)
  | [], a, i, nf + 1, x, rest, out, hx, hd, hok, hs, hf, hl, ho, hi => by
    have := drop_end hd
    unfold net_DeliverL3 net_DeliverL3B
    rw [hR, bN (by simp only [len]; omega)]
    simp [fillN, sumL, wrF_nil]
  | n :: l, a, i, nf + 1, x, rest, out, hx, hd, hok, hs, hf, hl, ho, hi => by
    obtain ⟨d1, d2, d3⟩ := drop_get hd
    obtain ⟨hn, hok2⟩ := okL_c hok
    rw [sumL_c] at hs
    obtain ⟨bg, bi, bw, br_⟩ := buf_good (a := a) hn (by omega)
    have hK : i64 (minu64 (u64 (len rest)) (UInt64.ofNat n)) = ((min rest.length n : Nat) : Int) := by
      rw [show len rest = ((rest.length : Nat) : Int) from rfl, u64_of, minu_nat (by omega) (by omega), i64_of (by rw [n64 (by omega)]; omega), n64 (by omega)]
    have hroom : net_room (bufR a n) = some (UInt64.ofNat n) := by
      rw [room_eq]; unfold rmN; rw [if_pos bg, bw]
    unfold net_DeliverL3 net_DeliverL3B
    rw [hR, bP (by simp only [len]; omega), oS (ix_nat d2), oS hroom, hK]
    clear hK
    generalize hk : min rest.length n = k at *
    have s1 : sub rest (0 : Int) (k : Int) = rest.take k := by simp [sub]
    have s2 : sub rest (k : Int) (len rest) = rest.drop k := by
      simp only [sub, len, Int.toNat_natCast]
      exact List.take_of_length_le (by simp)
    have sc : seg_Scatter ⟨m0.l, [x]⟩ (bufR a n) (rest.take k) = some (((min (rest.take k).length (wrS (bufR a n)) : Nat) : Int), 0, [wrF x a (rest.take k)]) := by
      rw [hm, scatter1 hx _ _ (by simp; omega) bg bi]
      have e : (bufR a n).filter (fun s => s.Write == true) = bufR a n := rfl
      rw [e]
      have e2 : scatF x (bufR a n) (rest.take k) = wrF x a (rest.take k) := by
        show wrF x (UInt64.ofNat a).toNat ((rest.take k).take (UInt32.ofNat n).toNat) = _
        rw [n64 (by omega), n32 (by omega), List.take_of_length_le (by simp; omega)]
      rw [e2]
    rw [cD (by simp only [len]; omega), s1, oS sc]
    dsimp only
    rw [cFits (by simp only [List.length_cons, List.length_nil]; omega), cD (by simp only [len]; omega), s2, wi_succ (by omega), u32_of]
    have hl2 : (rest.drop k).length = rest.length - k := by simp
    have hx2 : flatOk 16384 (wrF x a (rest.take k)) := wrF_ok hx (by simp only [List.length_take]; show _ ≤ 16384; omega)
    have ih := delL3 m0 hm bufs needs1 R hR hRl l (a + n) (i + 1) nf (wrF x a (rest.take k)) (rest.drop k) (out ++ [UInt32.ofNat k]) hx2 d3 hok2 (by omega) (by simp at hf; omega) (by omega) (by simp [ho]) (by omega)
    rw [ih, hl2]
    have xl : x.length = 16384 := hx.2.2
    have ef : fillN rest.length (n :: l) = k :: fillN (rest.length - k) l := by simp only [fillN, hk]
    rw [ef, List.map_cons, List.append_assoc, List.singleton_append]
    refine congrArg (fun t => some (out ++ UInt32.ofNat k :: (fillN (rest.length - k) l).map UInt32.ofNat, (0 : Int), [t])) ?_
    by_cases c : rest.length ≤ n
    · have : k = rest.length := by omega
      have z : min (rest.length - k) (sumL l) = 0 := by omega
      have z2 : min rest.length (sumL (n :: l)) = rest.length := by rw [sumL_c]; omega
      rw [z, z2, this, List.take_zero, wrF_nil]
    · have kn : k = n := by omega
      have z2 : min rest.length (sumL (n :: l)) = n + min (rest.length - k) (sumL l) := by rw [sumL_c]; omega
      rw [z2, kn]
      have e4 : wrF (wrF x a (rest.take n)) (a + n) ((rest.drop n).take (min (rest.length - n) (sumL l))) = wrF x a (rest.take (n + min (rest.length - n) (sumL l))) := by
        have t := wrF_app (x := x) (xs := rest.take n) (ys := (rest.drop n).take (min (rest.length - n) (sumL l))) (a := a) (by simp; omega)
        rw [List.length_take, Nat.min_eq_left (by omega)] at t
        rw [t, List.take_add]
      exact e4
/-- the header of a frame that is delivered -/
def hdrD (feats : UInt64) (k : Nat) : Hdr := Hdr.mk (if feat_Has feats 1 = some true then 2 else 0) 0 0 (UInt16.ofNat k)
theorem deliver_ok {x : List UInt8} (hx : flatOk 16384 x) (feats : UInt64) (S : List Nat) (hok : okL S) (hl : S.length ≤ 1000) (hs : 100 + sumL S ≤ 16384) (f : Frame) (hf : okF f) (k : Nat)
    (hg : go (shr64 feats (15 : UInt64).toNat &&& 1 == 1) (12 + (bytesF f).length) 0 0 S = some k) :
    net_Deliver ⟨rg 16384, [x]⟩ feats (roomsF 100 S) f = some ((fillN (12 + (bytesF f).length) (S.take k)).map UInt32.ofNat, 0, [wrF x 100 (bytesH (hdrD feats k) ++ bytesF f)]) := by
  have hb : (bytesF f).length ≤ 2000 := by
    rw [bytesF_len]; have := hf.2.2.2
    have : (tagB f.Vlan).length ≤ 4 := by unfold tagB; split <;> simp
    omega
  have hk := go_le hg
  have hsum := (go_sum hg).1
  rw [Nat.sub_zero, Nat.zero_add] at hsum
  have hwi : wi ((12 : Int) + len (bytesF f)) = ((12 + (bytesF f).length : Nat) : Int) := by rw [show len (bytesF f) = (((bytesF f).length : Nat) : Int) from rfl, wi_in (by omega) (by omega)]; omega
  have hn : net_Needs feats (roomsF 100 S) (wi ((12 : Int) + len (bytesF f))) = some ((k : Int), true) := by
    rw [hwi, needs_eq feats _ _ (12 + (bytesF f).length) (by rw [rooms_len]; exact hl) (by unfold maxi; rw [if_neg (by omega)]) (by omega), rooms_rm 100 S hok hs, hg]; rfl
  have hR : sub (roomsF 100 S) (0 : Int) (k : Int) = roomsF 100 (S.take k) := by rw [sub_to, Int.toNat_natCast, rooms_take]
  have hokT := okL_take hok k
  have hsT : 100 + sumL (S.take k) ≤ 16384 := by have := sum_split k S; omega
  have htl : (S.take k).length = k := by rw [List.length_take]; omega
  unfold net_Deliver
  rw [oS (bytes_ok hf), nE rfl, oS hn]
  dsimp only
  rw [notT, brF, cD (by simp only [len, rooms_len]; omega)]
  have h1 := delL1 ⟨rg 16384, [x]⟩ feats (roomsF 100 S) (bytesF f, 0) ((k : Int), true) _ hR (in_rooms hx 100 _ hokT hsT) (by rw [rooms_len]; omega) fuel 0 (by omega) (by rw [rooms_len, fuelS]; omega)
  refine Eq.trans h1 ?_
  have hJ : ∀ q : UInt8, net_DeliverJ2 ⟨rg 16384, [x]⟩ (roomsF 100 S) ((k : Int), true) (bytesF f) (Hdr.mk q 0 0 (u16 (k : Int))) = some ((fillN (12 + (bytesF f).length) (S.take k)).map UInt32.ofNat, 0, [wrF x 100 (bytesH (Hdr.mk q 0 0 (UInt16.ofNat k)) ++ bytesF f)]) := by
    intro q
    have hbl : (bytesH (Hdr.mk q 0 0 (u16 (k : Int)))).length = 12 := rfl
    unfold net_DeliverJ2
    rw [oS (hdr_eq _), cFits (by rw [hbl]; omega), cD (by simp only [len, rooms_len]; omega)]
    have h3 := delL3 ⟨rg 16384, [x]⟩ rfl (roomsF 100 S) ((k : Int), true) _ hR (by rw [rooms_len]; omega) (S.take k) 100 0 fuel x (bytesH (Hdr.mk q 0 0 (u16 (k : Int))) ++ bytesF f) [] hx (by rw [List.drop_zero]) hokT hsT (by rw [fuelS]; omega) (by rw [List.length_append, hbl]; omega) rfl (by omega)
    refine Eq.trans h3 ?_
    rw [List.length_append, hbl, Nat.min_eq_left hsum, List.take_of_length_le (l := bytesH (Hdr.mk q 0 0 (u16 (k : Int))) ++ bytesF f) (by rw [List.length_append, hbl]; omega), u16_of]
    rfl
  obtain ⟨b, hb1⟩ := hasG_eq feats
  rw [oS hb1]
  unfold hdrD
  rw [hb1]
  cases b with
  | true => rw [bT rfl, if_pos rfl]; exact hJ 2
  | false => rw [bFl rfl, if_neg (by simp)]; exact hJ 0
theorem deliver_full {x : List UInt8} (feats : UInt64) (S : List Nat) (hok : okL S) (hl : S.length ≤ 1000) (hs : 100 + sumL S ≤ 16384) (f : Frame) (hf : okF f)
    (hg : go (shr64 feats (15 : UInt64).toNat &&& 1 == 1) (12 + (bytesF f).length) 0 0 S = none) :
    net_Deliver ⟨rg 16384, [x]⟩ feats (roomsF 100 S) f = some ([], 7, [x]) := by
  have hb : (bytesF f).length ≤ 2000 := by
    rw [bytesF_len]; have := hf.2.2.2
    have : (tagB f.Vlan).length ≤ 4 := by unfold tagB; split <;> simp
    omega
  have hwi : wi ((12 : Int) + len (bytesF f)) = ((12 + (bytesF f).length : Nat) : Int) := by rw [show len (bytesF f) = (((bytesF f).length : Nat) : Int) from rfl, wi_in (by omega) (by omega)]; omega
  have hn : net_Needs feats (roomsF 100 S) (wi ((12 : Int) + len (bytesF f))) = some (0, false) := by
    rw [hwi, needs_eq feats _ _ (12 + (bytesF f).length) (by rw [rooms_len]; exact hl) (by unfold maxi; rw [if_neg (by omega)]) (by omega), rooms_rm 100 S hok hs, hg]; rfl
  unfold net_Deliver
  rw [oS (bytes_ok hf), nE rfl, oS hn]
  dsimp only
  rw [notF, brT]
end Go.Proofs.Ytdaijemhibbgeaa

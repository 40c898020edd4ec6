/- The law NetdrvBack in plain words: it answers true. No condition. -/
import Derived.Test.YtgcbcnpbnonnjaaPuNetdrvDel
import Derived.Test.YtgcbcnpbnonnjaaPuNetdrvCounts
namespace Go.Proofs.Ytgcbcnpbnonnjaa
theorem lives26B : law26zlives = some true := by kernel_rfl
theorem mem26B : law26zmemory = some (rg 32768) := rfl
theorem rdF_two (x : List UInt8) (a m n : Nat) : rdF x a m ++ rdF x (a + m) n = rdF x a (m + n) := by
  unfold rdF
  rw [List.take_add, List.drop_drop]
theorem rdF_zero (x : List UInt8) (a : Nat) : rdF x a 0 = [] := by unfold rdF; exact List.take_zero
theorem rdF_far {x xs : List UInt8} {a n b : Nat} (h : a + n ≤ b) (hb : b ≤ x.length) : rdF (wrF x b xs) a n = rdF x a n := by
  unfold rdF wrF
  rw [List.append_assoc, List.drop_append_of_le_length (by rw [List.length_take]; omega), List.take_append_of_le_length (by rw [List.length_drop, List.length_take]; omega), List.drop_take, List.take_take, Nat.min_eq_left (by omega)]
theorem wof_cb {x : List UInt8} (hx : Xx 32768 x) {cuts : List Int} {a n m : Nat} (h1 : 1 ≤ n) (h2 : a + n ≤ 32768) (hm : m ≤ n) : wofF 32768 x (cbS cuts a n) (UInt32.ofNat m) = (rdF x a m, 0) := by
  unfold wofF
  have hin : inE (rg 32768) (cbS cuts a n) = 0 := inE1_zero.2 ⟨cb_good h1 h2, cb_in h1 h2⟩
  rw [if_neg (by simp [hin]), cb_wr h1 h2, r32 (by omega), if_neg (by omega), filter_allW (cb_all h1 h2), cb_gat hx h1 h2]
  unfold rdF
  rw [List.take_take, Nat.min_eq_left hm]
theorem more_cb {x : List UInt8} (hx : Xx 32768 x) (cuts : List Int) (R : List (List Seg)) (rw' : List UInt32) : ∀ (T : List Nat) (a W : Nat) (b : List UInt8), okN T → a + sumN T ≤ 32768 →
    moreF 32768 x T.length (Xw cuts a T ++ R) ((fillR W T).map UInt32.ofNat ++ rw') b = (b ++ rdF x a (min W (sumN T)), 0)
  | [], a, W, b, _, _ => by
    simp only [List.length_nil, sumN, Nat.min_zero, rdF_zero, List.append_nil]
    unfold moreF
    cases Xw cuts a [] ++ R <;> rfl
  | n :: T, a, W, b, hok, hs => by
    obtain ⟨hn1, hok2⟩ := okN_c hok
    simp only [sumN] at hs
    simp only [List.length_cons, Xw, fillR, List.map_cons, List.cons_append, sumN]
    unfold moreF
    rw [wof_cb hx hn1.1 (by omega) (Nat.min_le_right W n), if_neg (by simp), more_cb hx cuts R rw' T (a + n) (W - min W n) _ hok2 (by omega)]
    dsimp only
    refine congrArg (fun t => (t, (0 : Int))) ?_
    rw [List.append_assoc]
    congr 1
    rcases Nat.lt_or_ge W n with q | q
    · rw [Nat.min_eq_left (by omega), Nat.sub_self, Nat.zero_min, rdF_zero, List.append_nil, Nat.min_eq_left (by omega)]
    · rw [Nat.min_eq_right q, rdF_two]
      congr 1; omega
def chOk (x : List UInt8) (feats : UInt64) (a : Nat) (c : List Nat × UInt8 × Frame) : Prop :=
  okF c.2.2 ∧ 1 ≤ c.1.length ∧ c.1.length ≤ 20 ∧ (∀ r l, c.1 = r :: l → 12 ≤ r) ∧ ((XH feats (15 : UInt64).toNat &&& 1 == 1) = false → c.1.length = 1) ∧ 12 + (ZA c.2.2).length ≤ sumN c.1 ∧
    rdF x a (12 + (ZA c.2.2).length) = YL (Hdr.mk c.2.1 0 0 (UInt16.ofNat c.1.length)) ++ ZA c.2.2
theorem one_ch {x : List UInt8} (hx : Xx 32768 x) {feats : UInt64} (cuts : List Int) {a : Nat} {c : List Nat × UInt8 × Frame} (h : chOk x feats a c) (hok : okN c.1) (hs : a + sumN c.1 ≤ 32768) (R : List (List Seg)) (rw' : List UInt32) (hR : R.length = rw'.length) :
    oneF 32768 x feats (Xw cuts a c.1 ++ R) ((fillR (12 + (ZA c.2.2).length) c.1).map UInt32.ofNat ++ rw') = (c.2.2, (c.1.length : Int), 0) := by
  obtain ⟨T, q, f⟩ := c
  obtain ⟨hf, h1, h20, h12, hm, hW, hrd⟩ := h
  dsimp only at *
  have hb := bytesF_ge hf
  cases T with
  | nil => simp at h1
  | cons n T =>
    obtain ⟨hn1, hok2⟩ := okN_c hok
    simp only [sumN] at hs hW
    have hn12 := h12 n T rfl
    simp only [List.length_cons] at h20 hm hrd
    generalize hWW : 12 + (ZA f).length = W at *
    have hmw : 12 ≤ min W n := by omega
    have hwf : wofF 32768 x (cbS cuts a n) (UInt32.ofNat (min W n)) = (rdF x a (min W n), 0) := wof_cb hx hn1.1 (by omega) (Nat.min_le_right W n)
    have hrd1 : rdF x a (min W n) = YL (Hdr.mk q 0 0 (UInt16.ofNat (T.length + 1))) ++ (ZA f).take (min W n - 12) := by
      have : rdF x a (min W n) = (rdF x a W).take (min W n) := by
        unfold rdF; rw [List.take_take]; congr 1; omega
      rw [this, hrd, List.take_append, List.take_of_length_le (by rw [show (YL (Hdr.mk q 0 0 (UInt16.ofNat (T.length + 1)))).length = 12 from rfl]; omega)]
      rfl
    have hrh : rdH (rdF x a (min W n)) = (Hdr.mk q 0 0 (UInt16.ofNat (T.length + 1)), 0) := by
      have e := rdH_eq (rdF x a (min W n))
      rw [← refReadHdr_eq, hrd1, rreadHdr_app] at e
      rw [hrd1]
      exact (Option.some.inj e).symm
    have hcnt : cntF feats (Hdr.mk q 0 0 (UInt16.ofNat (T.length + 1))) = ((T.length + 1 : Nat) : Int) := by
      unfold cntF
      split
      · simp only [i16, UInt16.toNat_ofNat']; omega
      · rename_i z
        have := hm (by simpa using z)
        omega
    have hmore := more_cb hx cuts R rw' T (a + n) (W - min W n) (rdF x a (min W n)) hok2 (by omega)
    have hall : rdF x a (min W n) ++ rdF x (a + n) (min (W - min W n) (sumN T)) = rdF x a W := by
      rcases Nat.lt_or_ge W n with z | z
      · rw [Nat.min_eq_left (by omega), Nat.sub_self, Nat.zero_min, rdF_zero, List.append_nil]
      · rw [Nat.min_eq_right z, rdF_two]
        congr 1; omega
    rw [hall, hrd] at hmore
    simp only [Xw, fillR, List.map_cons, List.cons_append]
    unfold oneF
    dsimp only
    rw [if_neg (by simp only [List.length_append, Xt, List.length_map, fillR_len]; omega), hwf]
    dsimp only
    rw [if_neg (by simp), hrh]
    dsimp only
    rw [if_neg (by simp), hcnt, if_neg (by omega), if_neg (by rw [List.length_append, Xt]; omega), Int.toNat_natCast, show T.length + 1 - 1 = T.length by omega, hmore]
    dsimp only
    have hfr : rdFr ((YL (Hdr.mk q 0 0 (UInt16.ofNat (T.length + 1))) ++ ZA f).drop 12) = (f, 0) := by
      rw [List.drop_left' (show (YL (Hdr.mk q 0 0 (UInt16.ofNat (T.length + 1)))).length = 12 from rfl)]
      have e := rdFr_eq (ZA f) (by omega)
      rw [read_back hf] at e
      exact (Option.some.inj e).symm
    rw [if_neg (by simp), hfr]
    dsimp only
    rw [if_neg (by simp)]
    rfl
def allOk (x : List UInt8) (feats : UInt64) : Nat → List (List Nat × UInt8 × Frame) → Prop
  | _, [] => True
  | a, c :: cs => chOk x feats a c ∧ allOk x feats (a + sumN c.1) cs
def szC : List (List Nat × UInt8 × Frame) → List Nat
  | [] => []
  | c :: cs => c.1 ++ szC cs
def wrC : List (List Nat × UInt8 × Frame) → List UInt32
  | [] => []
  | c :: cs => (fillR (12 + (ZA c.2.2).length) c.1).map UInt32.ofNat ++ wrC cs
theorem wrC_len : ∀ cs : List (List Nat × UInt8 × Frame), (wrC cs).length = (szC cs).length
  | [] => rfl
  | c :: cs => by simp only [wrC, szC, List.length_append, List.length_map, fillR_len, wrC_len cs]
theorem szC_snoc : ∀ (cs : List (List Nat × UInt8 × Frame)) (c), szC (cs ++ [c]) = szC cs ++ c.1
  | [], c => by simp [szC]
  | d :: cs, c => by simp only [List.cons_append, szC, szC_snoc cs c, List.append_assoc]
theorem wrC_snoc : ∀ (cs : List (List Nat × UInt8 × Frame)) (c), wrC (cs ++ [c]) = wrC cs ++ (fillR (12 + (ZA c.2.2).length) c.1).map UInt32.ofNat
  | [], c => by simp [wrC]
  | d :: cs, c => by simp only [List.cons_append, wrC, wrC_snoc cs c, List.append_assoc]
theorem all_snoc {x : List UInt8} {feats : UInt64} : ∀ {cs : List (List Nat × UInt8 × Frame)} {c} {a : Nat}, allOk x feats a cs → chOk x feats (a + sumN (szC cs)) c → allOk x feats a (cs ++ [c])
  | [], c, a, _, h => by
    simp only [szC, sumN, Nat.add_zero] at h
    exact ⟨h, trivial⟩
  | d :: cs, c, a, h, h2 => by
    refine ⟨h.1, all_snoc h.2 ?_⟩
    simp only [szC, sumN_app] at h2
    rw [Nat.add_assoc]; exact h2
theorem all_wr {x xs : List UInt8} {feats : UInt64} {b : Nat} (hb : b ≤ x.length) : ∀ {cs : List (List Nat × UInt8 × Frame)} {a : Nat}, a + sumN (szC cs) ≤ b → allOk x feats a cs → allOk (wrF x b xs) feats a cs
  | [], a, _, _ => trivial
  | c :: cs, a, h, h2 => by
    simp only [szC, sumN_app] at h
    obtain ⟨⟨k1, k2, k3, k4, k5, k6, k7⟩, h3⟩ := h2
    refine ⟨⟨k1, k2, k3, k4, k5, k6, ?_⟩, all_wr hb (by omega) h3⟩
    rw [rdF_far (by omega) hb]; exact k7
theorem col_ch {x : List UInt8} (hx : Xx 32768 x) (feats : UInt64) (cuts : List Int) : ∀ (cs : List (List Nat × UInt8 × Frame)) (k a : Nat) (out : List Frame) (n : Int), okN (szC cs) → a + sumN (szC cs) ≤ 32768 → (szC cs).length ≤ k → allOk x feats a cs →
    colF 32768 x feats k (Xw cuts a (szC cs)) (wrC cs) out n = (out ++ cs.map (fun c => c.2.2), n + ((szC cs).length : Int), 0)
  | [], k, a, out, n, _, _, _, _ => by
    have e : colF 32768 x feats k (Xw cuts a (szC [])) (wrC []) out n = (out, n, 0) := by
      cases k with
      | zero => rfl
      | succ k => unfold colF; rw [if_pos (show (Xw cuts a (szC [])).length = 0 from rfl)]
    rw [e]; simp [szC]
  | c :: cs, k, a, out, n, hok, hs, hk, hall => by
    obtain ⟨hc, hall2⟩ := hall
    simp only [szC, sumN_app, List.length_append] at hs hk
    have hok1 : okN c.1 := fun m hm => hok m (List.mem_append_left _ hm)
    have hok2 : okN (szC cs) := fun m hm => hok m (List.mem_append_right _ hm)
    have h1 := hc.2.1
    have one := one_ch hx cuts hc hok1 (by omega) (Xw cuts (a + sumN c.1) (szC cs)) (wrC cs) (by rw [Xt, wrC_len])
    cases k with
    | zero => omega
    | succ k =>
      have ih := col_ch hx feats cuts cs k (a + sumN c.1) (out ++ [c.2.2]) (n + (c.1.length : Int)) hok2 (by omega) (by omega) hall2
      have hl1 : (Xw cuts a c.1).length = c.1.length := Xt ..
      have hl2 : ((fillR (12 + (ZA c.2.2).length) c.1).map UInt32.ofNat).length = c.1.length := by rw [List.length_map, fillR_len]
      simp only [szC, wrC, cutBB_app]
      unfold colF
      rw [if_neg (by rw [List.length_append]; omega), one]
      dsimp only
      rw [if_neg (by simp), Int.toNat_natCast, List.drop_left' hl1, List.drop_left' hl2, ih]
      simp only [List.append_assoc, List.singleton_append, List.map_cons, List.length_append]
      refine congrArg (fun t => (out ++ c.2.2 :: cs.map (fun c => c.2.2), t, (0 : Int))) ?_
      omega
theorem sameFL (l : List Frame) (hl : l.length ≤ 1000) : ∀ (nf i : Nat), i ≤ l.length → l.length - i < nf → XA l l nf (i : Int) = some true
  | 0, i, _, h => absurd h (Nat.not_lt_zero _)
  | nf + 1, i, hi, hn => by
    unfold XA YD
    by_cases h : i < l.length
    · rw [bP (by simp only [len]; omega), oS (ZF (getq h)), oS (ZF (getq h)), oS (kframe_refl _), notT, brF, Zt (by omega)]
      exact sameFL l hl nf (i + 1) (by omega) (by omega)
    · rw [bN (by simp only [len]; omega)]
theorem sameF_eq (l : List Frame) (hl : l.length ≤ 1000) : YK l l = some true := by
  unfold YK
  rw [nE rfl]
  exact sameFL l hl fuel 0 (by omega) (by rw [fuelS]; omega)
theorem backL2 (l : List Frame) (hl : l.length ≤ 20) (feats : UInt64) (cuts : List Int) (S : List Nat) (hok : okN S) (hS : S.length ≤ 20) (hs : sumN S ≤ 32768) (m1 : dumbwaiterref02_Mem) (m2 : gmem_Mem) (hm1 : m1.L = rg 32768) (hm2 : m2.l = rg 32768) (z : List UInt8) (hz : Xx 32768 z) :
    ∀ (nf i : Nat) (x : List UInt8) (cs : List (List Nat × UInt8 × Frame)) (S' : List Nat), Xx 32768 x → i ≤ l.length → l.length - i < nf → S = szC cs ++ S' → allOk x feats 0 cs → cs.length ≤ i →
      Zz l feats m1 m2 nf [x] [z] (Xw cuts 0 S) (cs.map (fun c => c.2.2)) (wrC cs) (i : Int) = some true
  | 0, i, x, cs, S', _, _, h, _, _, _ => absurd h (Nat.not_lt_zero _)
  | nf + 1, i, x, cs, S', hx, hi, hn, hSe, hall, hcs => by
    have hxl : x.length = 32768 := hx.2.2
    have hlw := wrC_len cs
    have hlS : S.length = (szC cs).length + S'.length := by rw [hSe, List.length_append]
    have hsS : sumN S = sumN (szC cs) + sumN S' := by rw [hSe, sumN_app]
    have hok1 : okN (szC cs) := fun m hm => hok m (by rw [hSe]; exact List.mem_append_left _ hm)
    have hok2 : okN S' := fun m hm => hok m (by rw [hSe]; exact List.mem_append_right _ hm)
    have hcb : Xw cuts 0 S = Xw cuts 0 (szC cs) ++ Xw cuts (sumN (szC cs)) S' := by rw [hSe, cutBB_app, Nat.zero_add]
    have hbl : (Xw cuts 0 S).length = S.length := Xt ..
    have hcl : (Xw cuts 0 (szC cs)).length = (wrC cs).length := by rw [Xt, hlw]
    unfold Zz XX
    by_cases h : i < l.length
    · rw [bP (by simp only [len]; omega), cD3 (by simp only [len]; omega), oS (ZF (getq h)), YN]
      have hd : (Xw cuts 0 S).drop (len (wrC cs)).toNat = Xw cuts (sumN (szC cs)) S' := by
        rw [hcb]; simp only [len, Int.toNat_natCast]; exact List.drop_left' hcl
      obtain ⟨r, hr, hres⟩ := rdeliver hx feats cuts (sumN (szC cs)) S' hok2 (by omega) (by omega) l[i]
      rw [hd, hm1, oS hr]
      unfold Xa
      rw [Zt (by omega)]
      rcases hres with ⟨he, hrow⟩ | ⟨k, q, hf, hg, hre⟩
      · rw [nF he, hrow]
        exact backL2 l hl feats cuts S hok hS hs m1 m2 hm1 hm2 z hz nf (i + 1) x cs S' hx (by omega) (by omega) hSe hall (by omega)
      · obtain ⟨g1, g2, g3, g4, g5⟩ := goR_le hg
        rw [Nat.sub_zero] at g3
        have hb := bytesF_ge hf
        have hlk : (S'.take k).length = k := by rw [List.length_take]; omega
        have hsk : sumN (S'.take k) ≤ sumN S' := by
          have := sumN_app (S'.take k) (S'.drop k)
          rw [List.take_append_drop] at this; omega
        have hdl : (YL (Hdr.mk q 0 0 (UInt16.ofNat k)) ++ ZA l[i]).length = 12 + (ZA l[i]).length := by rw [List.length_append]; rfl
        have hx2 : Xx 32768 (wrF x (sumN (szC cs)) (YL (Hdr.mk q 0 0 (UInt16.ofNat k)) ++ ZA l[i])) := wrF_ok hx (by rw [hdl]; show _ ≤ 32768; omega)
        have hch : chOk (wrF x (sumN (szC cs)) (YL (Hdr.mk q 0 0 (UInt16.ofNat k)) ++ ZA l[i])) feats (0 + sumN (szC cs)) (S'.take k, q, l[i]) := by
          refine ⟨hf, by dsimp only; omega, by dsimp only; omega, ?_, fun z => by dsimp only; have := g5 z; omega, by dsimp only; omega, ?_⟩
          · intro r' l' e
            dsimp only at e
            cases S' with
            | nil => simp at e
            | cons n S' =>
              have := g4 rfl n S' rfl
              cases k with
              | zero => omega
              | succ k => rw [List.take_succ_cons] at e; cases e; exact this
          · dsimp only
            have := rdF_wrF (x := x) (xs := YL (Hdr.mk q 0 0 (UInt16.ofNat k)) ++ ZA l[i]) (a := sumN (szC cs)) (by rw [hdl]; omega)
            rw [hdl] at this
            rw [hlk, Nat.zero_add]; exact this
        rw [hre]
        dsimp only
        rw [nE rfl, oS (ZF (getq h)), Kn (by simp; omega), Kn (by rw [hlw, List.length_map, fillR_len]; omega)]
        have ih := backL2 l hl feats cuts S hok hS hs m1 m2 hm1 hm2 z hz nf (i + 1) _ (cs ++ [(S'.take k, q, l[i])]) (S'.drop k) hx2 (by omega) (by omega) (by rw [szC_snoc, List.append_assoc, List.take_append_drop]; exact hSe) (all_snoc (all_wr (by omega) (by omega) hall) hch) (by rw [List.length_append]; simp; omega)
        rw [wrC_snoc, List.map_append] at ih
        exact ih
    · have hw := write1_eq hz 0 x (by rw [hxl]; exact Nat.le_refl _)
      rw [show (0 : UInt64).toNat = 0 from rfl, wrF_all (by have := hz.2.2; rw [this, hxl]; rfl)] at hw
      rw [bN (by simp only [len]; omega), hm1, hm2, oS (rimage1 hx), oS hw]
      dsimp only
      rw [cnE rfl, cD3 (by simp only [len]; omega), sub_to]
      have hd : (Xw cuts 0 S).take (len (wrC cs)).toNat = Xw cuts 0 (szC cs) := by
        rw [hcb]; simp only [len, Int.toNat_natCast]; exact List.take_left' hcl
      have hy : ∀ (T : List Nat) (a : Nat), okN T → a + sumN T ≤ 32768 → ∀ y ∈ Xw cuts a T, y.length ≤ 1000 := by
        intro T
        induction T with
        | nil => intro a _ _ y hy; cases hy
        | cons n T ih =>
          intro a ho hsm y hy
          obtain ⟨hn1, ho2⟩ := okN_c ho
          simp only [sumN] at hsm
          rcases List.mem_cons.1 hy with e | e
          · rw [e]; have := (cb_good (cuts := cuts) hn1.1 (show a + n ≤ 32768 by omega)).1; omega
          · exact ih (a + n) ho2 (by omega) y e
      rw [hd, oS (kbufs_eq _ (by rw [Xt]; omega) (hy _ 0 hok1 (by omega)))]
      have hcol : YJ ⟨rg 32768, [x]⟩ feats (Xw cuts 0 (szC cs)) (wrC cs) = some (cs.map (fun c => c.2.2), ((szC cs).length : Int), 0) := by
        unfold YJ
        rw [nE (by simp only [len]; omega)]
        have h1 := colL hx feats fuel 20 (Xw cuts 0 (szC cs)) (wrC cs) [] 0 (by rw [Xt]; omega) (by rw [fuelS]; omega) hcl (by omega) (by simp) (by omega) (by rw [Xt]; omega)
        rw [col_ch hx feats cuts cs 20 0 [] 0 hok1 (by omega) (by omega) hall] at h1
        rw [h1, List.nil_append, Int.zero_add]
      rw [oS hcol, cE rfl, cE (by simp only [len]; omega), oS (sameF_eq _ (by rw [List.length_map]; omega)), chkT]
theorem backL1 (l : List Frame) (hl : l.length ≤ 20) (sizes : List Int) (hsz : sizes.length ≤ 20) (cuts : List Int) (hc : cuts.length ≤ 1000) (feats : UInt64) (m1 : dumbwaiterref02_Mem) (m2 : gmem_Mem) (hm1 : m1.L = rg 32768) (hm2 : m2.l = rg 32768) (z : List UInt8) (hz : Xx 32768 z) (hb1 : m1.B = [z]) (hb2 : m2.b = [z]) :
    ∀ (nf i : Nat) (S : List Nat), i ≤ sizes.length → sizes.length - i < nf → S.length = i → okN S → sumN S ≤ 1600 * i →
      ZZ l sizes cuts feats m1 m2 nf (Xw cuts 0 S) (UInt64.ofNat (sumN S)) (i : Int) = some true
  | 0, i, S, _, h, _, _, _ => absurd h (Nat.not_lt_zero _)
  | nf + 1, i, S, hi, hn, hSl, hok, hs => by
    unfold ZZ XY
    by_cases h : i < sizes.length
    · obtain ⟨k, hk1, hk2⟩ := pick_eq sizes[i] 1600 (by decide) (by decide)
      rw [show ((1600 : Nat) : Int) = 1600 from rfl] at hk1
      have w1 : wi ((1 : Int) + (k : Int)) = ((k + 1 : Nat) : Int) := by rw [wi_in (by omega) (by omega)]; omega
      have hp := post_eq (UInt64.ofNat (sumN S)) ((k + 1 : Nat) : Int) cuts (by omega)
      rw [Int.toNat_natCast, if_pos ⟨by omega, by omega, cb_good0 (by omega) (by omega)⟩] at hp
      have ht := cb_tot (cuts := cuts) (a := sumN S) (n := k + 1) (by omega) (by omega)
      unfold cbS at ht
      rw [bP (by simp only [len]; omega), oS (ZF (getq h)), oS hk1]
      rw [w1, oS hp, oS (refTotal _), ht, u64_of, cnE rfl, Kn (by simp only [Xt, List.length_singleton]; omega), ← UInt64.ofNat_add, Zt (by omega)]
      have ih := backL1 l hl sizes hsz cuts hc feats m1 m2 hm1 hm2 z hz hb1 hb2 nf (i + 1) (S ++ [k + 1]) (by omega) (by omega) (by rw [List.length_append, hSl]; rfl) (fun m hm => by
        rcases List.mem_append.1 hm with e | e
        · exact hok m e
        · rw [List.mem_singleton] at e; omega) (by rw [sumN_app]; simp only [sumN]; omega)
      rw [cutBB_app, sumN_app] at ih
      simp only [Xw, sumN, Nat.zero_add, Nat.add_zero] at ih
      exact ih
    · rw [bN (by simp only [len]; omega), hb1, hb2]
      exact backL2 l hl feats cuts S hok (by omega) (by omega) m1 m2 hm1 hm2 z hz fuel 0 z [] S hz (by omega) (by rw [fuelS]; omega) rfl trivial (by simp)
theorem t_law26zNetdrvBack (l : List Frame) (sizes : List Int) (cuts : List Int) (feats : UInt64) : YR l sizes cuts feats = some true := by
  unfold YR
  rw [oS lives26B, notT, notF, chkT]
  by_cases h1 : len l > 20
  · rw [bP h1]
  rw [bN h1]
  by_cases h2 : len sizes > 20
  · rw [bP h2]
  rw [bN h2]
  by_cases h3 : len cuts > 40
  · rw [bP h3]
  rw [bN h3]
  simp only [len] at h1 h2 h3
  have hz : Xx 32768 (z1 32768) := z1_ok (n := 32768) (by decide) (by decide)
  rw [oS mem26B, oS (rnew1 (n := 32768) (by decide) (by decide))]
  dsimp only
  rw [onS, oS mem26B, oS (new1_eq (n := 32768) (by decide) (by decide))]
  dsimp only
  rw [onS, cnE rfl, cnE rfl]
  exact backL1 l (by omega) sizes (by omega) cuts (by omega) feats _ _ rfl rfl (z1 32768) hz rfl rfl fuel 0 [] (by omega) (by rw [fuelS]; omega) rfl (fun m hm => by cases hm) (by simp [sumN])
end Go.Proofs.Ytgcbcnpbnonnjaa

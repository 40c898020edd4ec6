/- Frames that are read out of buffers. No condition. -/
import Derived.Test.YtgcbcnpbnonnjaaPuOff
import Derived.Test.YtgcbcnpbnonnjaaPuFrameRef
namespace Go.Proofs.Ytgcbcnpbnonnjaa
theorem cD2 {P : Prop} [Decidable P] {ρ : Type} {k : Option ρ} (h : P) : chk (decide P) k = k := by rw [decide_eq_true h]; rfl
def wofF (N : UInt64) (x : List UInt8) (l : List Seg) (n : UInt32) : List UInt8 × Int :=
  if inE (rg N) l ≠ 0 then ([], inE (rg N) l) else if wrS l < n.toNat then ([], 4) else ((gatF x (l.filter (fun s => s.Write == true))).take n.toNat, 0)
theorem wofL {N : UInt64} {x : List UInt8} (hx : Xx N x) (l : List Seg) (h : inE (rg N) l = 0) (n : UInt32) (hn2 : n.toNat ≤ wrS l) :
    ∀ (nf i : Nat), i ≤ (l.filter (fun s => s.Write == true)).length → (l.filter (fun s => s.Write == true)).length - i < nf →
      ZY ⟨rg N, [x]⟩ n (l.filter (fun s => s.Write == true)) nf (((l.filter (fun s => s.Write == true)).take i).map offS ++ (l.filter (fun s => s.Write == true)).drop i) (i : Int) = some ((gatF x (l.filter (fun s => s.Write == true))).take n.toNat, 0)
  | 0, i, _, q => absurd q (Nat.not_lt_zero _)
  | nf + 1, i, hi, hn => by
    obtain ⟨hg, hin⟩ := inE1_zero.1 h
    have gp := good_filter (w := true) hg
    have ip := inF_filter (p := fun s => s.Write == true) hin
    have ih := wofL hx l h n hn2 nf (i + 1)
    generalize hpp : l.filter (fun s => s.Write == true) = p at *
    have h64 := gp.1
    unfold ZY XW
    by_cases hlt2 : i < p.length
    · have e : Seg.mk p[i].At p[i].Len false = offS p[i] := rfl
      rw [bP (by simp only [len]; omega), oS (ZF (off_at hlt2)), Int.toNat_natCast, e, set_off hlt2, Zt (by omega)]
      exact ih (by omega) (by omega)
    · have go := off_good gp
      have io := off_in ip
      have hc : seg_Cut (p.map offS) 0 n.toUInt64 = some (takeS n.toNat (p.map offS)) := by
        rw [segCut_eq, UInt32.toNat_toUInt64]
        unfold cutS
        rw [if_pos go, show (0 : UInt64).toNat = 0 from rfl, drop0]
      rw [bN (by simp only [len]; omega), List.take_of_length_le (by omega), List.drop_of_length_le (by omega), List.append_nil]
      rw [oS hc, oS (gather1 hx _ (good_take _ go) (inF_take io)), filter_allW (allW_take (fun s hs => by obtain ⟨y, _, rfl⟩ := List.mem_map.1 hs; rfl)), gat_take (by rw [hx.2.2]; exact io), off_gat]
theorem wof_eq {N : UInt64} {x : List UInt8} (hx : Xx N x) (l : List Seg) (n : UInt32) : Yf ⟨rg N, [x]⟩ l n = some (wofF N x l n) := by
  unfold Yf wofF
  rw [oS (segIn_eq _ (flat_mem hx) l)]
  by_cases h : inE (rg N) l = 0
  · obtain ⟨hg, hin⟩ := inE1_zero.1 h
    have hb := sum_rw l
    have hlt := hg.2.2
    have gp := good_filter (w := true) hg
    have ht : (totS (l.filter (fun s => s.Write == true))).2 = UInt64.ofNat (wrS l) := by
      unfold totS; rw [if_pos gp]
      have h1 := sum_rw (l.filter (fun s => s.Write == true))
      have h2 := sum_wr l
      have h3 : rdS (l.filter (fun s => s.Write == true)) = 0 := by
        have := sum_rd (l.filter (fun s => s.Write == true))
        rw [filter_allN (w := false) (allW_filter true l)] at this
        exact this.symm
      dsimp only; congr 1; omega
    have en : (UInt64.ofNat (wrS l)).toNat = wrS l := by rw [UInt64.toNat_ofNat']; omega
    rw [nE h, if_neg (by simp [h]), oS (part_eq hg true), oS (segTotal _), ht]
    by_cases h2 : wrS l < n.toNat
    · rw [bP (by rw [GT.gt, lt64, en, UInt32.toNat_toUInt64]; exact h2), if_pos h2]
    · rw [bN (by rw [GT.gt, lt64, en, UInt32.toNat_toUInt64]; exact h2), if_neg h2]
      have := wofL hx l h n (by omega) fuel 0 (by omega) (by rw [fuelS]; have := gp.1; omega)
      rw [List.take_zero, List.drop_zero] at this
      exact this
  · rw [nF h, if_pos h]
theorem wof_len {N : UInt64} {x : List UInt8} (hx : Xx N x) (l : List Seg) (n : UInt32) : (wofF N x l n).1.length < 4294967296 := by
  unfold wofF
  have := n.toNat_lt
  split
  · exact Nat.zero_lt_succ _
  · split
    · exact Nat.zero_lt_succ _
    · simp only [List.length_take]; omega
def moreF (N : UInt64) (x : List UInt8) : Nat → List (List Seg) → List UInt32 → List UInt8 → List UInt8 × Int
  | 0, _, _, b => (b, 0)
  | k + 1, l :: ls, n :: ns, b => if (wofF N x l n).2 ≠ 0 then (b, (wofF N x l n).2) else moreF N x k ls ns (b ++ (wofF N x l n).1)
  | _ + 1, _, _, b => (b, 4)
def rdH (b : List UInt8) : Hdr × Int := (Zp b).getD (Hdr.mk 0 0 0 0, 4)
def rdFr (b : List UInt8) : Frame × Int := (XB b).getD (zF, 4)
theorem rdH_eq (b : List UInt8) : Zp b = some (rdH b) := by
  obtain ⟨r, hr⟩ := readHdr_some b
  unfold rdH; rw [hr]; rfl
theorem rdFr_eq (b : List UInt8) (h : b.length ≤ 80000000000000) : XB b = some (rdFr b) := by
  obtain ⟨r, hr⟩ := read_some b h
  unfold rdFr; rw [hr]; rfl
theorem rdH_len {b : List UInt8} (h : (rdH b).2 = 0) : 12 ≤ b.length := by
  rcases Nat.lt_or_ge b.length 12 with q | q
  · exfalso
    have := rdH_eq b
    unfold Zp at this
    rw [bP (by simp only [len]; omega)] at this
    have e := Option.some.inj this
    rw [← e] at h; cases h
  · exact q
def cntF (feats : UInt64) (h : Hdr) : Int := if (XH feats (15 : UInt64).toNat &&& 1 == 1) = true then i16 h.Buffers else 1
def oneF (N : UInt64) (x : List UInt8) (feats : UInt64) (bufs : List (List Seg)) (written : List UInt32) : Frame × Int × Int :=
  match bufs, written with
  | l :: ls, n :: ns =>
    if ls.length ≠ ns.length then (zF, 0, 2)
    else if (wofF N x l n).2 ≠ 0 then (zF, 0, (wofF N x l n).2)
    else if (rdH (wofF N x l n).1).2 ≠ 0 then (zF, 0, 4)
    else if cntF feats (rdH (wofF N x l n).1).1 < 1 then (zF, 0, 4)
    else if cntF feats (rdH (wofF N x l n).1).1 > (ls.length : Int) + 1 then (zF, 0, 4)
    else if (moreF N x ((cntF feats (rdH (wofF N x l n).1).1).toNat - 1) ls ns (wofF N x l n).1).2 ≠ 0 then (zF, 0, (moreF N x ((cntF feats (rdH (wofF N x l n).1).1).toNat - 1) ls ns (wofF N x l n).1).2)
    else if (rdFr ((moreF N x ((cntF feats (rdH (wofF N x l n).1).1).toNat - 1) ls ns (wofF N x l n).1).1.drop 12)).2 ≠ 0 then (zF, 0, (rdFr ((moreF N x ((cntF feats (rdH (wofF N x l n).1).1).toNat - 1) ls ns (wofF N x l n).1).1.drop 12)).2)
    else ((rdFr ((moreF N x ((cntF feats (rdH (wofF N x l n).1).1).toNat - 1) ls ns (wofF N x l n).1).1.drop 12)).1, cntF feats (rdH (wofF N x l n).1).1, 0)
  | _, _ => (zF, 0, 2)
theorem hasO_eq (f : UInt64) : feat_Has f 15 = some (XH f (15 : UInt64).toNat &&& 1 == 1) := by
  unfold feat_Has
  rw [bP (by decide), bP (by decide), cD2 (by decide)]; rfl
theorem from1_eq {N : UInt64} {x : List UInt8} (hx : Xx N x) (l : List Seg) (ls : List (List Seg)) (n : UInt32) (ns : List UInt32) (h : ls.length = ns.length) : YB (l :: ls) ⟨rg N, [x]⟩ (n :: ns) = some ((wofF N x l n).1, some ⟨ls, ns⟩, (wofF N x l n).2) := by
  unfold YB
  have e1 : sub (l :: ls) (1 : Int) (len (l :: ls)) = ls := by rw [YN]; rfl
  have e2 : sub (n :: ns) (1 : Int) (len (n :: ns)) = ns := by rw [YN]; rfl
  rw [bF (by simp only [len, List.length_cons]; omega), oS (show ix (l :: ls) 0 = some l from rfl), oS (show ix (n :: ns) 0 = some n from rfl), oS (wof_eq hx l n), cD2 (by simp only [len, List.length_cons]; omega), cD2 (by simp only [len, List.length_cons]; omega), e1, e2]
  rfl
theorem oneL {N : UInt64} {x : List UInt8} (hx : Xx N x) (cnt : Int) (c0 : Nat) (hc : cnt = (c0 : Int)) (hc1 : c0 ≤ 10000) (D S : A6 UInt8) (V : Int) (T : UInt16) (Da : List UInt8) :
    ∀ (nf k i : Nat) (b : List UInt8) (ls : List (List Seg)) (ns : List UInt32), i + k + 1 = c0 → k < nf → ls.length = ns.length → k ≤ ls.length → b.length ≤ 4294967296 * (i + 1) → 12 ≤ b.length →
      YY ⟨rg N, [x]⟩ cnt nf D S V T Da b (some ⟨ls, ns⟩) (i : Int) = some (if (moreF N x k ls ns b).2 ≠ 0 then (zF, 0, (moreF N x k ls ns b).2) else
        if (rdFr ((moreF N x k ls ns b).1.drop 12)).2 ≠ 0 then (zF, 0, (rdFr ((moreF N x k ls ns b).1.drop 12)).2) else ((rdFr ((moreF N x k ls ns b).1.drop 12)).1, cnt, 0))
  | 0, k, i, b, ls, ns, _, h, _, _, _, _ => absurd h (Nat.not_lt_zero _)
  | nf + 1, k, i, b, ls, ns, hi, hk, he, hkl, hb, h12 => by
    have w1 : wi (cnt - 1) = ((c0 - 1 : Nat) : Int) := by rw [hc, wi_in (by omega) (by omega)]; omega
    unfold YY netdrv_OneL2B
    rw [w1]
    clear w1
    cases k with
    | zero =>
      rw [bN (by omega), cD2 (by simp only [len]; omega), YN]
      have e : moreF N x 0 ls ns b = (b, 0) := by cases ls <;> cases ns <;> rfl
      rw [e, if_neg (by simp)]
      dsimp only
      rw [show (12 : Int).toNat = 12 from rfl, oS (rdFr_eq _ (by simp; omega))]
      by_cases hr : (rdFr (b.drop 12)).2 = 0
      · rw [nE hr, if_neg (by simp [hr])]
      · rw [nF hr, if_pos hr]; rfl
    | succ k =>
      cases ls with
      | nil => simp at hkl
      | cons l ls =>
        cases ns with
        | nil => simp at he
        | cons n ns =>
          simp only [List.length_cons] at he hkl
          have hl := wof_len hx l n
          rw [bP (by omega), obS]
          dsimp only
          rw [oS (from1_eq hx l ls n ns (by omega))]
          dsimp only
          by_cases hr : (wofF N x l n).2 = 0
          · rw [nE hr, Kn (by omega), Zt (by omega)]
            have e : moreF N x (k + 1) (l :: ls) (n :: ns) b = moreF N x k ls ns (b ++ (wofF N x l n).1) := by
              conv => lhs; unfold moreF
              rw [if_neg (by simp [hr])]
            rw [e]
            exact oneL hx cnt c0 hc hc1 D S V T Da nf k (i + 1) _ ls ns (by omega) (by omega) (by omega) (by omega) (by rw [List.length_append]; omega) (by rw [List.length_append]; omega)
          · have e : moreF N x (k + 1) (l :: ls) (n :: ns) b = (b, (wofF N x l n).2) := by
              conv => lhs; unfold moreF
              rw [if_pos hr]
            rw [nF hr, e, if_pos hr]; rfl
theorem one_eq {N : UInt64} {x : List UInt8} (hx : Xx N x) (feats : UInt64) (bufs : List (List Seg)) (written : List UInt32) (hl : bufs.length ≤ 1000) (hl2 : written.length ≤ 1000) : netdrv_One ⟨rg N, [x]⟩ feats bufs written = some (oneF N x feats bufs written) := by
  unfold netdrv_One
  cases bufs with
  | nil => rw [bE (show len ([] : List (List Seg)) = 0 from rfl)]; cases written <;> rfl
  | cons l ls =>
    rw [bF (by simp only [len, List.length_cons]; omega)]
    cases written with
    | nil => rw [nF (by simp only [len, List.length_cons, List.length_nil]; omega)]; rfl
    | cons n ns =>
      simp only [List.length_cons] at hl hl2
      unfold oneF
      dsimp only
      by_cases he : ls.length = ns.length
      · rw [nE (by simp only [len, List.length_cons]; omega), if_neg (by simp [he])]
        have hfr : netdrv_from ⟨rg N, [x]⟩ (l :: ls) (n :: ns) = some (some ⟨l :: ls, n :: ns⟩) := rfl
        rw [oS hfr, obS]
        dsimp only
        rw [oS (from1_eq hx l ls n ns he)]
        dsimp only
        by_cases h1 : (wofF N x l n).2 = 0
        · rw [nE h1, if_neg (by simp [h1]), oS (rdH_eq _)]
          by_cases h2 : (rdH (wofF N x l n).1).2 = 0
          · have h12 := rdH_len h2
            have hwl := wof_len hx l n
            rw [nE h2, if_neg (by simp [h2]), oS (hasO_eq feats)]
            have hJ : ∀ cnt : Int, (0 ≤ cnt → cnt ≤ 65536) → Ym ⟨rg N, [x]⟩ (l :: ls) ((wofF N x l n).1, some ⟨ls, ns⟩, (wofF N x l n).2) cnt = some (if cnt < 1 then (zF, 0, 4) else if cnt > (ls.length : Int) + 1 then (zF, 0, 4) else
                if (moreF N x (cnt.toNat - 1) ls ns (wofF N x l n).1).2 ≠ 0 then (zF, 0, (moreF N x (cnt.toNat - 1) ls ns (wofF N x l n).1).2)
                else if (rdFr ((moreF N x (cnt.toNat - 1) ls ns (wofF N x l n).1).1.drop 12)).2 ≠ 0 then (zF, 0, (rdFr ((moreF N x (cnt.toNat - 1) ls ns (wofF N x l n).1).1.drop 12)).2)
                else ((rdFr ((moreF N x (cnt.toNat - 1) ls ns (wofF N x l n).1).1.drop 12)).1, cnt, 0)) := by
              intro cnt hc
              unfold Ym
              by_cases q1 : cnt < 1
              · rw [bP q1, if_pos q1]; rfl
              · rw [bN q1, if_neg q1]
                by_cases q2 : cnt > (ls.length : Int) + 1
                · rw [bP (by simp only [len, List.length_cons]; omega), if_pos q2]; rfl
                · rw [bN (by simp only [len, List.length_cons]; omega), if_neg q2]
                  exact oneL hx cnt cnt.toNat (by omega) (by omega) _ _ _ _ _ fuel (cnt.toNat - 1) 0 _ ls ns (by omega) (by rw [fuelS]; omega) he (by omega) (by dsimp only; omega) h12
            cases hm : (XH feats (15 : UInt64).toNat &&& 1 == 1) with
            | true =>
              have hb := (rdH (wofF N x l n).1).1.Buffers.toNat_lt
              rw [brT, hJ _ (fun _ => by simp only [i16]; omega)]
              unfold cntF; rw [hm]; simp only [if_true]
            | false =>
              rw [brF, hJ _ (fun _ => by omega)]
              unfold cntF; rw [hm]; simp
          · rw [nF h2, if_pos h2]; rfl
        · rw [nF h1, if_pos h1]; rfl
      · rw [nF (by simp only [len, List.length_cons]; omega), if_pos he]; rfl
theorem one_cnt {N : UInt64} {x : List UInt8} {feats : UInt64} {bufs : List (List Seg)} {written : List UInt32} (h : (oneF N x feats bufs written).2.2 = 0) : 1 ≤ (oneF N x feats bufs written).2.1 ∧ (oneF N x feats bufs written).2.1 ≤ (bufs.length : Int) ∧ bufs.length = written.length := by
  unfold oneF at h ⊢
  cases bufs with
  | nil => cases h
  | cons l ls =>
    cases written with
    | nil => cases h
    | cons n ns =>
      dsimp only at h ⊢
      split at h
      · cases h
      · split at h
        · rename_i q; exact absurd h q
        · split at h
          · cases h
          · split at h
            · cases h
            · split at h
              · cases h
              · split at h
                · rename_i q; exact absurd h q
                · split at h
                  · rename_i q; exact absurd h q
                  · rename_i a1 a2 a3 a4 a5 a6 a7
                    rw [if_neg a1, if_neg a2, if_neg a3, if_neg a4, if_neg a5, if_neg a6, if_neg a7]
                    simp only [List.length_cons]
                    refine ⟨by omega, by omega, ?_⟩
                    have : ls.length = ns.length := by simpa using a1
                    omega
end Go.Proofs.Ytgcbcnpbnonnjaa

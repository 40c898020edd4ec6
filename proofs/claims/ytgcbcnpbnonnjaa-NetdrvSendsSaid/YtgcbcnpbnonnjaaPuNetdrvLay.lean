/- Frames that are laid down; frames as the document reads them. No condition. -/
import Derived.Test.YtgcbcnpbnonnjaaPuCovMem
import Derived.Test.YtgcbcnpbnonnjaaPuFrameRead
namespace Go.Proofs.Ytgcbcnpbnonnjaa
theorem rhasB_eq (f : UInt64) {k : Nat} (h : k < 64) : Yx f (k : Int) = some ((YS f ((u64 (k : Int)).toNat)) % 2 == 1) := by
  unfold Yx
  rw [bP (by omega), bP (by omega)]
theorem rhas0 (f : UInt64) : ∃ b, Yx f 0 = some b := ⟨_, rhasB_eq f (k := 0) (by decide)⟩
theorem rhas1 : Yx 1 0 = some true := by kernel_rfl
theorem cD3 {P : Prop} [Decidable P] {ρ : Type} {k : Option ρ} (h : P) : chk (decide P) k = k := by rw [decide_eq_true h]; rfl
theorem bytesF_ge {f : Frame} (h : okF f) : (Zq f).length ≤ 1518 ∧ 14 ≤ (Zq f).length := by
  rw [bytesF_len]; have := h.2.2.2
  have : (tagB f.Vlan).length ≤ 4 := by unfold tagB; split <;> simp
  omega
theorem rreadHdr_app (h : Hdr) (r : List UInt8) : Yn (Xi h ++ r) = some (h, 0) := by
  rw [refReadHdr_eq]
  unfold Xo
  rw [bN (by simp only [len, Xi, List.length_append, List.length_cons, List.length_nil]; omega)]
  have e := readHdr_eq h
  unfold Xo at e
  rw [bN (by simp only [len, Xi, List.length_cons, List.length_nil]; omega)] at e
  exact e
def readS (a n : Nat) : List Seg := [⟨UInt64.ofNat a, UInt32.ofNat n, false⟩]
theorem r32 {n : Nat} (h : n ≤ 4000000000) : (UInt32.ofNat n).toNat = n := by rw [UInt32.toNat_ofNat']; omega
theorem r64 {n : Nat} (h : n ≤ 4000000000) : (UInt64.ofNat n).toNat = n := by rw [UInt64.toNat_ofNat']; omega
theorem read_good {a n : Nat} (h1 : 0 < n) (h : a + n ≤ 100000) : Yv (readS a n) := by
  have e1 := r32 (n := n) (by omega)
  have e3 := r64 (n := a) (by omega)
  refine ⟨by simp [readS], ?_, ?_⟩
  · unfold readS okS okS
    simp only [e1, e3, Bool.and_true, decide_eq_true_eq]
    exact ⟨by omega, by omega, fun q => by cases q⟩
  · simp only [readS, sumS, e1]; omega
theorem read_in {a n N : Nat} (h2 : a + n ≤ 100000) (h : a + n ≤ N) : inF N (readS a n) := by
  intro s hs
  unfold readS at hs
  rw [List.mem_singleton] at hs
  subst hs
  dsimp only
  rw [r32 (by omega), r64 (by omega)]; exact h
theorem read_gat (x : List UInt8) {a n : Nat} (h2 : a + n ≤ 100000) : gatF x (readS a n) = rdF x a n := by
  unfold readS
  rw [gatF_cons, gatF_nil, List.append_nil]
  dsimp only
  rw [r32 (by omega), r64 (by omega)]
theorem read_all (a n : Nat) : allW false (readS a n) := by
  intro s hs
  unfold readS at hs
  rw [List.mem_singleton] at hs
  subst hs; rfl
theorem rdF_wrF {x xs : List UInt8} {a : Nat} (h : a + xs.length ≤ x.length) : rdF (wrF x a xs) a xs.length = xs := by
  unfold rdF wrF
  rw [List.append_assoc, List.drop_left' (by simp; omega)]
  exact List.take_left' rfl
theorem wrF_all {x y : List UInt8} (h : y.length = x.length) : wrF x 0 y = y := by
  unfold wrF
  rw [List.take_zero, List.nil_append, List.drop_of_length_le (by omega), List.append_nil]
theorem rgather_cut {N : UInt64} {x : List UInt8} (hx : flatOk N x) (a n : Nat) (h1 : 0 < n) (h2 : a + n ≤ N.toNat) (h3 : a + n ≤ 100000) (cuts : List Int) : Xz ⟨rg N, [x]⟩ (cutQ (readS a n) cuts) = some (rdF x a n, 0) := by
  have hg := read_good (a := a) h1 h3
  have hc := cov_cutQ hg cuts
  have hi : inF N.toNat (readS a n) := read_in h3 h2
  have hN := hx.2.1
  have hl := hx.2.2
  rw [rgather1 hx _ (cutQ_good hg cuts) (cov_in (by omega) hc hi), filter_allW (cov_all hc (read_all a n)), cov_gat x hc (by rw [hl]; exact hi) (by omega), read_gat x h3]
theorem nlayJ {x : List UInt8} (hx : flatOk 32768 x) (a : Nat) (f : Frame) (hf : okF f) (h : Hdr) (cuts : List Int) (hc : cuts.length ≤ 1000000) (ha : a ≤ 31000) :
    Yg ⟨rg 32768, [x]⟩ (UInt64.ofNat a) cuts (Zq f) h = some (cutQ (readS a (Xi h ++ Zq f).length) cuts, 0, [wrF x a (Xi h ++ Zq f)]) := by
  have hb := bytesF_ge hf
  have hl : (Xi h ++ Zq f).length = 12 + (Zq f).length := by rw [List.length_append]; rfl
  have hw := write1_eq hx (UInt64.ofNat a) (Xi h ++ Zq f) (by rw [r64 (by omega), hl]; show _ ≤ 32768; omega)
  rw [r64 (by omega)] at hw
  unfold Yg
  rw [oS (hdr_eq h), cFits (by rw [show (Xi h).length = 12 from rfl]; omega), oS hw, nE rfl]
  have e : u32 (len (Xi h ++ Zq f)) = UInt32.ofNat (Xi h ++ Zq f).length := u32_of _
  rw [e]
  have hcut := bcut_eq (readS a (Xi h ++ Zq f).length) cuts hc
  rw [if_pos (read_good (by omega) (by omega))] at hcut
  exact oS hcut
theorem nlay_plain {x : List UInt8} (hx : flatOk 32768 x) (a : Nat) (f : Frame) (hf : okF f) (cuts : List Int) (hc : cuts.length ≤ 1000000) (ha : a ≤ 31000) :
    Yt ⟨rg 32768, [x]⟩ (UInt64.ofNat a) f (-1) cuts = some (cutQ (readS a (Xi (Hdr.mk 0 0 0 0) ++ Zq f).length) cuts, 0, [wrF x a (Xi (Hdr.mk 0 0 0 0) ++ Zq f)]) := by
  unfold Yt
  rw [oS (bytes_ok hf), nE rfl, bN (by decide)]
  exact nlayJ hx a f hf _ cuts hc ha
theorem nlay_sum {x : List UInt8} (hx : flatOk 32768 x) (a : Nat) (f : Frame) (hf : okF f) (k : Nat) (hk : k + 2 ≤ f.Data.length) (cuts : List Int) (hc : cuts.length ≤ 1000000) (ha : a ≤ 31000) :
    Yt ⟨rg 32768, [x]⟩ (UInt64.ofNat a) f (k : Int) cuts = some (cutQ (readS a (Xi (Hdr.mk 1 (UInt16.ofNat (14 + (tagB f.Vlan).length)) (UInt16.ofNat k) 0) ++ Zq f).length) cuts, 0, [wrF x a (Xi (Hdr.mk 1 (UInt16.ofNat (14 + (tagB f.Vlan).length)) (UInt16.ofNat k) 0) ++ Zq f)]) := by
  have h4 := hf.2.2.2
  have hbl := bytesF_len f
  have ht : (tagB f.Vlan).length ≤ 4 := by unfold tagB; split <;> simp
  have e1 : u16 (wi (len (Zq f) - len f.Data)) = UInt16.ofNat (14 + (tagB f.Vlan).length) := by
    rw [← u16_of]
    refine congrArg u16 ?_
    simp only [len]
    rw [YV (by omega) (by omega)]; omega
  have e2 : wi (len f.Data - 2) = ((f.Data.length - 2 : Nat) : Int) := by simp only [len]; rw [YV (by omega) (by omega)]; omega
  unfold Yt
  rw [oS (bytes_ok hf), nE rfl, bP (by omega)]
  dsimp only
  rw [e2, bN (by omega), e1, u16_of]
  exact nlayJ hx a f hf _ cuts hc ha
theorem rsent_plain {m : dumbwaiterref02_Mem} {feats : UInt64} {l : List Seg} {h : Hdr} {f : Frame} (hg : Xz m l = some (Xi h ++ Zq f, 0)) (hf : okF f) (hq : h.Flags &&& 1 = 0) : YL m feats l = some (f, 0) := by
  have hb := bytesF_ge hf
  have hd : sub (Xi h ++ Zq f) (12 : Int) (len (Xi h ++ Zq f)) = Zq f := by rw [sub_from]; exact List.drop_left' rfl
  have hr : Yo (Zq f) = some (f, 0) := by rw [refRead_eq _ (by omega)]; exact read_back hf
  unfold YL
  rw [oS hg, nE rfl, oS (rreadHdr_app h _), nE rfl]
  dsimp only
  rw [cD3 (by simp only [len, Xi, List.length_append, List.length_cons, List.length_nil]; omega), hd]
  obtain ⟨b, hs⟩ := rhas0 feats
  rw [oS hs]
  cases b with
  | true => rw [brT, oS (rfill_off _ h hq (by omega)), nE rfl, oS hr]
  | false => rw [brF, oS hr]
theorem rsent_sum {m : dumbwaiterref02_Mem} {l : List Seg} {f : Frame} {k : Nat} (hf : okF f) (hk : k + 2 ≤ f.Data.length)
    (hg : Xz m l = some (Xi (Hdr.mk 1 (UInt16.ofNat (14 + (tagB f.Vlan).length)) (UInt16.ofNat k) 0) ++ Zq f, 0)) :
    YL m 1 l = some ({ f with Data := (f.Data.set k (Zt (cks (wsum f.Data)) (8 : UInt64).toNat).toUInt8).set (k + 1) (cks (wsum f.Data)).toUInt8 }, 0) := by
  have hb := bytesF_ge hf
  have h4 := hf.2.2.2
  have ht : (tagB f.Vlan).length ≤ 4 := by unfold tagB; split <;> simp
  have hbl := bytesF_len f
  generalize hh : Hdr.mk 1 (UInt16.ofNat (14 + (tagB f.Vlan).length)) (UInt16.ofNat k) 0 = h at hg
  have hd : sub (Xi h ++ Zq f) (12 : Int) (len (Xi h ++ Zq f)) = Zq f := by rw [sub_from]; exact List.drop_left' rfl
  have hpre : (l6 f.Dst ++ l6 f.Src ++ tagB f.Vlan ++ [hi8 f.Type_, f.Type_.toUInt8]).length = 14 + (tagB f.Vlan).length := by
    simp only [List.length_append, l6, List.length_cons, List.length_nil]; omega
  have hF : YM (Zq f) h = some (Zq { f with Data := (f.Data.set k (Zt (cks (wsum f.Data)) (8 : UInt64).toNat).toUInt8).set (k + 1) (cks (wsum f.Data)).toUInt8 }, 0) := by
    rw [← hh, rfill_eq _ _ _ (by omega) (by omega) (by omega) (by omega)]
    have e1 : (Zq f).drop (14 + (tagB f.Vlan).length) = f.Data := by
      unfold Zq; exact List.drop_left' hpre
    rw [e1]
    refine congrArg (fun t => some (t, (0 : Int))) ?_
    unfold Zq
    rw [List.set_append_right _ _ (by rw [hpre]; omega), List.set_append_right _ _ (by rw [hpre]; omega), hpre, show 14 + (tagB f.Vlan).length + k - (14 + (tagB f.Vlan).length) = k by omega, show 14 + (tagB f.Vlan).length + k + 1 - (14 + (tagB f.Vlan).length) = k + 1 by omega]
  have hg2 : okF { f with Data := (f.Data.set k (Zt (cks (wsum f.Data)) (8 : UInt64).toNat).toUInt8).set (k + 1) (cks (wsum f.Data)).toUInt8 } := ⟨hf.1, hf.2.1, hf.2.2.1, by simpa using h4⟩
  have hr : Yo (Zq { f with Data := (f.Data.set k (Zt (cks (wsum f.Data)) (8 : UInt64).toNat).toUInt8).set (k + 1) (cks (wsum f.Data)).toUInt8 }) = some ({ f with Data := (f.Data.set k (Zt (cks (wsum f.Data)) (8 : UInt64).toNat).toUInt8).set (k + 1) (cks (wsum f.Data)).toUInt8 }, 0) := by
    rw [refRead_eq _ (by have := (bytesF_ge hg2).1; omega)]; exact read_back hg2
  unfold YL
  rw [oS hg, nE rfl, oS (rreadHdr_app h _), nE rfl]
  dsimp only
  rw [cD3 (by simp only [len, Xi, List.length_append, List.length_cons, List.length_nil]; omega), hd, oS rhas1]
  rw [brT, oS hF, nE rfl]
  dsimp only
  exact oS (k := fun read1 => some (read1.1, read1.2)) hr
end Go.Proofs.Ytgcbcnpbnonnjaa

/- The law SegScatters in plain words. No condition. -/
import Derived.Test.YtkdekmjcfoahjaaPuScat
namespace Go.Proofs.Ytkdekmjcfoahjaa
theorem lives05 : law05zlives = some true := by kernel_rfl
/-- the image is filled -/
theorem ssL1 (l : List Seg) (b : List UInt8) (c : UInt8) (m : gmem_Mem) (n : Nat) (hn : n ≤ 1000000) (hK : ∀ nf, law05zSegScattersL1B l b c m (law05zSegScattersL1 l b c m nf) (List.replicate n c) (n : Int) = some true) : ∀ (nf i : Nat) (r : List UInt8), i ≤ n → n - i < nf → r.length = n - i → law05zSegScattersL1 l b c m nf (List.replicate i c ++ r) (i : Int) = some true
  | 0, i, _, _, h, _ => by omega
  | nf + 1, i, r, hi, hf, hr => by
    unfold law05zSegScattersL1
    by_cases h : i < n
    · cases r with
      | nil => simp at hr; omega
      | cons y r =>
        simp only [List.length_cons] at hr
        have hlen : (List.replicate i c ++ y :: r).length = n := by simp; omega
        unfold law05zSegScattersL1B
        rw [bP (by simp only [len, hlen]; omega), oS (ix_nat (getq (by omega))), wi_succ (by omega), Int.toNat_natCast]
        have e : (List.replicate i c ++ y :: r).set i c = List.replicate (i + 1) c ++ r := by
          rw [List.set_append_right _ _ (by simp), List.length_replicate, Nat.sub_self, List.set_cons_zero, List.replicate_succ']; simp
        rw [e]
        exact ssL1 l b c m n hn hK nf (i + 1) r (by omega) (by omega) (by omega)
    · have e : i = n := by omega
      subst e
      have : r = [] := List.eq_nil_of_length_eq_zero (by omega)
      rw [this, List.append_nil]
      exact hK nf
def tkn (map : List (UInt64 × Bool)) (sn : List UInt64) (pl : List UInt64) : Prop := (∀ a, mget false a map = decide (a ∈ sn)) ∧ pl.Nodup ∧ ∀ p ∈ pl, p ∈ sn
def plw (s : Seg) (k : Nat) : List UInt64 := if s.Write then adr s k else []
theorem plw_len (s : Seg) (k : Nat) : (plw s k).length ≤ k := by
  unfold plw; split
  · rw [adr_len]; exact Nat.le_refl _
  · simp
/-- the places of one segment -/
theorem ssL3 (l : List Seg) (i : Nat) (hi : i < l.length) (hl : l.length ≤ 64) (im : List UInt8) (P : List UInt64) (hP : P.length ≤ 5000000000) (L2 : List UInt8 → List (UInt64 × Bool) → List UInt64 → Int → Option Bool)
    (hK : ∀ map sn, tkn map sn (P ++ plw l[i] l[i].Len.toNat) → L2 im map (P ++ plw l[i] l[i].Len.toNat) ((i + 1 : Nat) : Int) = some true) (hA : l[i].At.toNat + l[i].Len.toNat ≤ 1048576) :
    ∀ (nf k : Nat) (map : List (UInt64 × Bool)) (sn : List UInt64), k ≤ l[i].Len.toNat → l[i].Len.toNat - k < nf → tkn map sn (P ++ plw l[i] k) → law05zSegScattersL3 l (i : Int) L2 nf im map (P ++ plw l[i] k) (UInt64.ofNat k) = some true
  | 0, k, _, _, _, h, _ => by omega
  | nf + 1, k, map, sn, hk, hf, ht => by
    have gi := ix_nat (getq hi)
    have hL := l[i].Len.toNat_lt
    unfold law05zSegScattersL3 law05zSegScattersL3B
    rw [oS gi]
    by_cases h : k < l[i].Len.toNat
    · have hk64 : (UInt64.ofNat k).toNat = k := by rw [UInt64.toNat_ofNat']; omega
      rw [bP (by rw [UInt64.lt_iff_toNat_lt, hk64, UInt32.toNat_toUInt64]; exact h), oS gi, ht.1]
      by_cases hm : l[i].At + UInt64.ofNat k ∈ sn
      · rw [bT (decide_eq_true hm)]
      · rw [bFl (decide_eq_false hm), oS gi]
        have ek : UInt64.ofNat k + 1 = UInt64.ofNat (k + 1) := by rw [UInt64.ofNat_add]; rfl
        have hmap : ∀ a, mget false a (mput (l[i].At + UInt64.ofNat k) true map) = decide (a ∈ (l[i].At + UInt64.ofNat k) :: sn) := fun a => by
          rw [mget_put, ht.1]
          by_cases e : a = l[i].At + UInt64.ofNat k
          · rw [if_pos e, decide_eq_true (by rw [e]; simp)]
          · rw [if_neg e]
            by_cases q : a ∈ sn
            · rw [decide_eq_true q, decide_eq_true (by simp [q])]
            · rw [decide_eq_false q, decide_eq_false (by simp [q, e])]
        have hpl := plw_len l[i] k
        cases hw : l[i].Write with
        | true =>
          have e1 : P ++ plw l[i] k ++ [l[i].At + UInt64.ofNat k] = P ++ plw l[i] (k + 1) := by
            unfold plw; rw [hw]; simp only [if_true]; rw [adr_succ, List.append_assoc]
          rw [bT rfl, cFits (by simp only [List.length_append, List.length_cons, List.length_nil]; omega)]
          unfold law05zSegScattersJ5 law05zSegScattersJ4
          rw [ek, e1]
          refine ssL3 l i hi hl im P hP L2 hK hA nf (k + 1) _ ((l[i].At + UInt64.ofNat k) :: sn) (by omega) (by omega) ⟨hmap, ?_, ?_⟩
          · rw [← e1]
            refine List.nodup_append.2 ⟨ht.2.1, by simp, fun a ha c hc => ?_⟩
            simp only [List.mem_singleton] at hc
            subst hc
            intro e; subst e
            exact hm (ht.2.2 _ ha)
          · intro p hp
            rw [← e1, List.mem_append] at hp
            rcases hp with q | q
            · exact List.mem_cons_of_mem _ (ht.2.2 p q)
            · simp only [List.mem_singleton] at q; subst q; simp
        | false =>
          have e1 : plw l[i] k = plw l[i] (k + 1) := by unfold plw; rw [hw]; rfl
          rw [bFl rfl]
          unfold law05zSegScattersJ5 law05zSegScattersJ4
          rw [ek, e1]
          refine ssL3 l i hi hl im P hP L2 hK hA nf (k + 1) _ ((l[i].At + UInt64.ofNat k) :: sn) (by omega) (by omega) ⟨hmap, by rw [← e1]; exact ht.2.1, fun p hp => List.mem_cons_of_mem _ (ht.2.2 p (by rw [e1]; exact hp))⟩
    · have e : k = l[i].Len.toNat := by omega
      have hk64 : (UInt64.ofNat k).toNat = k := by rw [UInt64.toNat_ofNat']; omega
      rw [bN (by rw [UInt64.lt_iff_toNat_lt, hk64, UInt32.toNat_toUInt64]; omega), wi_succ (by omega)]
      subst e
      exact hK map sn ht
def pls (l : List Seg) : List UInt64 := (l.map fun s => plw s s.Len.toNat).flatten
theorem pls_app (a b : List Seg) : pls (a ++ b) = pls a ++ pls b := by simp [pls]
theorem pls_pl1 : ∀ l : List Seg, pls l = pl1 (l.filter (fun s => s.Write == true))
  | [] => rfl
  | s :: r => by
    have ih := pls_pl1 r
    have e : pls (s :: r) = plw s s.Len.toNat ++ pls r := by simp [pls]
    rw [e, ih, List.filter_cons]
    unfold plw
    cases hw : s.Write with
    | true => rw [if_pos rfl, if_pos (by decide), pl1_cons]
    | false => rw [if_neg (by decide), if_neg (by decide)]; rfl
theorem pls_take_le (l : List Seg) (i : Nat) : (pls (l.take i)).length ≤ sumS l := by
  have h1 : (pls (l.take i)).length + (pls (l.drop i)).length = (pls l).length := by rw [← List.length_append, ← pls_app, List.take_append_drop]
  have h2 : (pls l).length = wrS l := by rw [pls_pl1, pl1_len, sum_wr]
  have h3 := sum_rw l
  omega
/-- the places of all segments -/
theorem ssL2 (l : List Seg) (b : List UInt8) (m : gmem_Mem) (w : Int × List (List UInt8)) (im : List UInt8) (hg : goodS l) (hi2 : inF 2000 l)
    (hK : ∀ nf map, (pls l).Nodup → law05zSegScattersL2B l b m w (law05zSegScattersL2 l b m w nf) im map (pls l) (l.length : Int) = some true) :
    ∀ (nf i : Nat) (map : List (UInt64 × Bool)) (sn : List UInt64), i ≤ l.length → l.length - i < nf → tkn map sn (pls (l.take i)) → law05zSegScattersL2 l b m w nf im map (pls (l.take i)) (i : Int) = some true
  | 0, i, _, _, _, h, _ => by omega
  | nf + 1, i, map, sn, hi, hf, ht => by
    have hl := hg.1
    unfold law05zSegScattersL2
    by_cases h : i < l.length
    · unfold law05zSegScattersL2B
      have hA := hi2 _ (List.getElem_mem h)
      rw [bP (by simp only [len]; omega)]
      have e : pls (l.take (i + 1)) = pls (l.take i) ++ plw l[i] l[i].Len.toNat := by
        rw [List.take_add_one, getq h, pls_app]; simp [pls]
      have e0 : pls (l.take i) = pls (l.take i) ++ plw l[i] 0 := by unfold plw; split <;> simp [adr]
      have hlen := pls_take_le l i
      have hs := hg.2.2
      have := ssL3 l i h hl im (pls (l.take i)) (by omega) (law05zSegScattersL2 l b m w nf) (fun map' sn' ht' => by
        rw [← e] at ht' ⊢
        exact ssL2 l b m w im hg hi2 hK nf (i + 1) map' sn' (by omega) (by omega) ht') (by omega) fuel 0 map sn (by omega) (by have := l[i].Len.toNat_lt; unfold fuel; omega) (by rw [← e0]; exact ht)
      rw [← e0] at this
      exact this
    · have e : i = l.length := by omega
      subst e
      rw [List.take_length] at ht ⊢
      exact hK nf map ht.2.1
/-- the bytes are laid into the image -/
theorem ssL6 (l : List Seg) (b : List UInt8) (m : gmem_Mem) (sc : Int × Int × List (List UInt8)) (ps : List UInt64) (n : Nat) (hn : n = min b.length ps.length) (hsc : sc.1 = (n : Int)) (hnb : n ≤ 1000000) (N : Nat) (hp : ∀ p ∈ ps, p.toNat < N) (im : List UInt8)
    (hK : ∀ nf, law05zSegScattersL6B l b m sc (law05zSegScattersL6 l b m sc nf) im ps (n : Int) = some true) :
    ∀ (nf i : Nat) (x : List UInt8), i ≤ n → n - i < nf → x.length = N → setAll x (ps.drop i) (b.drop i) = im → law05zSegScattersL6 l b m sc nf x ps (i : Int) = some true
  | 0, i, _, _, h, _, _ => by omega
  | nf + 1, i, x, hi, hf, hx, he => by
    unfold law05zSegScattersL6
    by_cases h : i < n
    · have h1 : i < ps.length := by omega
      have h2 : i < b.length := by omega
      have hpl := hp _ (List.getElem_mem h1)
      unfold law05zSegScattersL6B
      rw [bP (by rw [hsc]; omega), oS (ix_nat (getq h1)), oS (ix_nat (getq h2)), oS (ix_nat (getq (by omega : ps[i].toNat < x.length))), wi_succ (by omega), Int.toNat_natCast]
      refine ssL6 l b m sc ps n hn hsc hnb N hp im hK nf (i + 1) _ (by omega) (by omega) (by simpa using hx) ?_
      rw [drop_ix h1, drop_ix h2] at he
      exact he
    · have e : i = n := by omega
      subst e
      have e2 : setAll x (ps.drop i) (b.drop i) = x := by
        rcases Nat.le_total b.length ps.length with q | q
        · rw [List.drop_of_length_le (by omega : b.length ≤ i), setAll_nil]
        · rw [List.drop_of_length_le (by omega : ps.length ≤ i), setAll_e]
      rw [e2] at he; subst he
      exact hK nf
def unW (s : Seg) : Seg := ⟨s.At, s.Len, false⟩
/-- the segments are made readable -/
theorem ssL7 (b : List UInt8) (m : gmem_Mem) (sc : Int × Int × List (List UInt8)) (im : List UInt8) (ps : List UInt64) (back : List Seg) (hb : back.length ≤ 64)
    (hK : ∀ nf, law05zSegScattersL7B b m sc (law05zSegScattersL7 b m sc nf) im ps (back.map unW) (back.length : Int) = some true) :
    ∀ (nf i : Nat), i ≤ back.length → back.length - i < nf → law05zSegScattersL7 b m sc nf im ps ((back.take i).map unW ++ back.drop i) (i : Int) = some true
  | 0, i, _, h => by omega
  | nf + 1, i, hi, hf => by
    unfold law05zSegScattersL7
    by_cases h : i < back.length
    · have hlen : ((back.take i).map unW ++ back.drop i).length = back.length := by simp; omega
      have hg : ((back.take i).map unW ++ back.drop i)[i]? = some back[i] := by
        rw [List.getElem?_append_right (by simp; omega)]
        simp [Nat.min_eq_left hi, h]
      unfold law05zSegScattersL7B
      rw [bP (by simp only [len, hlen]; omega), oS (ix_nat hg), wi_succ (by omega), Int.toNat_natCast]
      have e : ((back.take i).map unW ++ back.drop i).set i (Seg.mk back[i].At back[i].Len false) = (back.take (i + 1)).map unW ++ back.drop (i + 1) := by
        rw [List.set_append_right _ _ (by simp; omega)]
        simp only [List.length_map, List.length_take, Nat.min_eq_left hi, Nat.sub_self]
        rw [drop_ix h, List.set_cons_zero, List.take_add_one, getq h, List.map_append, List.append_assoc]
        rfl
      rw [e]
      exact ssL7 b m sc im ps back hb hK nf (i + 1) (by omega) (by omega)
    · have e : i = back.length := by omega
      subst e
      rw [List.take_length, List.drop_length, List.append_nil]
      exact hK nf
theorem unW_sum : ∀ l : List Seg, sumS (l.map unW) = sumS l
  | [] => rfl
  | s :: r => by have := unW_sum r; simp only [List.map_cons, sumS, this]; rfl
theorem unW_ok : ∀ {p : Bool} {l : List Seg}, okS p l = true → okS false (l.map unW) = true
  | _, [], _ => rfl
  | p, s :: r, h => by
    simp only [okS, Bool.and_eq_true, decide_eq_true_eq] at h
    simp only [List.map_cons, okS, Bool.and_eq_true, decide_eq_true_eq]
    exact ⟨⟨h.1.1, h.1.2.1, fun z => by cases z⟩, unW_ok h.2⟩
theorem unW_good {l : List Seg} (h : goodS l) : goodS (l.map unW) := ⟨by rw [List.length_map]; exact h.1, unW_ok h.2.1, by rw [unW_sum]; exact h.2.2⟩
theorem unW_in {n : Nat} {l : List Seg} (h : inF n l) : inF n (l.map unW) := fun s hs => by
  obtain ⟨t, ht, rfl⟩ := List.mem_map.1 hs; exact h t ht
theorem unW_all (l : List Seg) : allW false (l.map unW) := fun s hs => by
  obtain ⟨t, _, rfl⟩ := List.mem_map.1 hs; rfl
theorem unW_gat (x : List UInt8) : ∀ l : List Seg, gatF x (l.map unW) = gatF x l
  | [] => rfl
  | s :: r => by rw [List.map_cons, gatF_cons, gatF_cons, unW_gat x r]; rfl
set_option maxHeartbeats 1000000 in
theorem ss_end (l : List Seg) (b : List UInt8) (x : List UInt8) (hx : flatOk 2000 x) (hg : goodS l) (hi : inF 2000 l) (hb : b.length ≤ 20000) (hn : (pls l).Nodup) (w : Int × List (List UInt8)) (hw : w.2 = [x]) (m : gmem_Mem) (hm : m.l = rg 2000) (nf : Nat) (map : List (UInt64 × Bool)) :
    law05zSegScattersL2B l b m w (law05zSegScattersL2 l b m w nf) x map (pls l) (l.length : Int) = some true := by
  have h64 := hg.1
  have hs := hg.2.2
  have hlx : x.length = 2000 := hx.2.2
  have ko : kit_Own b = some b := by unfold kit_Own; rw [cFits (by simp; omega)]
  have hpl := pls_pl1 l
  have hlen : (pls l).length = wrS l := by rw [hpl, pl1_len, sum_wr]
  have hiw : inF x.length (l.filter (fun s => s.Write == true)) := by rw [hlx]; exact inF_filter hi
  have hsw := sum_wr l
  have hrw := sum_rw l
  unfold law05zSegScattersL2B
  rw [bN (by simp only [len]; omega), oS ko, hm, hw, oS (scatter1 hx l b (by omega) hg hi)]
  dsimp only
  have e1 : ((min b.length (wrS l) : Nat) : Int) = mini (len b) (len (pls l)) := by
    unfold mini len; rw [hlen]
    by_cases q : wrS l < b.length
    · rw [if_pos (by omega), Nat.min_eq_right (by omega)]
    · rw [if_neg (by omega), Nat.min_eq_left (by omega)]
  rw [cnE rfl, cnE e1]
  have hx2 : flatOk 2000 (scatF x (l.filter (fun s => s.Write == true)) b) := scatF_ok hx (inF_filter hi)
  have hset : scatF x (l.filter (fun s => s.Write == true)) b = setAll x (pls l) b := by rw [scat_set (by omega) hiw, ← hpl]
  refine ssL6 l b m _ (pls l) (min b.length (wrS l)) (by rw [hlen]) rfl (by omega) 2000 (by rw [hpl, ← hlx]; exact pl1_lt (by omega) hiw) (scatF x (l.filter (fun s => s.Write == true)) b) ?_ fuel 0 x (by omega) (by unfold fuel; omega) hlx (by rw [List.drop_zero, List.drop_zero, hset])
  intro nf2
  unfold law05zSegScattersL6B
  rw [bN (by dsimp only; omega), oS (part_eq hg true)]
  have hb64 : (l.filter (fun s => s.Write == true)).length ≤ 64 := Nat.le_trans (List.length_filter_le _ _) h64
  refine ssL7 b m _ _ _ (l.filter (fun s => s.Write == true)) hb64 ?_ fuel 0 (by omega) (by unfold fuel; omega)
  intro nf3
  have gw : goodS (l.filter (fun s => s.Write == true)) := good_filter hg
  have hlx2 := hx2.2.2
  have gl : (gatF (scatF x (l.filter (fun s => s.Write == true)) b) (l.filter (fun s => s.Write == true))).length = wrS l := by
    rw [gatF_len (by rw [hlx2, ← hx.2.2]; exact hiw), hsw]
  unfold law05zSegScattersL7B
  rw [bN (by simp only [len, List.length_map]; omega), hm]
  dsimp only
  rw [oS (gather1 hx2 _ (unW_good gw) (unW_in (inF_filter hi))), filter_allW (unW_all _), unW_gat]
  dsimp only
  have hgs := gat_scat (x := x) (xs := b) (l := l.filter (fun s => s.Write == true)) (by omega) hiw (by rw [← hpl]; exact hn)
  rw [hsw] at hgs
  rw [cE rfl, oS (image1_eq hx2), cE rfl, cE (by simp only [len]; rw [gl, hlen]), cP (by simp only [len]; rw [gl]; omega), cP (by simp only [len]; omega), sub_to, sub_to, Int.toNat_natCast, cE hgs]
theorem t_law05zSegScatters (l : List Seg) (b : List UInt8) (c : UInt8) : law05zSegScatters l b c = some true := by
  unfold law05zSegScatters
  have hn : (!true) = false := rfl
  rw [oS lives05, cNT hn]
  by_cases h1 : len l > 100
  · rw [bP h1]
  by_cases h2 : len b > 20000
  · rw [bN h1, bP h2]
  rw [bN h1, bN h2, oS (segCheck l)]
  by_cases hg : goodS l
  · have e2 : b.length ≤ 20000 := by simp only [len] at h2; omega
    have z0 : flatOk 2000 (z1 2000) := z1_ok (by decide) (by decide)
    have hN := new1_eq (n := 2000) (by decide) (by decide)
    rw [nE (errS_good hg), show [(Region.mk (0 : UInt64) (2000 : UInt64))] = rg 2000 from rfl, oS hN]
    dsimp only
    rw [onS, nE rfl, oS (segIn_eq _ (flat_mem z0) l)]
    dsimp only
    by_cases hi : inF 2000 l
    · rw [nE ((inE1_zero (n := 2000)).2 ⟨hg, hi⟩), cP (by decide)]
      refine ltI fun z hz => ?_
      have hzl : z.length = 2000 - 0 := by rw [hz, List.length_replicate]; rfl
      clear hz
      have main : ∀ nf, law05zSegScattersL1B l b c ⟨rg 2000, [z1 2000]⟩ (law05zSegScattersL1 l b c ⟨rg 2000, [z1 2000]⟩ nf) (List.replicate 2000 c) ((2000 : Nat) : Int) = some true := fun nf => ?_
      · have := ssL1 l b c _ 2000 (by decide) main fuel 0 z (by omega) (by unfold fuel; omega) hzl
        rw [List.replicate_zero, List.nil_append] at this
        exact this
      have hlr : (List.replicate 2000 c).length = 2000 := List.length_replicate
      generalize List.replicate 2000 c = im at hlr
      have ko : kit_Own im = some im := by unfold kit_Own; rw [cFits (by simp; omega)]
      unfold law05zSegScattersL1B
      rw [bN (by simp only [len, hlr]; omega), oS ko, oS (write1_eq z0 0 im (by rw [hlr]; decide))]
      have ew : wrF (z1 2000) (0 : UInt64).toNat im = im := by
        have hz : (z1 2000).length = 2000 := z0.2.2
        unfold wrF
        rw [show (0 : UInt64).toNat = 0 from rfl, List.take_zero, List.drop_of_length_le (by omega), List.append_nil]; rfl
      rw [ew]
      have hx : flatOk 2000 im := ⟨by decide, by decide, hlr⟩
      refine ssL2 l b _ _ im hg hi (fun nf2 map hnd => ss_end l b im hx hg hi e2 hnd _ rfl _ rfl nf2 map) fuel 0 [] [] (by omega) (by have := hg.1; unfold fuel; omega) ⟨fun a => by simp [mget], by simp [pls], fun p hp => by simp [pls] at hp⟩
    · rw [nF (by rw [inE1_good (n := 2000) hg hi]; decide), cE rfl]
  · rw [nF (errS_bad hg)]
end Go.Proofs.Ytkdekmjcfoahjaa

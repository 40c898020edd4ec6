/- Buffers in a memory, in plain words. No condition. -/
import Derived.Test.YtdaijemhibbgeaaPuGmem
import Derived.Test.YtdaijemhibbgeaaPuCut
namespace Go.Proofs.Ytdaijemhibbgeaa
def hasS (l : List Region) (s : Seg) : Bool := (findR l s.At.toNat s.Len.toNat).isSome
def inE (l : List Region) (ss : List Seg) : Int := if errS ss = 0 then (bif ss.all (hasS l) then 0 else 5) else errS ss
theorem segInL (m : gmem_Mem) (hm : memOk m.l m.b) (l : List Seg) (hl : l.length ≤ 64) : ∀ (nf i : Nat), i ≤ l.length → l.length - i < nf → seg_InL1 m l nf (i : Int) = some (bif (l.drop i).all (hasS m.l) then 0 else 5)
  | 0, i, _, h => by omega
  | nf + 1, i, hi, hn => by
    unfold seg_InL1 seg_InL1B
    by_cases h : i < l.length
    · have hd : l.drop i = l[i] :: l.drop (i + 1) := drop_ix h
      rw [bP (by simp only [len]; omega), oS (ix_nat (getq h)), oS (has_eq m hm _ _), hd, List.all_cons, UInt32.toNat_toUInt64]
      have ih := segInL m hm l hl nf (i + 1) (by omega) (by omega)
      cases q : (findR m.l l[i].At.toNat l[i].Len.toNat).isSome with
      | true => rw [bFl (show (!true) = false from rfl), wi_succ (by omega), ih, show hasS m.l l[i] = true from q, Bool.true_and]
      | false => rw [bT (show (!false) = true from rfl), show hasS m.l l[i] = false from q, Bool.false_and]; rfl
    · rw [bN (by simp only [len]; omega), List.drop_of_length_le (by omega)]; rfl
theorem segIn_eq (m : gmem_Mem) (hm : memOk m.l m.b) (l : List Seg) : seg_In m l = some (inE m.l l) := by
  unfold seg_In
  have h0 : gmem_Mem_Read m (0 : UInt64) (0 : Int) = some ([], 0) := by rw [read_eqM m hm _ _ (by omega)]; rfl
  rw [oS h0, nE rfl, oS (segCheck l)]
  unfold inE
  by_cases h : errS l = 0
  · rw [nE h, if_pos h]
    have hl := (errS_zero.1 h).1
    have := segInL m hm l hl fuel 0 (by omega) (by unfold fuel; omega)
    exact this
  · rw [nF h, if_neg h]
theorem inE_zero {l : List Region} {ss : List Seg} (h : inE l ss = 0) : goodS ss ∧ ss.all (hasS l) = true := by
  unfold inE at h
  by_cases q : errS ss = 0
  · rw [if_pos q] at h
    refine ⟨errS_zero.1 q, ?_⟩
    cases e : ss.all (hasS l) with
    | true => rfl
    | false => rw [e] at h; cases h
  · rw [if_neg q] at h; exact absurd h q
/-- bytes laid into segments, one behind the other -/
def wrR (l : List Region) (b : List (List UInt8)) (a : Nat) (xs : List UInt8) : List (List UInt8) := (writeR l b a xs).getD b
def scatS (l : List Region) : List (List UInt8) → List Seg → List UInt8 → List (List UInt8)
  | b, [], _ => b
  | b, s :: r, xs => scatS l (wrR l b s.At.toNat (xs.take s.Len.toNat)) r (xs.drop s.Len.toNat)
theorem wrR_nil (l : List Region) (b : List (List UInt8)) (a : Nat) : wrR l b a [] = b := rfl
theorem wrR_ok {l : List Region} {b : List (List UInt8)} {a : Nat} {xs : List UInt8} (hm : memOk l b) : memOk l (wrR l b a xs) := by
  unfold wrR
  cases h : writeR l b a xs with
  | none => exact hm
  | some b' => exact write_ok hm h
theorem wrM (m : gmem_Mem) (hm : memOk m.l m.b) (a : UInt64) (xs : List UInt8) (hn : xs.length ≤ 140737488355328) : ∃ e, gmem_Mem_Write m a xs = some (e, wrR m.l m.b a.toNat xs) := by
  rw [write_eqM m hm a xs hn]
  by_cases h : xs = []
  · rw [if_pos h, h, wrR_nil]; exact ⟨_, rfl⟩
  · rw [if_neg h]
    unfold wrR
    cases writeR m.l m.b a.toNat xs with
    | none => exact ⟨_, rfl⟩
    | some b => exact ⟨_, rfl⟩
theorem scat_nil (l : List Region) : ∀ (b : List (List UInt8)) (ss : List Seg), scatS l b ss [] = b
  | b, [] => rfl
  | b, s :: r => by rw [scatS, List.take_nil, List.drop_nil, wrR_nil]; exact scat_nil l b r
theorem scat_take (l : List Region) : ∀ (b : List (List UInt8)) (ss : List Seg) (xs : List UInt8), scatS l b (takeS xs.length ss) xs = scatS l b ss xs
  | b, [], xs => rfl
  | b, s :: r, xs => by
    unfold takeS
    by_cases h0 : xs.length = 0
    · rw [if_pos h0, List.eq_nil_of_length_eq_zero h0, scat_nil, scat_nil]
    · rw [if_neg h0]
      by_cases h1 : xs.length < s.Len.toNat
      · rw [if_pos h1]
        simp only [scatS, hd_len h1]
        rw [List.take_of_length_le (Nat.le_refl _), List.take_of_length_le (by omega), List.drop_of_length_le (by omega : xs.length ≤ s.Len.toNat), scat_nil]; rfl
      · rw [if_neg h1]
        simp only [scatS]
        have := scat_take l (wrR l b s.At.toNat (xs.take s.Len.toNat)) r (xs.drop s.Len.toNat)
        rw [List.length_drop] at this
        exact this
theorem scatterL (l : List Region) (xs : List UInt8) (hx : xs.length ≤ 100000000) (m0 : gmem_Mem) (hm0 : m0.l = l) (e : List Seg × List Seg) (hs : sumS e.1 ≤ xs.length) (hl : e.1.length ≤ 64) : ∀ (nf i n : Nat) (b : List (List UInt8)), memOk l b → i ≤ e.1.length → e.1.length - i < nf → n + sumS (e.1.drop i) = sumS e.1 →
    seg_ScatterL1 m0 xs e nf b (n : Int) e.1 (i : Int) = some (((sumS e.1 : Nat) : Int), (0 : Int), scatS l b (e.1.drop i) (xs.drop n))
  | 0, i, n, b, _, _, h, _ => by omega
  | nf + 1, i, n, b, hb, hi, hn, hsum => by
    unfold seg_ScatterL1 seg_ScatterL1B
    by_cases h : i < e.1.length
    · have hd : e.1.drop i = e.1[i] :: e.1.drop (i + 1) := drop_ix h
      rw [hd] at hsum ⊢
      simp only [sumS] at hsum
      have hw : wi ((n : Int) + i32 e.1[i].Len) = ((n + e.1[i].Len.toNat : Nat) : Int) := by
        rw [show i32 e.1[i].Len = ((e.1[i].Len.toNat : Nat) : Int) from rfl, wi_in (by omega) (by omega)]; omega
      have hsb : sub xs (n : Int) ((n + e.1[i].Len.toNat : Nat) : Int) = (xs.drop n).take e.1[i].Len.toNat := by
        exact (sub_nat _ _ _).trans (congrArg (fun z => (xs.drop n).take z) (by omega))
      obtain ⟨er, hwr⟩ := wrM ⟨m0.l, b⟩ (by rw [hm0]; exact hb) e.1[i].At ((xs.drop n).take e.1[i].Len.toNat) (by simp; omega)
      rw [bP (by simp only [len]; omega), oS (ix_nat (getq h)), hw, cP (by simp only [len]; omega), hsb, oS hwr, wi_succ (by omega)]
      dsimp only
      rw [hm0, scatterL l xs hx m0 hm0 e hs hl nf (i + 1) _ _ (wrR_ok hb) (by omega) (by omega) (by omega), scatS, List.drop_drop]
    · rw [bN (by simp only [len]; omega), List.drop_of_length_le (by omega)]
      rw [List.drop_of_length_le (by omega)] at hsum
      simp only [sumS, Nat.add_zero] at hsum
      rw [hsum]; rfl
theorem sum_wr : ∀ l : List Seg, sumS (l.filter (fun s => s.Write == true)) = wrS l
  | [] => rfl
  | s :: r => by
    have := sum_wr r
    rw [List.filter_cons]
    cases h : s.Write with
    | true => rw [if_pos (show (true == true) = true from rfl)]; simp only [sumS, wrS, h, if_true]; omega
    | false => rw [if_neg (by decide)]; simp only [wrS, h]; simpa using this
theorem scatter_eq (m : gmem_Mem) (hm : memOk m.l m.b) (l : List Seg) (xs : List UInt8) (hx : xs.length ≤ 100000000) : seg_Scatter m l xs = some (if inE m.l l = 0 then (((min xs.length (wrS l) : Nat) : Int), (0 : Int), scatS m.l m.b (l.filter (fun s => s.Write == true)) xs) else (0, inE m.l l, m.b)) := by
  unfold seg_Scatter
  rw [oS (segIn_eq m hm l)]
  by_cases h : inE m.l l = 0
  · obtain ⟨hg, ha⟩ := inE_zero h
    have hl := hg.1
    have hfl : (l.filter (fun s => s.Write == true)).length ≤ l.length := List.length_filter_le _ _
    have hp : posS (l.filter (fun s => s.Write == true)) := fun s hs => okS_pos hg.2.1 s (List.mem_filter.1 hs).1
    rw [nE h, if_pos h, oS (part_eq hg true)]
    have he : seg_row_eat (l.filter (fun s => s.Write == true)) (u64 (len xs)) = some (takeS xs.length (l.filter (fun s => s.Write == true)), dropS xs.length (l.filter (fun s => s.Write == true))) := by
      unfold seg_row_eat
      rw [show len xs = ((xs.length : Nat) : Int) from rfl, u64_of]
      have := eatL fuel (l.filter (fun s => s.Write == true)) xs.length [] hp (by unfold fuel; omega) (by omega) (by simp only [List.length_nil]; omega)
      rw [List.nil_append] at this
      exact this
    rw [oS he]
    have hlt := len_take xs.length (l.filter (fun s => s.Write == true))
    have hsm := sum_take xs.length (l.filter (fun s => s.Write == true))
    have := scatterL m.l xs hx m rfl (takeS xs.length (l.filter (fun s => s.Write == true)), dropS xs.length (l.filter (fun s => s.Write == true))) (by dsimp only; omega) (by dsimp only; omega) fuel 0 0 m.b hm (by omega) (by dsimp only; unfold fuel; omega) (by rw [List.drop_zero]; omega)
    rw [List.drop_zero, List.drop_zero] at this
    dsimp only at this
    rw [scat_take, hsm, sum_wr] at this
    exact this
  · rw [nF h, if_neg h]
end Go.Proofs.Ytdaijemhibbgeaa

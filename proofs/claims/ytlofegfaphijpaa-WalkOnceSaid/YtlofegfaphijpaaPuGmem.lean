/- Memories of regions in plain words: when regions may be; where bytes lie. No condition. -/
import Derived.Test.YtlofegfaphijpaaPuBase
namespace Go.Proofs.Ytlofegfaphijpaa
/-- may regions be, from pe on? -/
def okA : Nat → List Region → Bool
  | _, [] => true
  | pe, r :: l => decide (0 < r.Len.toNat ∧ r.At.toNat + r.Len.toNat ≤ 18446744073709551616 ∧ pe ≤ r.At.toNat) && okA (r.At.toNat + r.Len.toNat) l
def sumM : List Region → Nat
  | [] => 0
  | r :: l => r.Len.toNat + sumM l
def goodM (l : List Region) : Prop := l.length ≤ 16 ∧ okA 0 l = true ∧ sumM l ≤ 1048576
def errM (l : List Region) : Int := if l.length > 16 then 2 else two (okA 0 l && Nat.ble (sumM l) 1048576)
theorem errM_zero {l : List Region} : errM l = 0 ↔ goodM l := by
  unfold errM goodM
  by_cases h : l.length > 16
  · rw [if_pos h]; constructor
    · intro q; cases q
    · intro q; omega
  · rw [if_neg h]
    cases h2 : okA 0 l && Nat.ble (sumM l) 1048576 with
    | true =>
      rw [twoP rfl]
      simp only [Bool.and_eq_true, Nat.ble_eq] at h2
      exact ⟨fun _ => ⟨by omega, h2⟩, fun _ => rfl⟩
    | false =>
      rw [twoN rfl]
      constructor
      · intro q; cases q
      · rintro ⟨_, q1, q2⟩
        rw [q1, Bool.true_and] at h2
        rw [show Nat.ble (sumM l) 1048576 = true by rw [Nat.ble_eq]; exact q2] at h2; cases h2
/-- where the one before ends -/
def prevE (l : List Region) : Nat → Nat
  | 0 => 0
  | i + 1 => match l[i]? with | some s => s.At.toNat + s.Len.toNat | none => 0
theorem prevE_succ {l : List Region} {i : Nat} (h : i < l.length) : prevE l (i + 1) = l[i].At.toNat + l[i].Len.toNat := by
  simp only [prevE, getq h]
theorem ble_f {a b : Nat} (h : ¬ a ≤ b) : Nat.ble a b = false := by
  cases e : Nat.ble a b with
  | false => rfl
  | true => exact absurd (Nat.ble_eq ▸ e) h
theorem okA_n {pe : Nat} {r : Region} {l : List Region} {q : Bool} (h : ¬ (0 < r.Len.toNat ∧ r.At.toNat + r.Len.toNat ≤ 18446744073709551616 ∧ pe ≤ r.At.toNat)) : (okA pe (r :: l) && q) = false := by
  simp only [okA]; rw [decide_eq_false h]; rfl
theorem okA_p {pe : Nat} {r : Region} {l : List Region} {q : Bool} (h : 0 < r.Len.toNat ∧ r.At.toNat + r.Len.toNat ≤ 18446744073709551616 ∧ pe ≤ r.At.toNat) : (okA pe (r :: l) && q) = (okA (r.At.toNat + r.Len.toNat) l && q) := by
  simp only [okA]; rw [decide_eq_true h]; rfl
theorem gmemCheckL (l : List Region) (hl : l.length ≤ 16) : ∀ (nf i : Nat) (room : UInt64), i ≤ l.length → l.length - i < nf → (∀ j, j < i → ∀ h : j < l.length, 0 < l[j].Len.toNat ∧ l[j].At.toNat + l[j].Len.toNat ≤ 18446744073709551616) →
    gmem_CheckL1 l nf room (i : Int) = some (two (okA (prevE l i) (l.drop i) && Nat.ble (sumM (l.drop i)) room.toNat))
  | 0, i, room, _, h, _ => by omega
  | nf + 1, i, room, hi, hn, hp => by
    unfold gmem_CheckL1 gmem_CheckL1B
    by_cases h : i < l.length
    · have hd : l.drop i = l[i] :: l.drop (i + 1) := drop_ix h
      have hA := l[i].At.toNat_lt; have hL := l[i].Len.toNat_lt
      rw [bP (by simp only [len]; omega), oS (ix_nat (getq h)), hd]
      by_cases h0 : l[i].Len < 1
      · rw [bP h0, twoN (okA_n (fun q => by have := lt64.1 h0; simp only [UInt64.reduceToNat] at this; omega))]
      · have h0' : 0 < l[i].Len.toNat := by
          rcases Nat.eq_zero_or_pos l[i].Len.toNat with e | e
          · exact absurd (lt64.2 (by rw [e]; decide)) h0
          · exact e
        rw [bN h0]
        by_cases h1 : l[i].Len > room
        · rw [bP h1, twoN]
          rw [ble_f (by simp only [sumM]; have := lt64.1 h1; omega), Bool.and_false]
        · have h1' : l[i].Len.toNat ≤ room.toNat := Nat.le_of_not_lt fun q => h1 (lt64.2 q)
          rw [bN h1]
          have e1 : (l[i].Len - 1).toNat = l[i].Len.toNat - 1 := sub64 (by simp only [UInt64.reduceToNat]; omega)
          have e2 : ((18446744073709551615 : UInt64) - l[i].At).toNat = 18446744073709551615 - l[i].At.toNat := sub64 (by simp only [UInt64.reduceToNat]; omega)
          by_cases h2 : l[i].Len - 1 > (18446744073709551615 : UInt64) - l[i].At
          · rw [bP h2, twoN (okA_n (fun q => by have := lt64.1 h2; rw [e1, e2] at this; omega))]
          · have h2' : l[i].At.toNat + l[i].Len.toNat ≤ 18446744073709551616 := by
              have : ¬ ((18446744073709551615 : UInt64) - l[i].At).toNat < (l[i].Len - 1).toNat := fun q => h2 (lt64.2 q)
              rw [e1, e2] at this; omega
            rw [bN h2]
            have ih := gmemCheckL l hl nf (i + 1) (room - l[i].Len) (by omega) (by omega) (fun j hj hjl => by
              by_cases e : j = i
              · subst e; exact ⟨h0', h2'⟩
              · exact hp j (by omega) hjl)
            rw [prevE_succ h, sub64 h1'] at ih
            have eb : Nat.ble (sumM (l.drop (i + 1))) (room.toNat - l[i].Len.toNat) = Nat.ble (sumM (l[i] :: l.drop (i + 1))) room.toNat := by
              simp only [sumM]
              by_cases z : l[i].Len.toNat + sumM (l.drop (i + 1)) ≤ room.toNat
              · rw [Nat.ble_eq_true_of_le z, Nat.ble_eq_true_of_le (by omega)]
              · rw [ble_f z, ble_f (by omega)]
            rw [eb] at ih
            cases i with
            | zero =>
              rw [bN (by simp), wi_succ (by omega), ih, show prevE l 0 = 0 from rfl, okA_p ⟨h0', h2', Nat.zero_le _⟩]
            | succ j =>
              have hj : j < l.length := by omega
              obtain ⟨p1, p2⟩ := hp j (by omega) hj
              have hA2 := l[j].At.toNat_lt
              rw [bP (by omega), wi_pred (by omega), oS (ix_nat (getq hj)), prevE_succ hj]
              by_cases h3 : l[j + 1].At ≤ l[j].At
              · rw [bP h3, twoN (okA_n (fun q => by have := le64.1 h3; omega))]
              · have h3' : l[j].At.toNat < l[j + 1].At.toNat := Nat.lt_of_not_le fun q => h3 (le64.2 q)
                rw [bN h3]
                have e3 : (l[j + 1].At - l[j].At).toNat = l[j + 1].At.toNat - l[j].At.toNat := sub64 (by omega)
                by_cases h4 : l[j + 1].At - l[j].At < l[j].Len
                · rw [bP h4, twoN (okA_n (fun q => by have := lt64.1 h4; rw [e3] at this; omega))]
                · have h4' : l[j].At.toNat + l[j].Len.toNat ≤ l[j + 1].At.toNat := by
                    have : ¬ (l[j + 1].At - l[j].At).toNat < l[j].Len.toNat := fun q => h4 (lt64.2 q)
                    rw [e3] at this; omega
                  rw [bN h4, wi_succ (by omega), ih, okA_p ⟨h0', h2', h4'⟩]
    · rw [bN (by simp only [len]; omega), List.drop_of_length_le (by omega), twoP (by simp [okA, sumM])]
theorem gmemCheck (l : List Region) : gmem_Check l = some (errM l) := by
  unfold gmem_Check errM
  by_cases h : l.length > 16
  · rw [bP (by simp only [len]; omega), if_pos h]
  · rw [bN (by simp only [len]; omega), if_neg h]
    have := gmemCheckL l (by omega) fuel 0 1048576 (by omega) (by unfold fuel; omega) (fun j hj => by omega)
    exact this
theorem refMCheckL (l : List Region) (hl : l.length ≤ 16) : ∀ (nf i n : Nat), i ≤ l.length → l.length - i < nf → n ≤ 1048576 * i → (∀ j, j < i → ∀ h : j < l.length, 0 < l[j].Len.toNat ∧ l[j].At.toNat + l[j].Len.toNat ≤ 18446744073709551616) →
    ref_Check02L1 l nf (UInt64.ofNat n) (i : Int) = some (two (okA (prevE l i) (l.drop i) && Nat.ble (n + sumM (l.drop i)) 1048576))
  | 0, i, n, _, h, _, _ => by omega
  | nf + 1, i, n, hi, hn, hs, hp => by
    unfold ref_Check02L1 ref_Check02L1B
    by_cases h : i < l.length
    · have hd : l.drop i = l[i] :: l.drop (i + 1) := drop_ix h
      have hA := l[i].At.toNat_lt; have hL := l[i].Len.toNat_lt
      have gi := ix_nat (getq h)
      rw [bP (by simp only [len]; omega), hd]
      simp only [oS gi]
      by_cases h0 : l[i].Len = 0
      · rw [bE h0, twoN (okA_n (fun q => by rw [h0] at q; simp at q))]
      · have h0' : 0 < l[i].Len.toNat := by
          rcases Nat.eq_zero_or_pos l[i].Len.toNat with e | e
          · exact absurd (UInt64.toNat_inj.1 (by simpa using e)) h0
          · exact e
        rw [bF h0]
        by_cases h1 : l[i].Len > 1048576
        · rw [bP h1, twoN]
          rw [ble_f (by simp only [sumM]; have := lt64.1 h1; simp only [UInt64.reduceToNat] at this; omega), Bool.and_false]
        · have h1' : l[i].Len.toNat ≤ 1048576 := Nat.le_of_not_lt fun q => h1 (lt64.2 (by simpa using q))
          rw [bN h1]
          have e1 : (l[i].Len - 1).toNat = l[i].Len.toNat - 1 := sub64 (by simp only [UInt64.reduceToNat]; omega)
          by_cases h2 : l[i].At + (l[i].Len - 1) < l[i].At
          · rw [bP h2, twoN (okA_n (fun q => by have := lt64.1 h2; rw [UInt64.toNat_add, e1] at this; omega))]
          · have h2' : l[i].At.toNat + l[i].Len.toNat ≤ 18446744073709551616 := by
              have : ¬ (l[i].At + (l[i].Len - 1)).toNat < l[i].At.toNat := fun q => h2 (lt64.2 q)
              rw [UInt64.toNat_add, e1] at this; omega
            rw [bN h2]
            have ih := refMCheckL l hl nf (i + 1) (n + l[i].Len.toNat) (by omega) (by omega) (by omega) (fun j hj hjl => by
              by_cases e : j = i
              · subst e; exact ⟨h0', h2'⟩
              · exact hp j (by omega) hjl)
            have ea : UInt64.ofNat n + l[i].Len = UInt64.ofNat (n + l[i].Len.toNat) := by rw [UInt64.ofNat_add]; congr 1; simp
            rw [prevE_succ h, Nat.add_assoc] at ih
            cases i with
            | zero =>
              rw [bN (by simp), wi_succ (by omega), ea, ih, show prevE l 0 = 0 from rfl, okA_p ⟨h0', h2', Nat.zero_le _⟩]; rfl
            | succ j =>
              have hj : j < l.length := by omega
              obtain ⟨p1, p2⟩ := hp j (by omega) hj
              have gj := ix_nat (getq hj)
              have e3 : (l[j].Len - 1).toNat = l[j].Len.toNat - 1 := sub64 (by simp only [UInt64.reduceToNat]; omega)
              have e4 : (l[j].At + (l[j].Len - 1)).toNat = l[j].At.toNat + l[j].Len.toNat - 1 := by rw [UInt64.toNat_add, e3]; omega
              rw [bP (by omega), wi_pred (by omega)]
              simp only [oS gj]
              rw [prevE_succ hj]
              by_cases h3 : l[j + 1].At ≤ l[j].At + (l[j].Len - 1)
              · rw [bP h3, twoN (okA_n (fun q => by have := le64.1 h3; rw [e4] at this; omega))]
              · have h3' : l[j].At.toNat + l[j].Len.toNat ≤ l[j + 1].At.toNat := by
                  have : ¬ l[j + 1].At.toNat ≤ (l[j].At + (l[j].Len - 1)).toNat := fun q => h3 (le64.2 q)
                  rw [e4] at this; omega
                rw [bN h3, wi_succ (by omega), ea, ih, okA_p ⟨h0', h2', h3'⟩]; rfl
    · rw [bN (by simp only [len]; omega), List.drop_of_length_le (by omega)]
      simp only [sumM, okA, Bool.true_and, Nat.add_zero]
      by_cases q : n ≤ 1048576
      · rw [bN (fun z => by have := lt64.1 z; rw [UInt64.toNat_ofNat'] at this; simp only [UInt64.reduceToNat] at this; omega), twoP (Nat.ble_eq_true_of_le q)]
      · rw [bP (by rw [GT.gt, lt64, UInt64.toNat_ofNat']; simp only [UInt64.reduceToNat]; omega), twoN (ble_f q)]
theorem refMCheck (l : List Region) : ref_Check02 l = some (errM l) := by
  unfold ref_Check02 errM
  by_cases h : l.length > 16
  · rw [bP (by simp only [len]; omega), if_pos h]
  · rw [bN (by simp only [len]; omega), if_neg h]
    have := refMCheckL l (by omega) fuel 0 0 (by omega) (by unfold fuel; omega) (by omega) (fun j hj => by omega)
    rw [Nat.zero_add] at this; exact this
theorem errM_good {l : List Region} (h : goodM l) : errM l = 0 := errM_zero.2 h
def zer (l : List Region) : List (List UInt8) := l.map fun r => List.replicate r.Len.toNat 0
theorem sumM_get : ∀ {l : List Region} {i : Nat} (h : i < l.length), l[i].Len.toNat ≤ sumM l
  | [], i, h => by simp at h
  | r :: l, 0, _ => by simp [sumM]
  | r :: l, i + 1, h => by
    have := sumM_get (l := l) (i := i) (by simpa using h)
    simp only [sumM, List.getElem_cons_succ]; omega
theorem gmemNewL (l reg : List Region) (hl : l.length ≤ 16) (hs : sumM l ≤ 1048576) : ∀ (nf i : Nat), i ≤ l.length → l.length - i < nf → gmem_NewL1 l reg nf ((zer l).take i ++ List.replicate (l.length - i) []) (i : Int) = some (some ⟨reg, zer l⟩, 0)
  | 0, i, _, h => by omega
  | nf + 1, i, hi, hn => by
    have hz : (zer l).length = l.length := by simp [zer]
    unfold gmem_NewL1 gmem_NewL1B
    by_cases h : i < l.length
    · have hL := sumM_get h
      rw [bP (by simp only [len]; omega), oS (ix_nat (getq h)), cP (by omega)]
      have hlt : i < ((zer l).take i ++ List.replicate (l.length - i) []).length := by simp [hz]; omega
      rw [oS (ix_nat (getq hlt)), wi_succ (by omega)]
      have e : ((zer l).take i ++ List.replicate (l.length - i) []).set (Int.toNat (i : Int)) (List.replicate (Int.toNat (l[i].Len.toNat : Int)) 0) = (zer l).take (i + 1) ++ List.replicate (l.length - (i + 1)) [] := by
        rw [Int.toNat_natCast, Int.toNat_natCast, List.set_append_right _ _ (by simp; omega)]
        have e1 : i - ((zer l).take i).length = 0 := by simp [hz]; omega
        rw [e1, show l.length - i = (l.length - (i + 1)) + 1 by omega, List.replicate_succ, List.set_cons_zero, List.take_add_one, getq (by omega : i < (zer l).length)]
        simp [zer]
      rw [e]
      exact gmemNewL l reg hl hs nf (i + 1) (by omega) (by omega)
    · have e : i = l.length := by omega
      rw [bN (by simp only [len]; omega), e, Nat.sub_self, List.take_of_length_le (by omega)]
      simp
theorem new_ok {l : List Region} (h : goodM l) : gmem_New l = some (some ⟨l, zer l⟩, 0) := by
  have hl := h.1
  unfold gmem_New
  rw [oS (gmemCheck l), nE (errM_good h)]
  have hc : slices_Clone_apiRegionapiRegion l = some l := by unfold slices_Clone_apiRegionapiRegion; rw [cFits (by simp; omega)]
  rw [oS hc, cP (by simp only [len]; rw [wi_in (by omega) (by omega)]; omega)]
  have := gmemNewL l l hl h.2.2 fuel 0 (by omega) (by unfold fuel; omega)
  rw [List.take_zero, List.nil_append, Nat.sub_zero] at this
  exact this
theorem refNewL (l reg : List Region) (hl : l.length ≤ 16) (hs : sumM l ≤ 1048576) : ∀ (nf i : Nat), i ≤ l.length → l.length - i < nf → ref_New02L1 l nf reg ((zer l).take i) (i : Int) = some (some ⟨reg, zer l⟩, 0)
  | 0, i, _, h => by omega
  | nf + 1, i, hi, hn => by
    have hz : (zer l).length = l.length := by simp [zer]
    unfold ref_New02L1 ref_New02L1B
    by_cases h : i < l.length
    · have hL := sumM_get h
      rw [bP (by simp only [len]; omega), oS (ix_nat (getq h)), cP (by omega), cFits (by simp [hz]; omega), wi_succ (by omega)]
      have e : (zer l).take i ++ [List.replicate (Int.toNat (l[i].Len.toNat : Int)) 0] = (zer l).take (i + 1) := by
        rw [Int.toNat_natCast, List.take_add_one, getq (by omega : i < (zer l).length)]
        simp [zer]
      rw [e]
      exact refNewL l reg hl hs nf (i + 1) (by omega) (by omega)
    · rw [bN (by simp only [len]; omega), List.take_of_length_le (by omega)]
theorem rnew_ok {l : List Region} (h : goodM l) : ref_New02 l = some (some ⟨l, zer l⟩, 0) := by
  have hl := h.1
  unfold ref_New02
  rw [oS (refMCheck l), nE (errM_good h), cFits (by simp; omega)]
  have := refNewL l l hl h.2.2 fuel 0 (by omega) (by unfold fuel; omega)
  rw [List.take_zero] at this
  exact this
/-- where n bytes from a on lie: the region -/
def inR (a n : Nat) (r : Region) : Bool := decide (r.At.toNat ≤ a ∧ a + n ≤ r.At.toNat + r.Len.toNat)
def findR (l : List Region) (a n : Nat) : Option Nat := if n = 0 then none else l.findIdx? (inR a n)
/-- a memory as it is made and kept -/
def memOk (l : List Region) (b : List (List UInt8)) : Prop := goodM l ∧ b.length = l.length ∧ ∀ (i : Nat) (r : Region) (x : List UInt8), l[i]? = some r → b[i]? = some x → x.length = r.Len.toNat
theorem okA_get : ∀ {pe : Nat} {l : List Region}, okA pe l = true → ∀ {i : Nat} (h : i < l.length), pe ≤ l[i].At.toNat ∧ 0 < l[i].Len.toNat ∧ l[i].At.toNat + l[i].Len.toNat ≤ 18446744073709551616
  | pe, [], _, i, h => by simp at h
  | pe, r :: l, hk, 0, _ => by
    simp only [okA, Bool.and_eq_true, decide_eq_true_eq] at hk
    exact ⟨hk.1.2.2, hk.1.1, hk.1.2.1⟩
  | pe, r :: l, hk, i + 1, h => by
    simp only [okA, Bool.and_eq_true, decide_eq_true_eq] at hk
    have := okA_get hk.2 (i := i) (by simpa using h)
    simp only [List.getElem_cons_succ]
    exact ⟨by omega, this.2⟩
theorem okA_lt : ∀ {pe : Nat} {l : List Region}, okA pe l = true → ∀ {i j : Nat} (hij : i < j) (h : j < l.length), l[i].At.toNat + l[i].Len.toNat ≤ l[j].At.toNat
  | pe, [], _, i, j, _, h => by simp at h
  | pe, r :: l, hk, 0, j + 1, _, h => by
    simp only [okA, Bool.and_eq_true, decide_eq_true_eq] at hk
    exact (okA_get hk.2 (i := j) (by simpa using h)).1
  | pe, r :: l, hk, i + 1, j + 1, hij, h => by
    simp only [okA, Bool.and_eq_true, decide_eq_true_eq] at hk
    exact okA_lt hk.2 (i := i) (j := j) (by omega) (by simpa using h)
  | pe, r :: l, hk, 0, 0, hij, h => by omega
  | pe, r :: l, hk, i + 1, 0, hij, h => by omega
theorem mid_eq {i j : Nat} (hi : i ≤ j) (hj : j ≤ 16) : i64 (shr64 (u64 (wi ((i : Int) + (j : Int)))) ((1 : UInt64).toNat)) = (((i + j) / 2 : Nat) : Int) := by
  rw [wi_in (by omega) (by omega), show ((i : Int) + (j : Int)) = ((i + j : Nat) : Int) by omega, u64_of]
  have : ∀ n, n ≤ 32 → i64 (shr64 (UInt64.ofNat n) ((1 : UInt64).toNat)) = ((n / 2 : Nat) : Int) := by decide +kernel
  exact this _ (by omega)
theorem end_eq {r : Region} (h : 0 < r.Len.toNat ∧ r.At.toNat + r.Len.toNat ≤ 18446744073709551616) (a : UInt64) : ((r.Len - 1 + r.At) ≥ a) ↔ a.toNat < r.At.toNat + r.Len.toNat := by
  have e1 : (r.Len - 1).toNat = r.Len.toNat - 1 := sub64 (by simp only [UInt64.reduceToNat]; omega)
  have e2 : (r.Len - 1 + r.At).toNat = r.At.toNat + r.Len.toNat - 1 := by rw [UInt64.toNat_add, e1]; omega
  rw [GE.ge, le64, e2]; omega
theorem searchL (m : gmem_Mem) (hg : goodM m.l) (a : UInt64) : ∀ (nf i j : Nat), i ≤ j → j ≤ m.l.length → j - i < nf → (∀ k (h : k < m.l.length), k < i → m.l[k].At.toNat + m.l[k].Len.toNat ≤ a.toNat) → (∀ k (h : k < m.l.length), j ≤ k → a.toNat < m.l[k].At.toNat + m.l[k].Len.toNat) →
    ∃ s : Nat, sort_SearchFgmem_Mem_bytes_1L1 m a nf (i : Int) (j : Int) = some (s : Int) ∧ s ≤ m.l.length ∧ (∀ k (h : k < m.l.length), k < s → m.l[k].At.toNat + m.l[k].Len.toNat ≤ a.toNat) ∧ (∀ k (h : k < m.l.length), s ≤ k → a.toNat < m.l[k].At.toNat + m.l[k].Len.toNat)
  | 0, i, j, _, _, h, _, _ => by omega
  | nf + 1, i, j, hij, hj, hn, hlo, hhi => by
    have hl := hg.1
    unfold sort_SearchFgmem_Mem_bytes_1L1 sort_SearchFgmem_Mem_bytes_1L1B
    by_cases h : i < j
    · rw [bP (by omega), mid_eq hij (by omega)]
      have hm : (i + j) / 2 < m.l.length := by omega
      have gm := ix_nat (getq hm)
      have hb : gmem_Mem_bytes_1 (((i + j) / 2 : Nat) : Int) m a = some (decide ((m.l[(i + j) / 2].Len - 1 + m.l[(i + j) / 2].At) ≥ a)) := by
        unfold gmem_Mem_bytes_1; simp only [oS gm]
      have og := okA_get hg.2.1 hm
      rw [oS hb]
      by_cases hc : a.toNat < m.l[(i + j) / 2].At.toNat + m.l[(i + j) / 2].Len.toNat
      · rw [decide_eq_true ((end_eq og.2 a).2 hc), bFl (show (!true) = false from rfl)]
        refine searchL m hg a nf i ((i + j) / 2) (by omega) (by omega) (by omega) hlo (fun k hk hjk => ?_)
        by_cases e : k = (i + j) / 2
        · subst e; exact hc
        · have := okA_lt hg.2.1 (i := (i + j) / 2) (j := k) (by omega) hk
          omega
      · rw [decide_eq_false (fun q => hc ((end_eq og.2 a).1 q)), bT (show (!false) = true from rfl), wi_succ (by omega)]
        refine searchL m hg a nf ((i + j) / 2 + 1) j (by omega) (by omega) (by omega) (fun k hk hki => ?_) hhi
        by_cases e : k = (i + j) / 2
        · subst e; omega
        · have h1 := okA_lt hg.2.1 (i := k) (j := (i + j) / 2) (by omega) hm
          have h2 := okA_get hg.2.1 hm
          omega
    · have e : i = j := by omega
      subst e
      rw [bN (by omega)]
      exact ⟨i, rfl, hj, hlo, hhi⟩
theorem findR_some {l : List Region} {a n i : Nat} (hk : okA 0 l = true) (hn : 0 < n) (h : i < l.length) (h1 : l[i].At.toNat ≤ a) (h2 : a + n ≤ l[i].At.toNat + l[i].Len.toNat) : findR l a n = some i := by
  unfold findR
  rw [if_neg (by omega), List.findIdx?_eq_some_iff_getElem]
  refine ⟨h, by simp [inR, h1, h2], fun j hj => ?_⟩
  have := okA_lt hk hj h
  simp [inR]; omega
theorem findR_none {l : List Region} {a n : Nat} (h : ∀ (i : Nat) (hi : i < l.length), l[i].At.toNat ≤ a → ¬ a + n ≤ l[i].At.toNat + l[i].Len.toNat) : findR l a n = none := by
  unfold findR
  by_cases h0 : n = 0
  · rw [if_pos h0]
  · rw [if_neg h0, List.findIdx?_eq_none_iff]
    intro r hr
    obtain ⟨i, hi, rfl⟩ := List.mem_iff_getElem.1 hr
    have := h i hi
    simp only [inR, decide_eq_false_iff_not]; omega
/-- what 'bytes' hands out -/
def winR (l : List Region) (a n : Nat) : Option (Int × Int × Int) := match findR l a n with
  | none => none
  | some i => match l[i]? with | none => none | some r => some ((i : Int), ((a - r.At.toNat : Nat) : Int), ((a - r.At.toNat + n : Nat) : Int))
theorem bytes_eq (m : gmem_Mem) (hm : memOk m.l m.b) (a n : UInt64) : gmem_Mem_bytes m a n = some (winR m.l a.toNat n.toNat) := by
  obtain ⟨hg, hlen, hrow⟩ := hm
  have ha := a.toNat_lt; have hnb := n.toNat_lt
  unfold gmem_Mem_bytes winR
  by_cases h0 : n < 1
  · have : n.toNat = 0 := by have := lt64.1 h0; simp only [UInt64.reduceToNat] at this; omega
    rw [bP h0, show findR m.l a.toNat n.toNat = none by simp [findR, this]]
  · have hn : 0 < n.toNat := by
      rcases Nat.eq_zero_or_pos n.toNat with e | e
      · exact absurd (lt64.2 (by rw [e]; decide)) h0
      · exact e
    rw [bN h0]
    obtain ⟨s, hs, hsl, hlo, hhi⟩ := searchL m hg a fuel 0 m.l.length (by omega) (by omega) (by have := hg.1; unfold fuel; omega) (fun k hk h => by omega) (fun k hk h => by omega)
    have hsrch : sort_SearchFgmem_Mem_bytes_1 (len m.l) m a = some (s : Int) := by unfold sort_SearchFgmem_Mem_bytes_1; exact hs
    rw [oS hsrch]
    by_cases e : s = m.l.length
    · rw [bE (by simp only [len]; omega), findR_none (fun i hi h1 => by have := hlo i hi (by omega); omega)]
    · have hslt : s < m.l.length := by omega
      have og := okA_get hg.2.1 hslt
      have hh := hhi s hslt (Nat.le_refl _)
      have gi := ix_nat (getq hslt)
      rw [bF (by simp only [len]; omega)]
      simp only [oS gi]
      by_cases h2 : a < m.l[s].At
      · have h2' := lt64.1 h2
        rw [bP h2, findR_none (fun i hi h1 => by
          rcases Nat.lt_trichotomy i s with q | q | q
          · have := hlo i hi q; omega
          · subst q; omega
          · have := okA_lt hg.2.1 q hi; omega)]
      · have h2' : m.l[s].At.toNat ≤ a.toNat := Nat.le_of_not_lt fun q => h2 (lt64.2 q)
        have e1 : (a - m.l[s].At).toNat = a.toNat - m.l[s].At.toNat := sub64 h2'
        have e2 : (m.l[s].Len - (a - m.l[s].At)).toNat = m.l[s].Len.toNat - (a.toNat - m.l[s].At.toNat) := by rw [sub64 (by rw [e1]; omega), e1]
        rw [bN h2]
        by_cases h3 : n > m.l[s].Len - (a - m.l[s].At)
        · have h3' := lt64.1 h3
          rw [e2] at h3'
          rw [bP h3, findR_none (fun i hi h1 => by
            rcases Nat.lt_trichotomy i s with q | q | q
            · have := hlo i hi q; omega
            · subst q; omega
            · have := okA_lt hg.2.1 q hi; omega)]
        · have h3' : n.toNat ≤ m.l[s].Len.toNat - (a.toNat - m.l[s].At.toNat) := by
            rw [← e2]; exact Nat.le_of_not_lt fun q => h3 (lt64.2 q)
          have hb : s < m.b.length := by omega
          have hr := hrow s _ _ (getq hslt) (getq hb)
          have hL := m.l[s].Len.toNat_lt
          have e4 : (a - m.l[s].At + n).toNat = a.toNat - m.l[s].At.toNat + n.toNat := by rw [UInt64.toNat_add, e1]; omega
          rw [bN h3, oS (ix_nat (getq hb)), e1, e4, cP (by simp only [len]; omega), findR_some hg.2.1 hn hslt h2' (by omega)]
          simp only [getq hslt]
/-- what is found is there -/
theorem findR_in {l : List Region} {a n i : Nat} (h : findR l a n = some i) : ∃ (hi : i < l.length), 0 < n ∧ l[i].At.toNat ≤ a ∧ a + n ≤ l[i].At.toNat + l[i].Len.toNat := by
  unfold findR at h
  by_cases h0 : n = 0
  · rw [if_pos h0] at h; cases h
  · rw [if_neg h0, List.findIdx?_eq_some_iff_getElem] at h
    obtain ⟨hi, h1, _⟩ := h
    simp only [inR, decide_eq_true_eq] at h1
    exact ⟨hi, by omega, h1.1, h1.2⟩
theorem has_eq (m : gmem_Mem) (hm : memOk m.l m.b) (a n : UInt64) : gmem_Mem_Has m a n = some (findR m.l a.toNat n.toNat).isSome := by
  unfold gmem_Mem_Has
  rw [oS (show gmem_Mem_made m = some true from rfl), oS (bytes_eq m hm a n)]
  unfold winR
  cases hf : findR m.l a.toNat n.toNat with
  | none => rfl
  | some i =>
    obtain ⟨hi, h0, h1, h2⟩ := findR_in hf
    have hb : i < m.b.length := by rw [hm.2.1]; exact hi
    have hr := hm.2.2 i _ _ (getq hi) (getq hb)
    simp only [getq hi]
    rw [onS]
    dsimp only
    rw [oS (ix_nat (getq hb)), cP (by simp only [len]; omega), cP (by omega)]
    rfl
/-- the n bytes from a on -/
def readR (l : List Region) (b : List (List UInt8)) (a n : Nat) : Option (List UInt8) := match findR l a n with
  | none => none
  | some i => match l[i]?, b[i]? with | some r, some x => some ((x.drop (a - r.At.toNat)).take n) | _, _ => none
theorem read_eqM (m : gmem_Mem) (hm : memOk m.l m.b) (a : UInt64) (n : Int) (hn : n ≤ 140737488355328) : gmem_Mem_Read m a n = some (if n < 0 then (([] : List UInt8), (2 : Int)) else if n = 0 then ([], 0) else match readR m.l m.b a.toNat n.toNat with | none => ([], 5) | some x => (x, 0)) := by
  unfold gmem_Mem_Read
  rw [oS (show gmem_Mem_made m = some true from rfl)]
  by_cases h0 : n < 0
  · rw [bP h0, if_pos h0]
  · rw [bN h0, if_neg h0]
    by_cases h1 : n = 0
    · rw [bE h1, if_pos h1]
    · obtain ⟨k, rfl⟩ : ∃ k : Nat, n = (k : Int) := ⟨n.toNat, by omega⟩
      rw [bF h1, if_neg h1, u64_of, oS (bytes_eq m hm a _), UInt64.toNat_ofNat', Nat.mod_eq_of_lt (by omega), Int.toNat_natCast]
      unfold winR readR
      cases hf : findR m.l a.toNat k with
      | none => rfl
      | some i =>
        obtain ⟨hi, q0, q1, q2⟩ := findR_in hf
        have hb : i < m.b.length := by rw [hm.2.1]; exact hi
        have hr := hm.2.2 i _ _ (getq hi) (getq hb)
        simp only [getq hi, getq hb]
        have hs : sub m.b[i] ((a.toNat - m.l[i].At.toNat : Nat) : Int) ((a.toNat - m.l[i].At.toNat + k : Nat) : Int) = (m.b[i].drop (a.toNat - m.l[i].At.toNat)).take k := by
          rw [sub_nat]; congr 1; omega
        rw [onS]
        dsimp only
        rw [oS (ix_nat (getq hb)), cP (by simp only [len]; omega), cP (by omega), hs]
        have hc : ∀ x : List UInt8, x.length ≤ k → slices_Clone_bytebyte x = some x := fun x hx => by unfold slices_Clone_bytebyte; rw [cFits (by simp; omega)]
        rw [oS (hc _ (by simp; omega))]
theorem find_eqL (m : dumbwaiterref02_Mem) (hm : memOk m.L m.B) (a n : UInt64) : ∀ (nf i : Nat), i ≤ m.L.length → m.L.length - i < nf → (∀ j (h : j < m.L.length), j < i → ¬ (n.toNat ≠ 0 ∧ inR a.toNat n.toNat m.L[j] = true)) →
    ref_Mem_find02L1 m a n nf (i : Int) = some (match findR m.L a.toNat n.toNat with | none => (-1, 0) | some k => ((k : Int), match m.L[k]? with | none => 0 | some r => ((a.toNat - r.At.toNat : Nat) : Int)))
  | 0, i, _, h, _ => by omega
  | nf + 1, i, hi, hn, hp => by
    have ha := a.toNat_lt
    have hl := hm.1.1
    unfold ref_Mem_find02L1 ref_Mem_find02L1B
    by_cases h : i < m.L.length
    · have og := okA_get hm.1.2.1 h
      have hAl := m.L[i].At.toNat_lt
      have hsum := sumM_get h
      have hsm := hm.1.2.2
      rw [bP (by simp only [len]; omega), oS (ix_nat (getq h)), wi_succ (by omega)]
      have next : ¬ (n.toNat ≠ 0 ∧ inR a.toNat n.toNat m.L[i] = true) → ref_Mem_find02L1 m a n nf ((i + 1 : Nat) : Int) = some (match findR m.L a.toNat n.toNat with | none => (-1, 0) | some k => ((k : Int), match m.L[k]? with | none => 0 | some r => ((a.toNat - r.At.toNat : Nat) : Int))) := fun q =>
        find_eqL m hm a n nf (i + 1) (by omega) (by omega) (fun j hj hji => by
          by_cases e : j = i
          · subst e; exact q
          · exact hp j hj (by omega))
      by_cases h1 : n ≥ 1
      · have h1' : 0 < n.toNat := by have := le64.1 h1; simp only [UInt64.reduceToNat] at this; omega
        rw [bP h1]
        by_cases h2 : a ≥ m.L[i].At
        · have h2' := le64.1 h2
          rw [bP h2]
          by_cases h3 : n ≤ m.L[i].Len
          · have h3' := le64.1 h3
            have e1 : (a - m.L[i].At).toNat = a.toNat - m.L[i].At.toNat := sub64 h2'
            have e2 : (m.L[i].Len - n).toNat = m.L[i].Len.toNat - n.toNat := sub64 h3'
            rw [bP h3]
            by_cases h4 : a - m.L[i].At ≤ m.L[i].Len - n
            · have h4' := le64.1 h4
              rw [e1, e2] at h4'
              rw [bP h4, findR_some hm.1.2.1 h1' h h2' (by omega), i64_of (by rw [e1]; omega), e1]
              simp only [getq h]
            · have h4' : ¬ a.toNat - m.L[i].At.toNat ≤ m.L[i].Len.toNat - n.toNat := by rw [← e1, ← e2]; exact fun q => h4 (le64.2 q)
              rw [bN h4]; exact next (fun q => by have := q.2; simp only [inR, decide_eq_true_eq] at this; omega)
          · have h3' : ¬ n.toNat ≤ m.L[i].Len.toNat := fun q => h3 (le64.2 q)
            rw [bN h3]; exact next (fun q => by have := q.2; simp only [inR, decide_eq_true_eq] at this; omega)
        · have h2' : ¬ m.L[i].At.toNat ≤ a.toNat := fun q => h2 (le64.2 q)
          rw [bN h2]; exact next (fun q => by have := q.2; simp only [inR, decide_eq_true_eq] at this; omega)
      · rw [bN h1]; exact next (fun q => h1 (le64.2 (by simp only [UInt64.reduceToNat]; omega)))
    · have hfn : findR m.L a.toNat n.toNat = none := by
        by_cases q : n.toNat = 0
        · simp [findR, q]
        · exact findR_none (fun j hj h1 h2 => hp j hj (by omega) ⟨q, by simp [inR, h1, h2]⟩)
      rw [bN (by simp only [len]; omega), hfn]
theorem find_eq (m : dumbwaiterref02_Mem) (hm : memOk m.L m.B) (a n : UInt64) : ref_Mem_find02 m a n = some (match findR m.L a.toNat n.toNat with | none => (-1, 0) | some k => ((k : Int), match m.L[k]? with | none => 0 | some r => ((a.toNat - r.At.toNat : Nat) : Int))) := by
  unfold ref_Mem_find02
  have hl := hm.1.1
  exact find_eqL m hm a n fuel 0 (by omega) (by unfold fuel; omega) (fun j _ h => by omega)
/-- xs laid at a -/
def writeR (l : List Region) (b : List (List UInt8)) (a : Nat) (xs : List UInt8) : Option (List (List UInt8)) := match findR l a xs.length with
  | none => none
  | some i => match l[i]?, b[i]? with | some r, some x => some (b.set i (x.take (a - r.At.toNat) ++ xs ++ x.drop (a - r.At.toNat + xs.length))) | _, _ => none
theorem copyAt_all {x xs : List UInt8} {o m : Nat} (h : o + xs.length ≤ m) : copyAt x (o : Int) (m : Int) xs = x.take o ++ xs ++ x.drop (o + xs.length) := by
  unfold copyAt
  simp only [Int.toNat_natCast]
  rw [show xs.take (m - o) = xs from List.take_of_length_le (by omega), Nat.min_eq_left (by omega)]
theorem write_eqM (m : gmem_Mem) (hm : memOk m.l m.b) (a : UInt64) (xs : List UInt8) (hn : xs.length ≤ 140737488355328) : gmem_Mem_Write m a xs = some (if xs = [] then ((0 : Int), m.b) else match writeR m.l m.b a.toNat xs with | none => (5, m.b) | some b => (0, b)) := by
  unfold gmem_Mem_Write
  rw [oS (show gmem_Mem_made m = some true from rfl)]
  by_cases h1 : xs = []
  · rw [bE (by rw [h1]; rfl), if_pos h1]
  · have hl : 0 < xs.length := List.length_pos_iff.2 h1
    rw [bF (by simp only [len]; omega), if_neg h1, show len xs = ((xs.length : Nat) : Int) from rfl, u64_of, oS (bytes_eq m hm a _), UInt64.toNat_ofNat', Nat.mod_eq_of_lt (by omega)]
    unfold winR writeR
    cases hf : findR m.l a.toNat xs.length with
    | none => rfl
    | some i =>
      obtain ⟨hi, q0, q1, q2⟩ := findR_in hf
      have hb : i < m.b.length := by rw [hm.2.1]; exact hi
      have hr := hm.2.2 i _ _ (getq hi) (getq hb)
      simp only [getq hi, getq hb]
      rw [onS]
      dsimp only
      rw [oS (ix_nat (getq hb)), cP (by simp only [len]; omega), cP (by omega), copyAt_all (by omega), Int.toNat_natCast]
theorem rwrite_eq (m : dumbwaiterref02_Mem) (hm : memOk m.L m.B) (a : UInt64) (xs : List UInt8) (hn : xs.length ≤ 140737488355328) : ref_Mem_Write02 m a xs = some (if xs = [] then ((0 : Int), m.B) else match writeR m.L m.B a.toNat xs with | none => (5, m.B) | some b => (0, b)) := by
  unfold ref_Mem_Write02
  by_cases h1 : xs = []
  · rw [bE (by rw [h1]; rfl), if_pos h1]
  · have hl : 0 < xs.length := List.length_pos_iff.2 h1
    rw [bF (by simp only [len]; omega), if_neg h1, show len xs = ((xs.length : Nat) : Int) from rfl, u64_of, oS (find_eq m hm a _), UInt64.toNat_ofNat', Nat.mod_eq_of_lt (by omega)]
    unfold writeR
    cases hf : findR m.L a.toNat xs.length with
    | none => rfl
    | some i =>
      obtain ⟨hi, q0, q1, q2⟩ := findR_in hf
      have hb : i < m.B.length := by rw [hm.2.1]; exact hi
      have hr := hm.2.2 i _ _ (getq hi) (getq hb)
      simp only [getq hi, getq hb]
      rw [bN (by omega), oS (ix_nat (getq hb)), cP (by simp only [len]; omega), show len m.B[i] = ((m.B[i].length : Nat) : Int) from rfl, copyAt_all (by omega), Int.toNat_natCast]
end Go.Proofs.Ytlofegfaphijpaa

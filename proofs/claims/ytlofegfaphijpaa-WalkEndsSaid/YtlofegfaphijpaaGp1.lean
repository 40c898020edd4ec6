/- The plain words: what the functions reckon, and that the law answers true. No condition. -/
import Derived.Test.YtlofegfaphijpaaMo1
import Derived.Test.YtlofegfaphijpaaGe2
section
namespace Go.Proofs.Ytlofegfaphijpaa
def two (p : Bool) : Int := bif p then 0 else 2
theorem twoP {p : Bool} (h : p = true) : two p = 0 := by rw [h]; rfl
theorem twoN {p : Bool} (h : p = false) : two p = 2 := by rw [h]; rfl
theorem blt_f {a b : Nat} (h : ¬ a < b) : Nat.blt a b = false := by
  cases e : Nat.blt a b with
  | false => rfl
  | true => exact absurd (Nat.blt_eq ▸ e) h
theorem wi_pred {i : Nat} (h : i < 9223372036854775807) : wi (((i + 1 : Nat) : Int) - 1) = (i : Int) := by rw [wi_in (by omega) (by omega)]; omega
theorem fuelS : fuel = 36893488147419103231 + 1 := rfl
theorem le64 {a b : UInt64} : (a ≤ b) ↔ a.toNat ≤ b.toNat := UInt64.le_iff_toNat_le
theorem lt64 {a b : UInt64} : (a < b) ↔ a.toNat < b.toNat := UInt64.lt_iff_toNat_lt
theorem sub64 {a b : UInt64} (h : b.toNat ≤ a.toNat) : (a - b).toNat = a.toNat - b.toNat := UInt64.toNat_sub_of_le _ _ (le64.2 h)
/-- xs laid into x from a on -/
def wrF (x : List UInt8) (a : Nat) (xs : List UInt8) : List UInt8 := x.take a ++ xs ++ x.drop (a + xs.length)
theorem wrF_nil (x : List UInt8) (a : Nat) : wrF x a [] = x := by simp [wrF]
theorem wrF_len {x xs : List UInt8} {a : Nat} (h : a + xs.length ≤ x.length) : (wrF x a xs).length = x.length := by
  simp only [wrF, List.length_append, List.length_take, List.length_drop]; omega
theorem pick_eq (n : Int) (m : Nat) (hm : 0 < m) (hm2 : m ≤ 1000000) : ∃ k : Nat, kit_Pick n (m : Int) = some (k : Int) ∧ k < m := by
  unfold kit_Pick
  have h1 : (remi n (m : Int)) = n.tmod m := rfl
  have h2 := Int.tmod_lt_of_pos n (show (0 : Int) < (m : Int) by omega)
  have h3 : -(m : Int) < n.tmod m := by
    have := Int.tmod_lt_of_pos (-n) (show (0 : Int) < (m : Int) by omega)
    rw [Int.neg_tmod] at this; omega
  rw [bN (by omega), cnF (by omega), h1]
  by_cases h : n.tmod m < 0
  · rw [bP h, wi_in (by omega) (by omega)]
    exact ⟨(n.tmod m + m).toNat, by congr 1; omega, by omega⟩
  · rw [bN h]
    exact ⟨(n.tmod m).toNat, by congr 1; omega, by omega⟩
theorem own_eq (b : List UInt8) (h : b.length ≤ 100000000) : kit_Own b = some b := by unfold kit_Own; rw [cFits (by simp; omega)]
end Go.Proofs.Ytlofegfaphijpaa

end

section
namespace Go.Proofs.Ytlofegfaphijpaa
/-- may regions be, from pe on? -/
def okA : Nat → List Region → Bool
  | _, [] => true
  | pe, r :: l => decide (0 < r.Len.toNat ∧ r.At.toNat + r.Len.toNat ≤ 18446744073709551616 ∧ pe ≤ r.At.toNat) && okA (r.At.toNat + r.Len.toNat) l
def sumM : List Region → Nat
  | [] => 0
  | r :: l => r.Len.toNat + sumM l
def goodM (l : List Region) : Prop := l.length ≤ 16 ∧ okA 0 l = true ∧ sumM l ≤ 1048576
def errM (l : List Region) : Int := if l.length > 16 then 2 else two (okA 0 l && Nat.ble (sumM l) 1048576)
theorem errM_zero {l : List Region} : errM l = 0 ↔ goodM l := by
  unfold errM goodM
  by_cases h : l.length > 16
  · rw [if_pos h]; constructor
    · intro q; cases q
    · intro q; omega
  · rw [if_neg h]
    cases h2 : okA 0 l && Nat.ble (sumM l) 1048576 with
    | true =>
      rw [twoP rfl]
      simp only [Bool.and_eq_true, Nat.ble_eq] at h2
      exact ⟨fun _ => ⟨by omega, h2⟩, fun _ => rfl⟩
    | false =>
      rw [twoN rfl]
      constructor
      · intro q; cases q
      · rintro ⟨_, q1, q2⟩
        rw [q1, Bool.true_and] at h2
        rw [show Nat.ble (sumM l) 1048576 = true by rw [Nat.ble_eq]; exact q2] at h2; cases h2
/-- where the one before ends -/
def prevE (l : List Region) : Nat → Nat
  | 0 => 0
  | i + 1 => match l[i]? with | some s => s.At.toNat + s.Len.toNat | none => 0
theorem prevE_succ {l : List Region} {i : Nat} (h : i < l.length) : prevE l (i + 1) = l[i].At.toNat + l[i].Len.toNat := by
  simp only [prevE, getq h]
theorem ble_f {a b : Nat} (h : ¬ a ≤ b) : Nat.ble a b = false := by
  cases e : Nat.ble a b with
  | false => rfl
  | true => exact absurd (Nat.ble_eq ▸ e) h
theorem okA_n {pe : Nat} {r : Region} {l : List Region} {q : Bool} (h : ¬ (0 < r.Len.toNat ∧ r.At.toNat + r.Len.toNat ≤ 18446744073709551616 ∧ pe ≤ r.At.toNat)) : (okA pe (r :: l) && q) = false := by
  simp only [okA]; rw [decide_eq_false h]; rfl
theorem okA_p {pe : Nat} {r : Region} {l : List Region} {q : Bool} (h : 0 < r.Len.toNat ∧ r.At.toNat + r.Len.toNat ≤ 18446744073709551616 ∧ pe ≤ r.At.toNat) : (okA pe (r :: l) && q) = (okA (r.At.toNat + r.Len.toNat) l && q) := by
  simp only [okA]; rw [decide_eq_true h]; rfl
theorem gmemCheckL (l : List Region) (hl : l.length ≤ 16) : ∀ (nf i : Nat) (room : UInt64), i ≤ l.length → l.length - i < nf → (∀ j, j < i → ∀ h : j < l.length, 0 < l[j].Len.toNat ∧ l[j].At.toNat + l[j].Len.toNat ≤ 18446744073709551616) →
    gmem_CheckL1 l nf room (i : Int) = some (two (okA (prevE l i) (l.drop i) && Nat.ble (sumM (l.drop i)) room.toNat))
  | 0, i, room, _, h, _ => by omega
  | nf + 1, i, room, hi, hn, hp => by
    unfold gmem_CheckL1 gmem_CheckL1B
    by_cases h : i < l.length
    · have hd : l.drop i = l[i] :: l.drop (i + 1) := drop_ix h
      have hA := l[i].At.toNat_lt; have hL := l[i].Len.toNat_lt
      rw [bP (by simp only [len]; omega), oS (ix_nat (getq h)), hd]
      by_cases h0 : l[i].Len < 1
      · rw [bP h0, twoN (okA_n (fun q => by have := lt64.1 h0; simp only [UInt64.reduceToNat] at this; omega))]
      · have h0' : 0 < l[i].Len.toNat := by
          rcases Nat.eq_zero_or_pos l[i].Len.toNat with e | e
          · exact absurd (lt64.2 (by rw [e]; decide)) h0
          · exact e
        rw [bN h0]
        by_cases h1 : l[i].Len > room
        · rw [bP h1, twoN]
          rw [ble_f (by simp only [sumM]; have := lt64.1 h1; omega), Bool.and_false]
        · have h1' : l[i].Len.toNat ≤ room.toNat := Nat.le_of_not_lt fun q => h1 (lt64.2 q)
          rw [bN h1]
          have e1 : (l[i].Len - 1).toNat = l[i].Len.toNat - 1 := sub64 (by simp only [UInt64.reduceToNat]; omega)
          have e2 : ((18446744073709551615 : UInt64) - l[i].At).toNat = 18446744073709551615 - l[i].At.toNat := sub64 (by simp only [UInt64.reduceToNat]; omega)
          by_cases h2 : l[i].Len - 1 > (18446744073709551615 : UInt64) - l[i].At
          · rw [bP h2, twoN (okA_n (fun q => by have := lt64.1 h2; rw [e1, e2] at this; omega))]
          · have h2' : l[i].At.toNat + l[i].Len.toNat ≤ 18446744073709551616 := by
              have : ¬ ((18446744073709551615 : UInt64) - l[i].At).toNat < (l[i].Len - 1).toNat := fun q => h2 (lt64.2 q)
              rw [e1, e2] at this; omega
            rw [bN h2]
            have ih := gmemCheckL l hl nf (i + 1) (room - l[i].Len) (by omega) (by omega) (fun j hj hjl => by
              by_cases e : j = i
              · subst e; exact ⟨h0', h2'⟩
              · exact hp j (by omega) hjl)
            rw [prevE_succ h, sub64 h1'] at ih
            have eb : Nat.ble (sumM (l.drop (i + 1))) (room.toNat - l[i].Len.toNat) = Nat.ble (sumM (l[i] :: l.drop (i + 1))) room.toNat := by
              simp only [sumM]
              by_cases z : l[i].Len.toNat + sumM (l.drop (i + 1)) ≤ room.toNat
              · rw [Nat.ble_eq_true_of_le z, Nat.ble_eq_true_of_le (by omega)]
              · rw [ble_f z, ble_f (by omega)]
            rw [eb] at ih
            cases i with
            | zero =>
              rw [bN (by simp), wi_succ (by omega), ih, show prevE l 0 = 0 from rfl, okA_p ⟨h0', h2', Nat.zero_le _⟩]
            | succ j =>
              have hj : j < l.length := by omega
              obtain ⟨p1, p2⟩ := hp j (by omega) hj
              have hA2 := l[j].At.toNat_lt
              rw [bP (by omega), wi_pred (by omega), oS (ix_nat (getq hj)), prevE_succ hj]
              by_cases h3 : l[j + 1].At ≤ l[j].At
              · rw [bP h3, twoN (okA_n (fun q => by have := le64.1 h3; omega))]
              · have h3' : l[j].At.toNat < l[j + 1].At.toNat := Nat.lt_of_not_le fun q => h3 (le64.2 q)
                rw [bN h3]
                have e3 : (l[j + 1].At - l[j].At).toNat = l[j + 1].At.toNat - l[j].At.toNat := sub64 (by omega)
                by_cases h4 : l[j + 1].At - l[j].At < l[j].Len
                · rw [bP h4, twoN (okA_n (fun q => by have := lt64.1 h4; rw [e3] at this; omega))]
                · have h4' : l[j].At.toNat + l[j].Len.toNat ≤ l[j + 1].At.toNat := by
                    have : ¬ (l[j + 1].At - l[j].At).toNat < l[j].Len.toNat := fun q => h4 (lt64.2 q)
                    rw [e3] at this; omega
                  rw [bN h4, wi_succ (by omega), ih, okA_p ⟨h0', h2', h4'⟩]
    · rw [bN (by simp only [len]; omega), List.drop_of_length_le (by omega), twoP (by simp [okA, sumM])]
theorem gmemCheck (l : List Region) : gmem_Check l = some (errM l) := by
  unfold gmem_Check errM
  by_cases h : l.length > 16
  · rw [bP (by simp only [len]; omega), if_pos h]
  · rw [bN (by simp only [len]; omega), if_neg h]
    have := gmemCheckL l (by omega) fuel 0 1048576 (by omega) (by unfold fuel; omega) (fun j hj => by omega)
    exact this
theorem refMCheckL (l : List Region) (hl : l.length ≤ 16) : ∀ (nf i n : Nat), i ≤ l.length → l.length - i < nf → n ≤ 1048576 * i → (∀ j, j < i → ∀ h : j < l.length, 0 < l[j].Len.toNat ∧ l[j].At.toNat + l[j].Len.toNat ≤ 18446744073709551616) →
    ref_Check02L1 l nf (UInt64.ofNat n) (i : Int) = some (two (okA (prevE l i) (l.drop i) && Nat.ble (n + sumM (l.drop i)) 1048576))
  | 0, i, n, _, h, _, _ => by omega
  | nf + 1, i, n, hi, hn, hs, hp => by
    unfold ref_Check02L1 ref_Check02L1B
    by_cases h : i < l.length
    · have hd : l.drop i = l[i] :: l.drop (i + 1) := drop_ix h
      have hA := l[i].At.toNat_lt; have hL := l[i].Len.toNat_lt
      have gi := ix_nat (getq h)
      rw [bP (by simp only [len]; omega), hd]
      simp only [oS gi]
      by_cases h0 : l[i].Len = 0
      · rw [bE h0, twoN (okA_n (fun q => by rw [h0] at q; simp at q))]
      · have h0' : 0 < l[i].Len.toNat := by
          rcases Nat.eq_zero_or_pos l[i].Len.toNat with e | e
          · exact absurd (UInt64.toNat_inj.1 (by simpa using e)) h0
          · exact e
        rw [bF h0]
        by_cases h1 : l[i].Len > 1048576
        · rw [bP h1, twoN]
          rw [ble_f (by simp only [sumM]; have := lt64.1 h1; simp only [UInt64.reduceToNat] at this; omega), Bool.and_false]
        · have h1' : l[i].Len.toNat ≤ 1048576 := Nat.le_of_not_lt fun q => h1 (lt64.2 (by simpa using q))
          rw [bN h1]
          have e1 : (l[i].Len - 1).toNat = l[i].Len.toNat - 1 := sub64 (by simp only [UInt64.reduceToNat]; omega)
          by_cases h2 : l[i].At + (l[i].Len - 1) < l[i].At
          · rw [bP h2, twoN (okA_n (fun q => by have := lt64.1 h2; rw [UInt64.toNat_add, e1] at this; omega))]
          · have h2' : l[i].At.toNat + l[i].Len.toNat ≤ 18446744073709551616 := by
              have : ¬ (l[i].At + (l[i].Len - 1)).toNat < l[i].At.toNat := fun q => h2 (lt64.2 q)
              rw [UInt64.toNat_add, e1] at this; omega
            rw [bN h2]
            have ih := refMCheckL l hl nf (i + 1) (n + l[i].Len.toNat) (by omega) (by omega) (by omega) (fun j hj hjl => by
              by_cases e : j = i
              · subst e; exact ⟨h0', h2'⟩
              · exact hp j (by omega) hjl)
            have ea : UInt64.ofNat n + l[i].Len = UInt64.ofNat (n + l[i].Len.toNat) := by rw [UInt64.ofNat_add]; congr 1; simp
            rw [prevE_succ h, Nat.add_assoc] at ih
            cases i with
            | zero =>
              rw [bN (by simp), wi_succ (by omega), ea, ih, show prevE l 0 = 0 from rfl, okA_p ⟨h0', h2', Nat.zero_le _⟩]; rfl
            | succ j =>
              have hj : j < l.length := by omega
              obtain ⟨p1, p2⟩ := hp j (by omega) hj
              have gj := ix_nat (getq hj)
              have e3 : (l[j].Len - 1).toNat = l[j].Len.toNat - 1 := sub64 (by simp only [UInt64.reduceToNat]; omega)
              have e4 : (l[j].At + (l[j].Len - 1)).toNat = l[j].At.toNat + l[j].Len.toNat - 1 := by rw [UInt64.toNat_add, e3]; omega
              rw [bP (by omega), wi_pred (by omega)]
              simp only [oS gj]
              rw [prevE_succ hj]
              by_cases h3 : l[j + 1].At ≤ l[j].At + (l[j].Len - 1)
              · rw [bP h3, twoN (okA_n (fun q => by have := le64.1 h3; rw [e4] at this; omega))]
              · have h3' : l[j].At.toNat + l[j].Len.toNat ≤ l[j + 1].At.toNat := by
                  have : ¬ l[j + 1].At.toNat ≤ (l[j].At + (l[j].Len - 1)).toNat := fun q => h3 (le64.2 q)
                  rw [e4] at this; omega
                rw [bN h3, wi_succ (by omega), ea, ih, okA_p ⟨h0', h2', h3'⟩]; rfl
    · rw [bN (by simp only [len]; omega), List.drop_of_length_le (by omega)]
      simp only [sumM, okA, Bool.true_and, Nat.add_zero]
      by_cases q : n ≤ 1048576
      · rw [bN (fun z => by have := lt64.1 z; rw [UInt64.toNat_ofNat'] at this; simp only [UInt64.reduceToNat] at this; omega), twoP (Nat.ble_eq_true_of_le q)]
      · rw [bP (by rw [GT.gt, lt64, UInt64.toNat_ofNat']; simp only [UInt64.reduceToNat]; omega), twoN (ble_f q)]
theorem refMCheck (l : List Region) : ref_Check02 l = some (errM l) := by
  unfold ref_Check02 errM
  by_cases h : l.length > 16
  · rw [bP (by simp only [len]; omega), if_pos h]
  · rw [bN (by simp only [len]; omega), if_neg h]
    have := refMCheckL l (by omega) fuel 0 0 (by omega) (by unfold fuel; omega) (by omega) (fun j hj => by omega)
    rw [Nat.zero_add] at this; exact this
theorem errM_good {l : List Region} (h : goodM l) : errM l = 0 := errM_zero.2 h
def zer (l : List Region) : List (List UInt8) := l.map fun r => List.replicate r.Len.toNat 0
theorem sumM_get : ∀ {l : List Region} {i : Nat} (h : i < l.length), l[i].Len.toNat ≤ sumM l
  | [], i, h => by simp at h
  | r :: l, 0, _ => by simp [sumM]
  | r :: l, i + 1, h => by
    have := sumM_get (l := l) (i := i) (by simpa using h)
    simp only [sumM, List.getElem_cons_succ]; omega
theorem gmemNewL (l reg : List Region) (hl : l.length ≤ 16) (hs : sumM l ≤ 1048576) : ∀ (nf i : Nat), i ≤ l.length → l.length - i < nf → gmem_NewL1 l reg nf ((zer l).take i ++ List.replicate (l.length - i) []) (i : Int) = some (some ⟨reg, zer l⟩, 0)
  | 0, i, _, h => by omega
  | nf + 1, i, hi, hn => by
    have hz : (zer l).length = l.length := by simp [zer]
    unfold gmem_NewL1 gmem_NewL1B
    by_cases h : i < l.length
    · have hL := sumM_get h
      rw [bP (by simp only [len]; omega), oS (ix_nat (getq h)), cP (by omega)]
      have hlt : i < ((zer l).take i ++ List.replicate (l.length - i) []).length := by simp [hz]; omega
      rw [oS (ix_nat (getq hlt)), wi_succ (by omega)]
      have e : ((zer l).take i ++ List.replicate (l.length - i) []).set (Int.toNat (i : Int)) (List.replicate (Int.toNat (l[i].Len.toNat : Int)) 0) = (zer l).take (i + 1) ++ List.replicate (l.length - (i + 1)) [] := by
        rw [Int.toNat_natCast, Int.toNat_natCast, List.set_append_right _ _ (by simp; omega)]
        have e1 : i - ((zer l).take i).length = 0 := by simp [hz]; omega
        rw [e1, show l.length - i = (l.length - (i + 1)) + 1 by omega, List.replicate_succ, List.set_cons_zero, List.take_add_one, getq (by omega : i < (zer l).length)]
        simp [zer]
      rw [e]
      exact gmemNewL l reg hl hs nf (i + 1) (by omega) (by omega)
    · have e : i = l.length := by omega
      rw [bN (by simp only [len]; omega), e, Nat.sub_self, List.take_of_length_le (by omega)]
      simp
theorem new_ok {l : List Region} (h : goodM l) : gmem_New l = some (some ⟨l, zer l⟩, 0) := by
  have hl := h.1
  unfold gmem_New
  rw [oS (gmemCheck l), nE (errM_good h)]
  have hc : slices_Clone_apiRegionapiRegion l = some l := by unfold slices_Clone_apiRegionapiRegion; rw [cFits (by simp; omega)]
  rw [oS hc, cP (by simp only [len]; rw [wi_in (by omega) (by omega)]; omega)]
  have := gmemNewL l l hl h.2.2 fuel 0 (by omega) (by unfold fuel; omega)
  rw [List.take_zero, List.nil_append, Nat.sub_zero] at this
  exact this
theorem refNewL (l reg : List Region) (hl : l.length ≤ 16) (hs : sumM l ≤ 1048576) : ∀ (nf i : Nat), i ≤ l.length → l.length - i < nf → ref_New02L1 l nf reg ((zer l).take i) (i : Int) = some (some ⟨reg, zer l⟩, 0)
  | 0, i, _, h => by omega
  | nf + 1, i, hi, hn => by
    have hz : (zer l).length = l.length := by simp [zer]
    unfold ref_New02L1 ref_New02L1B
    by_cases h : i < l.length
    · have hL := sumM_get h
      rw [bP (by simp only [len]; omega), oS (ix_nat (getq h)), cP (by omega), cFits (by simp [hz]; omega), wi_succ (by omega)]
      have e : (zer l).take i ++ [List.replicate (Int.toNat (l[i].Len.toNat : Int)) 0] = (zer l).take (i + 1) := by
        rw [Int.toNat_natCast, List.take_add_one, getq (by omega : i < (zer l).length)]
        simp [zer]
      rw [e]
      exact refNewL l reg hl hs nf (i + 1) (by omega) (by omega)
    · rw [bN (by simp only [len]; omega), List.take_of_length_le (by omega)]
theorem rnew_ok {l : List Region} (h : goodM l) : ref_New02 l = some (some ⟨l, zer l⟩, 0) := by
  have hl := h.1
  unfold ref_New02
  rw [oS (refMCheck l), nE (errM_good h), cFits (by simp; omega)]
  have := refNewL l l hl h.2.2 fuel 0 (by omega) (by unfold fuel; omega)
  rw [List.take_zero] at this
  exact this
/-- where n bytes from a on lie: the region -/
def inR (a n : Nat) (r : Region) : Bool := decide (r.At.toNat ≤ a ∧ a + n ≤ r.At.toNat + r.Len.toNat)
def findR (l : List Region) (a n : Nat) : Option Nat := if n = 0 then none else l.findIdx? (inR a n)
/-- a memory as it is made and kept -/
def memOk (l : List Region) (b : List (List UInt8)) : Prop := goodM l ∧ b.length = l.length ∧ ∀ (i : Nat) (r : Region) (x : List UInt8), l[i]? = some r → b[i]? = some x → x.length = r.Len.toNat
theorem okA_get : ∀ {pe : Nat} {l : List Region}, okA pe l = true → ∀ {i : Nat} (h : i < l.length), pe ≤ l[i].At.toNat ∧ 0 < l[i].Len.toNat ∧ l[i].At.toNat + l[i].Len.toNat ≤ 18446744073709551616
  | pe, [], _, i, h => by simp at h
  | pe, r :: l, hk, 0, _ => by
    simp only [okA, Bool.and_eq_true, decide_eq_true_eq] at hk
    exact ⟨hk.1.2.2, hk.1.1, hk.1.2.1⟩
  | pe, r :: l, hk, i + 1, h => by
    simp only [okA, Bool.and_eq_true, decide_eq_true_eq] at hk
    have := okA_get hk.2 (i := i) (by simpa using h)
    simp only [List.getElem_cons_succ]
    exact ⟨by omega, this.2⟩
theorem okA_lt : ∀ {pe : Nat} {l : List Region}, okA pe l = true → ∀ {i j : Nat} (hij : i < j) (h : j < l.length), l[i].At.toNat + l[i].Len.toNat ≤ l[j].At.toNat
  | pe, [], _, i, j, _, h => by simp at h
  | pe, r :: l, hk, 0, j + 1, _, h => by
    simp only [okA, Bool.and_eq_true, decide_eq_true_eq] at hk
    exact (okA_get hk.2 (i := j) (by simpa using h)).1
  | pe, r :: l, hk, i + 1, j + 1, hij, h => by
    simp only [okA, Bool.and_eq_true, decide_eq_true_eq] at hk
    exact okA_lt hk.2 (i := i) (j := j) (by omega) (by simpa using h)
  | pe, r :: l, hk, 0, 0, hij, h => by omega
  | pe, r :: l, hk, i + 1, 0, hij, h => by omega
theorem mid_eq {i j : Nat} (hi : i ≤ j) (hj : j ≤ 16) : i64 (shr64 (u64 (wi ((i : Int) + (j : Int)))) ((1 : UInt64).toNat)) = (((i + j) / 2 : Nat) : Int) := by
  rw [wi_in (by omega) (by omega), show ((i : Int) + (j : Int)) = ((i + j : Nat) : Int) by omega, u64_of]
  have : ∀ n, n ≤ 32 → i64 (shr64 (UInt64.ofNat n) ((1 : UInt64).toNat)) = ((n / 2 : Nat) : Int) := by decide +kernel
  exact this _ (by omega)
theorem end_eq {r : Region} (h : 0 < r.Len.toNat ∧ r.At.toNat + r.Len.toNat ≤ 18446744073709551616) (a : UInt64) : ((r.Len - 1 + r.At) ≥ a) ↔ a.toNat < r.At.toNat + r.Len.toNat := by
  have e1 : (r.Len - 1).toNat = r.Len.toNat - 1 := sub64 (by simp only [UInt64.reduceToNat]; omega)
  have e2 : (r.Len - 1 + r.At).toNat = r.At.toNat + r.Len.toNat - 1 := by rw [UInt64.toNat_add, e1]; omega
  rw [GE.ge, le64, e2]; omega
theorem searchL (m : gmem_Mem) (hg : goodM m.l) (a : UInt64) : ∀ (nf i j : Nat), i ≤ j → j ≤ m.l.length → j - i < nf → (∀ k (h : k < m.l.length), k < i → m.l[k].At.toNat + m.l[k].Len.toNat ≤ a.toNat) → (∀ k (h : k < m.l.length), j ≤ k → a.toNat < m.l[k].At.toNat + m.l[k].Len.toNat) →
    ∃ s : Nat, sort_SearchFgmem_Mem_bytes_1L1 m a nf (i : Int) (j : Int) = some (s : Int) ∧ s ≤ m.l.length ∧ (∀ k (h : k < m.l.length), k < s → m.l[k].At.toNat + m.l[k].Len.toNat ≤ a.toNat) ∧ (∀ k (h : k < m.l.length), s ≤ k → a.toNat < m.l[k].At.toNat + m.l[k].Len.toNat)
  | 0, i, j, _, _, h, _, _ => by omega
  | nf + 1, i, j, hij, hj, hn, hlo, hhi => by
    have hl := hg.1
    unfold sort_SearchFgmem_Mem_bytes_1L1 sort_SearchFgmem_Mem_bytes_1L1B
    by_cases h : i < j
    · rw [bP (by omega), mid_eq hij (by omega)]
      have hm : (i + j) / 2 < m.l.length := by omega
      have gm := ix_nat (getq hm)
      have hb : gmem_Mem_bytes_1 (((i + j) / 2 : Nat) : Int) m a = some (decide ((m.l[(i + j) / 2].Len - 1 + m.l[(i + j) / 2].At) ≥ a)) := by
        unfold gmem_Mem_bytes_1; simp only [oS gm]
      have og := okA_get hg.2.1 hm
      rw [oS hb]
      by_cases hc : a.toNat < m.l[(i + j) / 2].At.toNat + m.l[(i + j) / 2].Len.toNat
      · rw [decide_eq_true ((end_eq og.2 a).2 hc), bFl (show (!true) = false from rfl)]
        refine searchL m hg a nf i ((i + j) / 2) (by omega) (by omega) (by omega) hlo (fun k hk hjk => ?_)
        by_cases e : k = (i + j) / 2
        · subst e; exact hc
        · have := okA_lt hg.2.1 (i := (i + j) / 2) (j := k) (by omega) hk
          omega
      · rw [decide_eq_false (fun q => hc ((end_eq og.2 a).1 q)), bT (show (!false) = true from rfl), wi_succ (by omega)]
        refine searchL m hg a nf ((i + j) / 2 + 1) j (by omega) (by omega) (by omega) (fun k hk hki => ?_) hhi
        by_cases e : k = (i + j) / 2
        · subst e; omega
        · have h1 := okA_lt hg.2.1 (i := k) (j := (i + j) / 2) (by omega) hm
          have h2 := okA_get hg.2.1 hm
          omega
    · have e : i = j := by omega
      subst e
      rw [bN (by omega)]
      exact ⟨i, rfl, hj, hlo, hhi⟩
theorem findR_some {l : List Region} {a n i : Nat} (hk : okA 0 l = true) (hn : 0 < n) (h : i < l.length) (h1 : l[i].At.toNat ≤ a) (h2 : a + n ≤ l[i].At.toNat + l[i].Len.toNat) : findR l a n = some i := by
  unfold findR
  rw [if_neg (by omega), List.findIdx?_eq_some_iff_getElem]
  refine ⟨h, by simp [inR, h1, h2], fun j hj => ?_⟩
  have := okA_lt hk hj h
  simp [inR]; omega
theorem findR_none {l : List Region} {a n : Nat} (h : ∀ (i : Nat) (hi : i < l.length), l[i].At.toNat ≤ a → ¬ a + n ≤ l[i].At.toNat + l[i].Len.toNat) : findR l a n = none := by
  unfold findR
  by_cases h0 : n = 0
  · rw [if_pos h0]
  · rw [if_neg h0, List.findIdx?_eq_none_iff]
    intro r hr
    obtain ⟨i, hi, rfl⟩ := List.mem_iff_getElem.1 hr
    have := h i hi
    simp only [inR, decide_eq_false_iff_not]; omega
/-- what 'bytes' hands out -/
def winR (l : List Region) (a n : Nat) : Option (Int × Int × Int) := match findR l a n with
  | none => none
  | some i => match l[i]? with | none => none | some r => some ((i : Int), ((a - r.At.toNat : Nat) : Int), ((a - r.At.toNat + n : Nat) : Int))
theorem bytes_eq (m : gmem_Mem) (hm : memOk m.l m.b) (a n : UInt64) : gmem_Mem_bytes m a n = some (winR m.l a.toNat n.toNat) := by
  obtain ⟨hg, hlen, hrow⟩ := hm
  have ha := a.toNat_lt; have hnb := n.toNat_lt
  unfold gmem_Mem_bytes winR
  by_cases h0 : n < 1
  · have : n.toNat = 0 := by have := lt64.1 h0; simp only [UInt64.reduceToNat] at this; omega
    rw [bP h0, show findR m.l a.toNat n.toNat = none by simp [findR, this]]
  · have hn : 0 < n.toNat := by
      rcases Nat.eq_zero_or_pos n.toNat with e | e
      · exact absurd (lt64.2 (by rw [e]; decide)) h0
      · exact e
    rw [bN h0]
    obtain ⟨s, hs, hsl, hlo, hhi⟩ := searchL m hg a fuel 0 m.l.length (by omega) (by omega) (by have := hg.1; unfold fuel; omega) (fun k hk h => by omega) (fun k hk h => by omega)
    have hsrch : sort_SearchFgmem_Mem_bytes_1 (len m.l) m a = some (s : Int) := by unfold sort_SearchFgmem_Mem_bytes_1; exact hs
    rw [oS hsrch]
    by_cases e : s = m.l.length
    · rw [bE (by simp only [len]; omega), findR_none (fun i hi h1 => by have := hlo i hi (by omega); omega)]
    · have hslt : s < m.l.length := by omega
      have og := okA_get hg.2.1 hslt
      have hh := hhi s hslt (Nat.le_refl _)
      have gi := ix_nat (getq hslt)
      rw [bF (by simp only [len]; omega)]
      simp only [oS gi]
      by_cases h2 : a < m.l[s].At
      · have h2' := lt64.1 h2
        rw [bP h2, findR_none (fun i hi h1 => by
          rcases Nat.lt_trichotomy i s with q | q | q
          · have := hlo i hi q; omega
          · subst q; omega
          · have := okA_lt hg.2.1 q hi; omega)]
      · have h2' : m.l[s].At.toNat ≤ a.toNat := Nat.le_of_not_lt fun q => h2 (lt64.2 q)
        have e1 : (a - m.l[s].At).toNat = a.toNat - m.l[s].At.toNat := sub64 h2'
        have e2 : (m.l[s].Len - (a - m.l[s].At)).toNat = m.l[s].Len.toNat - (a.toNat - m.l[s].At.toNat) := by rw [sub64 (by rw [e1]; omega), e1]
        rw [bN h2]
        by_cases h3 : n > m.l[s].Len - (a - m.l[s].At)
        · have h3' := lt64.1 h3
          rw [e2] at h3'
          rw [bP h3, findR_none (fun i hi h1 => by
            rcases Nat.lt_trichotomy i s with q | q | q
            · have := hlo i hi q; omega
            · subst q; omega
            · have := okA_lt hg.2.1 q hi; omega)]
        · have h3' : n.toNat ≤ m.l[s].Len.toNat - (a.toNat - m.l[s].At.toNat) := by
            rw [← e2]; exact Nat.le_of_not_lt fun q => h3 (lt64.2 q)
          have hb : s < m.b.length := by omega
          have hr := hrow s _ _ (getq hslt) (getq hb)
          have hL := m.l[s].Len.toNat_lt
          have e4 : (a - m.l[s].At + n).toNat = a.toNat - m.l[s].At.toNat + n.toNat := by rw [UInt64.toNat_add, e1]; omega
          rw [bN h3, oS (ix_nat (getq hb)), e1, e4, cP (by simp only [len]; omega), findR_some hg.2.1 hn hslt h2' (by omega)]
          simp only [getq hslt]
/-- what is found is there -/
theorem findR_in {l : List Region} {a n i : Nat} (h : findR l a n = some i) : ∃ (hi : i < l.length), 0 < n ∧ l[i].At.toNat ≤ a ∧ a + n ≤ l[i].At.toNat + l[i].Len.toNat := by
  unfold findR at h
  by_cases h0 : n = 0
  · rw [if_pos h0] at h; cases h
  · rw [if_neg h0, List.findIdx?_eq_some_iff_getElem] at h
    obtain ⟨hi, h1, _⟩ := h
    simp only [inR, decide_eq_true_eq] at h1
    exact ⟨hi, by omega, h1.1, h1.2⟩
theorem has_eq (m : gmem_Mem) (hm : memOk m.l m.b) (a n : UInt64) : gmem_Mem_Has m a n = some (findR m.l a.toNat n.toNat).isSome := by
  unfold gmem_Mem_Has
  rw [oS (show gmem_Mem_made m = some true from rfl), oS (bytes_eq m hm a n)]
  unfold winR
  cases hf : findR m.l a.toNat n.toNat with
  | none => rfl
  | some i =>
    obtain ⟨hi, h0, h1, h2⟩ := findR_in hf
    have hb : i < m.b.length := by rw [hm.2.1]; exact hi
    have hr := hm.2.2 i _ _ (getq hi) (getq hb)
    simp only [getq hi]
    rw [onS]
    dsimp only
    rw [oS (ix_nat (getq hb)), cP (by simp only [len]; omega), cP (by omega)]
    rfl
/-- the n bytes from a on -/
def readR (l : List Region) (b : List (List UInt8)) (a n : Nat) : Option (List UInt8) := match findR l a n with
  | none => none
  | some i => match l[i]?, b[i]? with | some r, some x => some ((x.drop (a - r.At.toNat)).take n) | _, _ => none
theorem read_eqM (m : gmem_Mem) (hm : memOk m.l m.b) (a : UInt64) (n : Int) (hn : n ≤ 140737488355328) : gmem_Mem_Read m a n = some (if n < 0 then (([] : List UInt8), (2 : Int)) else if n = 0 then ([], 0) else match readR m.l m.b a.toNat n.toNat with | none => ([], 5) | some x => (x, 0)) := by
  unfold gmem_Mem_Read
  rw [oS (show gmem_Mem_made m = some true from rfl)]
  by_cases h0 : n < 0
  · rw [bP h0, if_pos h0]
  · rw [bN h0, if_neg h0]
    by_cases h1 : n = 0
    · rw [bE h1, if_pos h1]
    · obtain ⟨k, rfl⟩ : ∃ k : Nat, n = (k : Int) := ⟨n.toNat, by omega⟩
      rw [bF h1, if_neg h1, u64_of, oS (bytes_eq m hm a _), UInt64.toNat_ofNat', Nat.mod_eq_of_lt (by omega), Int.toNat_natCast]
      unfold winR readR
      cases hf : findR m.l a.toNat k with
      | none => rfl
      | some i =>
        obtain ⟨hi, q0, q1, q2⟩ := findR_in hf
        have hb : i < m.b.length := by rw [hm.2.1]; exact hi
        have hr := hm.2.2 i _ _ (getq hi) (getq hb)
        simp only [getq hi, getq hb]
        have hs : sub m.b[i] ((a.toNat - m.l[i].At.toNat : Nat) : Int) ((a.toNat - m.l[i].At.toNat + k : Nat) : Int) = (m.b[i].drop (a.toNat - m.l[i].At.toNat)).take k := by
          rw [sub_nat]; congr 1; omega
        rw [onS]
        dsimp only
        rw [oS (ix_nat (getq hb)), cP (by simp only [len]; omega), cP (by omega), hs]
        have hc : ∀ x : List UInt8, x.length ≤ k → slices_Clone_bytebyte x = some x := fun x hx => by unfold slices_Clone_bytebyte; rw [cFits (by simp; omega)]
        rw [oS (hc _ (by simp; omega))]
theorem find_eqL (m : dumbwaiterref02_Mem) (hm : memOk m.L m.B) (a n : UInt64) : ∀ (nf i : Nat), i ≤ m.L.length → m.L.length - i < nf → (∀ j (h : j < m.L.length), j < i → ¬ (n.toNat ≠ 0 ∧ inR a.toNat n.toNat m.L[j] = true)) →
    ref_Mem_find02L1 m a n nf (i : Int) = some (match findR m.L a.toNat n.toNat with | none => (-1, 0) | some k => ((k : Int), match m.L[k]? with | none => 0 | some r => ((a.toNat - r.At.toNat : Nat) : Int)))
  | 0, i, _, h, _ => by omega
  | nf + 1, i, hi, hn, hp => by
    have ha := a.toNat_lt
    have hl := hm.1.1
    unfold ref_Mem_find02L1 ref_Mem_find02L1B
    by_cases h : i < m.L.length
    · have og := okA_get hm.1.2.1 h
      have hAl := m.L[i].At.toNat_lt
      have hsum := sumM_get h
      have hsm := hm.1.2.2
      rw [bP (by simp only [len]; omega), oS (ix_nat (getq h)), wi_succ (by omega)]
      have next : ¬ (n.toNat ≠ 0 ∧ inR a.toNat n.toNat m.L[i] = true) → ref_Mem_find02L1 m a n nf ((i + 1 : Nat) : Int) = some (match findR m.L a.toNat n.toNat with | none => (-1, 0) | some k => ((k : Int), match m.L[k]? with | none => 0 | some r => ((a.toNat - r.At.toNat : Nat) : Int))) := fun q =>
        find_eqL m hm a n nf (i + 1) (by omega) (by omega) (fun j hj hji => by
          by_cases e : j = i
          · subst e; exact q
          · exact hp j hj (by omega))
      by_cases h1 : n ≥ 1
      · have h1' : 0 < n.toNat := by have := le64.1 h1; simp only [UInt64.reduceToNat] at this; omega
        rw [bP h1]
        by_cases h2 : a ≥ m.L[i].At
        · have h2' := le64.1 h2
          rw [bP h2]
          by_cases h3 : n ≤ m.L[i].Len
          · have h3' := le64.1 h3
            have e1 : (a - m.L[i].At).toNat = a.toNat - m.L[i].At.toNat := sub64 h2'
            have e2 : (m.L[i].Len - n).toNat = m.L[i].Len.toNat - n.toNat := sub64 h3'
            rw [bP h3]
            by_cases h4 : a - m.L[i].At ≤ m.L[i].Len - n
            · have h4' := le64.1 h4
              rw [e1, e2] at h4'
              rw [bP h4, findR_some hm.1.2.1 h1' h h2' (by omega), i64_of (by rw [e1]; omega), e1]
              simp only [getq h]
            · have h4' : ¬ a.toNat - m.L[i].At.toNat ≤ m.L[i].Len.toNat - n.toNat := by rw [← e1, ← e2]; exact fun q => h4 (le64.2 q)
              rw [bN h4]; exact next (fun q => by have := q.2; simp only [inR, decide_eq_true_eq] at this; omega)
          · have h3' : ¬ n.toNat ≤ m.L[i].Len.toNat := fun q => h3 (le64.2 q)
            rw [bN h3]; exact next (fun q => by have := q.2; simp only [inR, decide_eq_true_eq] at this; omega)
        · have h2' : ¬ m.L[i].At.toNat ≤ a.toNat := fun q => h2 (le64.2 q)
          rw [bN h2]; exact next (fun q => by have := q.2; simp only [inR, decide_eq_true_eq] at this; omega)
      · rw [bN h1]; exact next (fun q => h1 (le64.2 (by simp only [UInt64.reduceToNat]; omega)))
    · have hfn : findR m.L a.toNat n.toNat = none := by
        by_cases q : n.toNat = 0
        · simp [findR, q]
        · exact findR_none (fun j hj h1 h2 => hp j hj (by omega) ⟨q, by simp [inR, h1, h2]⟩)
      rw [bN (by simp only [len]; omega), hfn]
theorem find_eq (m : dumbwaiterref02_Mem) (hm : memOk m.L m.B) (a n : UInt64) : ref_Mem_find02 m a n = some (match findR m.L a.toNat n.toNat with | none => (-1, 0) | some k => ((k : Int), match m.L[k]? with | none => 0 | some r => ((a.toNat - r.At.toNat : Nat) : Int))) := by
  unfold ref_Mem_find02
  have hl := hm.1.1
  exact find_eqL m hm a n fuel 0 (by omega) (by unfold fuel; omega) (fun j _ h => by omega)
/-- xs laid at a -/
def writeR (l : List Region) (b : List (List UInt8)) (a : Nat) (xs : List UInt8) : Option (List (List UInt8)) := match findR l a xs.length with
  | none => none
  | some i => match l[i]?, b[i]? with | some r, some x => some (b.set i (x.take (a - r.At.toNat) ++ xs ++ x.drop (a - r.At.toNat + xs.length))) | _, _ => none
theorem copyAt_all {x xs : List UInt8} {o m : Nat} (h : o + xs.length ≤ m) : copyAt x (o : Int) (m : Int) xs = x.take o ++ xs ++ x.drop (o + xs.length) := by
  unfold copyAt
  simp only [Int.toNat_natCast]
  rw [show xs.take (m - o) = xs from List.take_of_length_le (by omega), Nat.min_eq_left (by omega)]
theorem write_eqM (m : gmem_Mem) (hm : memOk m.l m.b) (a : UInt64) (xs : List UInt8) (hn : xs.length ≤ 140737488355328) : gmem_Mem_Write m a xs = some (if xs = [] then ((0 : Int), m.b) else match writeR m.l m.b a.toNat xs with | none => (5, m.b) | some b => (0, b)) := by
  unfold gmem_Mem_Write
  rw [oS (show gmem_Mem_made m = some true from rfl)]
  by_cases h1 : xs = []
  · rw [bE (by rw [h1]; rfl), if_pos h1]
  · have hl : 0 < xs.length := List.length_pos_iff.2 h1
    rw [bF (by simp only [len]; omega), if_neg h1, show len xs = ((xs.length : Nat) : Int) from rfl, u64_of, oS (bytes_eq m hm a _), UInt64.toNat_ofNat', Nat.mod_eq_of_lt (by omega)]
    unfold winR writeR
    cases hf : findR m.l a.toNat xs.length with
    | none => rfl
    | some i =>
      obtain ⟨hi, q0, q1, q2⟩ := findR_in hf
      have hb : i < m.b.length := by rw [hm.2.1]; exact hi
      have hr := hm.2.2 i _ _ (getq hi) (getq hb)
      simp only [getq hi, getq hb]
      rw [onS]
      dsimp only
      rw [oS (ix_nat (getq hb)), cP (by simp only [len]; omega), cP (by omega), copyAt_all (by omega), Int.toNat_natCast]
theorem rwrite_eq (m : dumbwaiterref02_Mem) (hm : memOk m.L m.B) (a : UInt64) (xs : List UInt8) (hn : xs.length ≤ 140737488355328) : ref_Mem_Write02 m a xs = some (if xs = [] then ((0 : Int), m.B) else match writeR m.L m.B a.toNat xs with | none => (5, m.B) | some b => (0, b)) := by
  unfold ref_Mem_Write02
  by_cases h1 : xs = []
  · rw [bE (by rw [h1]; rfl), if_pos h1]
  · have hl : 0 < xs.length := List.length_pos_iff.2 h1
    rw [bF (by simp only [len]; omega), if_neg h1, show len xs = ((xs.length : Nat) : Int) from rfl, u64_of, oS (find_eq m hm a _), UInt64.toNat_ofNat', Nat.mod_eq_of_lt (by omega)]
    unfold writeR
    cases hf : findR m.L a.toNat xs.length with
    | none => rfl
    | some i =>
      obtain ⟨hi, q0, q1, q2⟩ := findR_in hf
      have hb : i < m.B.length := by rw [hm.2.1]; exact hi
      have hr := hm.2.2 i _ _ (getq hi) (getq hb)
      simp only [getq hi, getq hb]
      rw [bN (by omega), oS (ix_nat (getq hb)), cP (by simp only [len]; omega), show len m.B[i] = ((m.B[i].length : Nat) : Int) from rfl, copyAt_all (by omega), Int.toNat_natCast]
def lenR (b : List (List UInt8)) : Nat := b.flatten.length
theorem lenR_cons (x : List UInt8) (b : List (List UInt8)) : lenR (x :: b) = x.length + lenR b := by simp [lenR]
theorem grow_eq (n : Nat) (h : n ≤ 140737488355328) : slices_Grow_bytebyten0 (n : Int) = some [] := by
  unfold slices_Grow_bytebyten0 slices_Grow_bytebyten0J1
  have e : wi ((n : Int) - wi ((0 : Int) - 0)) = (n : Int) := by rw [show wi ((0 : Int) - 0) = 0 from rfl, wi_in (by omega) (by omega)]; omega
  rw [cN (by omega), e]
  by_cases q : (n : Int) > 0
  · rw [bP q, cP (by omega), cP (by simp only [len]; omega)]; rfl
  · rw [bN q]
theorem concat4 (b : List (List UInt8)) (hl : b.length ≤ 1000000) (hs : lenR b ≤ 100000000000000) : ∀ (nf i : Nat), i ≤ b.length → b.length - i < nf → slices_Concat_bytebyteL4 b nf (b.take i).flatten (i : Int) = some b.flatten
  | 0, i, _, h => by omega
  | nf + 1, i, hi, hn => by
    unfold slices_Concat_bytebyteL4 slices_Concat_bytebyteL4B
    by_cases h : i < b.length
    · have e : (b.take i).flatten ++ b[i] = (b.take (i + 1)).flatten := by
        rw [List.take_add_one, getq h, List.flatten_append]; simp
      have hle : ((b.take i).flatten ++ b[i]).length ≤ b.flatten.length := by
        rw [e]
        conv => rhs; rw [← List.take_append_drop (i + 1) b, List.flatten_append, List.length_append]
        omega
      rw [List.length_append] at hle
      unfold lenR at hs
      rw [bP (by simp only [len]; omega), oS (ix_nat (getq h)), cFits (by omega), wi_succ (by omega), e]
      exact concat4 b hl hs nf (i + 1) (by omega) (by omega)
    · rw [bN (by simp only [len]; omega), List.take_of_length_le (by omega)]
theorem concat1 (b : List (List UInt8)) (hl : b.length ≤ 1000000) (hs : lenR b ≤ 100000000000000) : ∀ (nf i : Nat), i ≤ b.length → b.length - i < nf → slices_Concat_bytebyteL1 b nf ((lenR (b.take i) : Nat) : Int) (i : Int) = some b.flatten
  | 0, i, _, h => by omega
  | nf + 1, i, hi, hn => by
    unfold slices_Concat_bytebyteL1 slices_Concat_bytebyteL1B
    have hle : lenR (b.take i) ≤ lenR b := by
      unfold lenR
      conv => rhs; rw [← List.take_append_drop i b, List.flatten_append, List.length_append]
      omega
    by_cases h : i < b.length
    · have e : lenR (b.take (i + 1)) = lenR (b.take i) + b[i].length := by
        unfold lenR
        rw [List.take_add_one, getq h, List.flatten_append, List.length_append]; simp
      have hle2 : lenR (b.take (i + 1)) ≤ lenR b := by
        unfold lenR
        conv => rhs; rw [← List.take_append_drop (i + 1) b, List.flatten_append, List.length_append]
        omega
      have ew : wi (((lenR (b.take i) : Nat) : Int) + len b[i]) = ((lenR (b.take (i + 1)) : Nat) : Int) := by
        rw [wi_in (by simp only [len]; omega) (by simp only [len]; omega), e]; simp only [len]; omega
      rw [bP (by simp only [len]; omega), oS (ix_nat (getq h)), ew, cN (by omega)]
      unfold slices_Concat_bytebyteJ3 slices_Concat_bytebyteJ2
      rw [ew, wi_succ (by omega)]
      exact concat1 b hl hs nf (i + 1) (by omega) (by omega)
    · rw [bN (by simp only [len]; omega), oS (grow_eq _ (by omega))]
      have := concat4 b hl hs fuel 0 (by omega) (by unfold fuel; omega)
      simpa using this
theorem concat_eq (b : List (List UInt8)) (hl : b.length ≤ 1000000) (hs : lenR b ≤ 100000000000000) : slices_Concat_bytebyte b = some b.flatten := by
  unfold slices_Concat_bytebyte
  have := concat1 b hl hs fuel 0 (by omega) (by unfold fuel; omega)
  simpa [lenR] using this
theorem memOk_len : ∀ {l : List Region} {b : List (List UInt8)}, b.length = l.length → (∀ (i : Nat) (r : Region) (x : List UInt8), l[i]? = some r → b[i]? = some x → x.length = r.Len.toNat) → lenR b = sumM l
  | [], [], _, _ => rfl
  | [], _ :: _, h, _ => by simp at h
  | _ :: _, [], h, _ => by simp at h
  | r :: l, x :: b, h, hr => by
    rw [lenR_cons, memOk_len (l := l) (b := b) (by simpa using h) (fun i r' x' a c => hr (i + 1) r' x' a c), hr 0 r x rfl rfl]; rfl
theorem image_eq (m : gmem_Mem) (hm : memOk m.l m.b) : gmem_Mem_Image m = some m.b.flatten := by
  unfold gmem_Mem_Image
  have h1 := memOk_len hm.2.1 hm.2.2
  have h2 := hm.1.2.2; have h3 := hm.1.1; have h4 := hm.2.1
  rw [oS (show gmem_Mem_made m = some true from rfl), oS (concat_eq m.b (by omega) (by omega))]
end Go.Proofs.Ytlofegfaphijpaa

end

section
namespace Go.Proofs.Ytlofegfaphijpaa
/-- may segments be, behind one that is written or not? -/
def okS : Bool → List Seg → Bool
  | _, [] => true
  | w, s :: r => decide (0 < s.Len.toNat ∧ s.At.toNat + s.Len.toNat ≤ 18446744073709551616 ∧ (w = true → s.Write = true)) && okS s.Write r
def sumS : List Seg → Nat
  | [] => 0
  | s :: r => s.Len.toNat + sumS r
/-- may a buffer be? -/
def goodS (l : List Seg) : Prop := l.length ≤ 64 ∧ okS false l = true ∧ sumS l < 4294967296
instance (l : List Seg) : Decidable (goodS l) := by unfold goodS; infer_instance
def errS (l : List Seg) : Int := if l.length > 64 then 3 else two (okS false l && Nat.blt (sumS l) 4294967296)
theorem errS_zero {l : List Seg} : errS l = 0 ↔ goodS l := by
  unfold errS goodS
  by_cases h : l.length > 64
  · rw [if_pos h]; constructor
    · intro q; cases q
    · intro q; omega
  · rw [if_neg h]
    cases h2 : okS false l && Nat.blt (sumS l) 4294967296 with
    | true =>
      rw [twoP rfl]
      simp only [Bool.and_eq_true, Nat.blt_eq] at h2
      exact ⟨fun _ => ⟨by omega, h2⟩, fun _ => rfl⟩
    | false =>
      rw [twoN rfl]
      constructor
      · intro q; cases q
      · rintro ⟨_, q1, q2⟩
        rw [q1, Bool.true_and] at h2
        rw [show Nat.blt (sumS l) 4294967296 = true by rw [Nat.blt_eq]; exact q2] at h2; cases h2
theorem sumS_le : ∀ l : List Seg, sumS l ≤ 4294967295 * l.length
  | [] => by simp [sumS]
  | s :: r => by
    have := sumS_le r; have hs := s.Len.toNat_lt
    simp only [sumS, List.length_cons]; omega
/-- is the one before written? -/
def prevW (l : List Seg) : Nat → Bool
  | 0 => false
  | i + 1 => match l[i]? with | some s => s.Write | none => false
theorem prevW_succ {l : List Seg} {i : Nat} (h : i < l.length) : prevW l (i + 1) = l[i].Write := by
  simp only [prevW, getq h]
theorem len32 (s : Seg) (h : s.Len ≠ 0) : 0 < s.Len.toNat := by
  rcases Nat.eq_zero_or_pos s.Len.toNat with e | e
  · exact absurd (UInt32.toNat_inj.1 (by simpa using e)) h
  · exact e
theorem add64 (n : Nat) (x : UInt32) : UInt64.ofNat n + x.toUInt64 = UInt64.ofNat (n + x.toNat) := by
  rw [UInt64.ofNat_add]; congr 1
  apply UInt64.toNat_inj.1
  have := x.toNat_lt
  simp only [UInt32.toNat_toUInt64, UInt64.toNat_ofNat']; omega
theorem over1 (s : Seg) (h : 0 < s.Len.toNat) : (s.Len.toUInt64 - 1 > (18446744073709551615 : UInt64) - s.At) ↔ ¬ s.At.toNat + s.Len.toNat ≤ 18446744073709551616 := by
  have h1 := s.Len.toNat_lt; have h2 := s.At.toNat_lt
  rw [GT.gt, UInt64.lt_iff_toNat_lt, UInt64.toNat_sub_of_le, UInt64.toNat_sub_of_le, UInt32.toNat_toUInt64]
  · simp only [UInt64.reduceToNat]; omega
  · rw [UInt64.le_iff_toNat_le, UInt32.toNat_toUInt64]; simp only [UInt64.reduceToNat]; omega
  · rw [UInt64.le_iff_toNat_le]; simp only [UInt64.reduceToNat]; omega
theorem over2 (s : Seg) (h : 0 < s.Len.toNat) : (s.At + (s.Len.toUInt64 - 1) < s.At) ↔ ¬ s.At.toNat + s.Len.toNat ≤ 18446744073709551616 := by
  have h1 := s.Len.toNat_lt; have h2 := s.At.toNat_lt
  rw [UInt64.lt_iff_toNat_lt, UInt64.toNat_add, UInt64.toNat_sub_of_le, UInt32.toNat_toUInt64]
  · simp only [UInt64.reduceToNat]; omega
  · rw [UInt64.le_iff_toNat_le, UInt32.toNat_toUInt64]; simp only [UInt64.reduceToNat]; omega
theorem ge32 (n : Nat) (h : n < 18446744073709551616) : (UInt64.ofNat n ≥ 4294967296) ↔ ¬ n < 4294967296 := by
  rw [GE.ge, UInt64.le_iff_toNat_le, UInt64.toNat_ofNat']; simp only [UInt64.reduceToNat]; omega
theorem segCheckL (l : List Seg) (hl : l.length ≤ 64) : ∀ (nf i n : Nat) (m : Int), i ≤ l.length → l.length - i < nf → n + sumS (l.drop i) < 18446744073709551616 →
    seg_CheckL1 l nf m (UInt64.ofNat n) (i : Int) = some (two (okS (prevW l i) (l.drop i) && Nat.blt (n + sumS (l.drop i)) 4294967296))
  | 0, i, n, m, _, h, _ => by omega
  | nf + 1, i, n, m, hi, hn, hs => by
    unfold seg_CheckL1 seg_CheckL1B
    by_cases h : i < l.length
    · have hd : l.drop i = l[i] :: l.drop (i + 1) := drop_ix h
      rw [hd] at hs ⊢
      simp only [sumS] at hs
      have ih := segCheckL l hl nf (i + 1) (n + l[i].Len.toNat) m (by omega) (by omega) (by omega)
      rw [prevW_succ h] at ih
      simp only [okS, sumS]
      have c2 : seg_Check_1 2 (UInt64.ofNat n) = some 2 := rfl
      rw [bP (by simp only [len]; omega), oS (ix_nat (getq h))]
      by_cases h0 : l[i].Len = 0
      · rw [bP (show l[i].Len < 1 by rw [h0]; decide), oS c2]
        rw [twoN (by rw [h0]; simp)]
      have hp := len32 _ h0
      rw [bN (show ¬ l[i].Len < 1 by rw [UInt32.lt_iff_toNat_lt]; simp only [UInt32.reduceToNat]; omega)]
      by_cases ho : l[i].At.toNat + l[i].Len.toNat ≤ 18446744073709551616
      · rw [bN (fun q => (over1 _ hp).1 q ho)]
        have go : some (two (okS l[i].Write (l.drop (i + 1)) && Nat.blt (n + l[i].Len.toNat + sumS (l.drop (i + 1))) 4294967296)) = seg_CheckL1 l nf m (UInt64.ofNat n + l[i].Len.toUInt64) (wi ((i : Int) + 1)) := by
          rw [add64, wi_succ (by omega), ih]
        cases i with
        | zero =>
          rw [bN (by simp), ← go]
          congr 2
          simp [prevW, hp, ho, Nat.add_assoc]
        | succ j =>
          rw [bP (by omega), wi_pred (by omega), oS (ix_nat (getq (by omega)))]
          rw [prevW_succ (by omega)]
          by_cases hw : l[j].Write = true
          · rw [bT hw]
            by_cases hw2 : l[j + 1].Write = true
            · rw [bFl (by rw [hw2]; rfl), ← go]
              congr 2
              simp [hp, ho, hw2, Nat.add_assoc]
            · rw [bT (by simpa using hw2), oS c2, twoN (by simp [hw, hw2])]
          · rw [bFl (by simpa using hw), ← go]
            congr 2
            simp [hp, ho, hw, Nat.add_assoc]
      · rw [bP ((over1 _ hp).2 ho), oS c2, twoN (by simp [ho])]
    · have hd : l.drop i = [] := List.drop_of_length_le (by omega)
      rw [hd] at hs ⊢
      simp only [sumS, Nat.add_zero] at hs ⊢
      rw [bN (by simp only [len]; omega)]
      unfold seg_Check_1
      rw [show br ((0 : Int) == 0) (br (decide (UInt64.ofNat n ≥ 4294967296)) (some 2) (some 0)) (some 0) = br (decide (UInt64.ofNat n ≥ 4294967296)) (some (2 : Int)) (some 0) from rfl]
      by_cases hq : n < 4294967296
      · rw [bN (fun q => (ge32 n hs).1 q hq), obS, twoP (by simp [okS, hq])]
      · rw [bP ((ge32 n hs).2 hq), obS, twoN (by rw [blt_f hq, Bool.and_false])]
theorem segCheck (l : List Seg) : seg_Check l = some (errS l) := by
  unfold seg_Check errS
  by_cases h : l.length > 64
  · rw [bP (by simp only [len]; omega), if_pos h]
  · have := sumS_le l
    have h1 := segCheckL l (by omega) fuel 0 0 0 (by omega) (by unfold fuel; omega) (by simp; omega)
    rw [bN (by simp only [len]; omega), if_neg h]
    simp only [List.drop_zero, Nat.zero_add, prevW] at h1
    exact h1
theorem refCheckL (l : List Seg) (hl : l.length ≤ 64) : ∀ (nf i n : Nat), i ≤ l.length → l.length - i < nf → n + sumS (l.drop i) < 18446744073709551616 →
    ref_Check05L1 l nf (UInt64.ofNat n) (i : Int) = some (two (okS (prevW l i) (l.drop i) && Nat.blt (n + sumS (l.drop i)) 4294967296))
  | 0, i, n, _, h, _ => by omega
  | nf + 1, i, n, hi, hn, hs => by
    unfold ref_Check05L1 ref_Check05L1B
    by_cases h : i < l.length
    · have hd : l.drop i = l[i] :: l.drop (i + 1) := drop_ix h
      rw [hd] at hs ⊢
      simp only [sumS] at hs
      have ih := refCheckL l hl nf (i + 1) (n + l[i].Len.toNat) (by omega) (by omega) (by omega)
      rw [prevW_succ h] at ih
      simp only [okS, sumS]
      have gi := ix_nat (getq h)
      rw [bP (by simp only [len]; omega)]
      simp only [oS gi]
      by_cases h0 : l[i].Len = 0
      · rw [bE h0, twoN (by rw [h0]; simp)]
      have hp := len32 _ h0
      rw [bF h0]
      by_cases ho : l[i].At.toNat + l[i].Len.toNat ≤ 18446744073709551616
      · rw [bN (fun q => (over2 _ hp).1 q ho)]
        have go : some (two (okS l[i].Write (l.drop (i + 1)) && Nat.blt (n + l[i].Len.toNat + sumS (l.drop (i + 1))) 4294967296)) = ref_Check05L1 l nf (UInt64.ofNat n + l[i].Len.toUInt64) (wi ((i : Int) + 1)) := by
          rw [add64, wi_succ (by omega), ih]
        cases i with
        | zero =>
          rw [bN (by simp), ← go]
          congr 2
          simp [prevW, hp, ho, Nat.add_assoc]
        | succ j =>
          rw [bP (by omega), wi_pred (by omega), oS (ix_nat (getq (by omega)))]
          rw [prevW_succ (by omega)]
          by_cases hw : l[j].Write = true
          · rw [bT hw]
            by_cases hw2 : l[j + 1].Write = true
            · rw [bFl (by rw [hw2]; rfl), ← go]
              congr 2
              simp [hp, ho, hw2, Nat.add_assoc]
            · rw [bT (by simpa using hw2), twoN (by simp [hw, hw2])]
          · rw [bFl (by simpa using hw), ← go]
            congr 2
            simp [hp, ho, hw, Nat.add_assoc]
      · rw [bP ((over2 _ hp).2 ho), twoN (by simp [ho])]
    · have hd : l.drop i = [] := List.drop_of_length_le (by omega)
      rw [hd] at hs ⊢
      simp only [sumS, Nat.add_zero] at hs ⊢
      rw [bN (by simp only [len]; omega)]
      by_cases hq : n < 4294967296
      · rw [bN (fun q => (ge32 n hs).1 q hq), twoP (by simp [okS, hq])]
      · rw [bP ((ge32 n hs).2 hq), twoN (by rw [blt_f hq, Bool.and_false])]
theorem refCheck (l : List Seg) : ref_Check05 l = some (errS l) := by
  unfold ref_Check05 errS
  by_cases h : l.length > 64
  · rw [bP (by simp only [len]; omega), if_pos h]
  · have := sumS_le l
    have h1 := refCheckL l (by omega) fuel 0 0 (by omega) (by unfold fuel; omega) (by simp; omega)
    rw [bN (by simp only [len]; omega), if_neg h]
    simp only [List.drop_zero, Nat.zero_add, prevW] at h1
    exact h1
end Go.Proofs.Ytlofegfaphijpaa

end

section
namespace Go.Proofs.Ytlofegfaphijpaa
def hdS (x : Seg) (k : Nat) : Seg := ⟨x.At, UInt32.ofNat k, x.Write⟩
def tlS (x : Seg) (k : Nat) : Seg := ⟨x.At + UInt64.ofNat k, UInt32.ofNat (x.Len.toNat - k), x.Write⟩
def takeS : Nat → List Seg → List Seg
  | _, [] => []
  | n, x :: r => if n = 0 then [] else if n < x.Len.toNat then [hdS x n] else x :: takeS (n - x.Len.toNat) r
def dropS : Nat → List Seg → List Seg
  | _, [] => []
  | n, x :: r => if n = 0 then x :: r else if n < x.Len.toNat then tlS x n :: r else dropS (n - x.Len.toNat) r
theorem take0 (l : List Seg) : takeS 0 l = [] := by cases l <;> simp [takeS]
theorem drop0 (l : List Seg) : dropS 0 l = l := by cases l <;> simp [dropS]
def posS (l : List Seg) : Prop := ∀ s ∈ l, 0 < s.Len.toNat
theorem okS_pos : ∀ {w : Bool} {l : List Seg}, okS w l = true → posS l
  | _, [], _ => fun s h => by cases h
  | w, x :: r, h => by
    simp only [okS, Bool.and_eq_true, decide_eq_true_eq] at h
    intro s hs
    rcases List.mem_cons.1 hs with e | e
    · subst e; exact h.1.1
    · exact okS_pos h.2 s e
theorem hd_len {x : Seg} {n : Nat} (h : n < x.Len.toNat) : (hdS x n).Len.toNat = n := by
  have := x.Len.toNat_lt
  simp only [hdS, UInt32.toNat_ofNat']; omega
theorem tl_len {x : Seg} {n : Nat} : (tlS x n).Len.toNat = x.Len.toNat - n := by
  have := x.Len.toNat_lt
  simp only [tlS, UInt32.toNat_ofNat']; omega
theorem take_take : ∀ (m n : Nat) (l : List Seg), takeS m (takeS n l) = takeS (min m n) l
  | m, n, [] => rfl
  | m, n, x :: r => by
    rw [takeS.eq_2 n]
    by_cases h0 : n = 0
    · rw [if_pos h0, h0]; simp [take0, takeS]
    · rw [if_neg h0]
      by_cases h1 : n < x.Len.toNat
      · rw [if_pos h1]
        simp only [takeS, hd_len h1]
        by_cases hm : m = 0
        · rw [if_pos hm, if_pos (show min m n = 0 by omega)]
        · by_cases hm2 : m < n
          · rw [if_neg hm, if_pos hm2, if_neg (show ¬ min m n = 0 by omega), if_pos (show min m n < x.Len.toNat by omega), show min m n = m by omega]; rfl
          · rw [if_neg hm, if_neg hm2, if_neg (show ¬ min m n = 0 by omega), if_pos (show min m n < x.Len.toNat by omega), show min m n = n by omega]
      · rw [if_neg h1]
        simp only [takeS]
        by_cases hm : m = 0
        · rw [if_pos hm, if_pos (show min m n = 0 by omega)]
        · by_cases hm2 : m < x.Len.toNat
          · rw [if_neg hm, if_pos hm2, if_neg (show ¬ min m n = 0 by omega), if_pos (show min m n < x.Len.toNat by omega), show min m n = m by omega]
          · rw [if_neg hm, if_neg hm2, if_neg (show ¬ min m n = 0 by omega), if_neg (show ¬ min m n < x.Len.toNat by omega), take_take, show min (m - x.Len.toNat) (n - x.Len.toNat) = min m n - x.Len.toNat by omega]
theorem drop_take : ∀ (m n : Nat) (l : List Seg), posS l → dropS m (takeS n l) = takeS (n - m) (dropS m l)
  | m, n, [], _ => rfl
  | m, n, x :: r, hp => by
    have hx := hp x (by simp)
    have hr : posS r := fun s hs => hp s (by simp [hs])
    have hb := x.Len.toNat_lt
    by_cases hm : m = 0
    · rw [hm, drop0, drop0, Nat.sub_zero]
    rw [takeS.eq_2 n, dropS.eq_2 m x r, if_neg hm]
    by_cases h0 : n = 0
    · rw [if_pos h0, h0, Nat.zero_sub, take0]; rfl
    · rw [if_neg h0]
      by_cases h1 : n < x.Len.toNat
      · rw [if_pos h1]
        simp only [dropS, hd_len h1, if_neg hm]
        by_cases h2 : m < n
        · rw [if_pos h2, if_pos (by omega), takeS.eq_2, if_neg (by omega), tl_len, if_pos (by omega)]
          congr 1
          unfold tlS hdS
          simp only [Seg.mk.injEq, and_true, true_and]
          apply UInt32.toNat_inj.1
          simp only [UInt32.toNat_ofNat']; omega
        · rw [if_neg h2, show n - m = 0 by omega, take0]
      · rw [if_neg h1, dropS.eq_2 m, if_neg hm]
        by_cases h2 : m < x.Len.toNat
        · rw [if_pos h2, if_pos h2, takeS.eq_2, if_neg (by omega), tl_len, if_neg (by omega), show n - m - (x.Len.toNat - m) = n - x.Len.toNat by omega]
        · rw [if_neg h2, if_neg h2, drop_take _ _ r hr, show n - x.Len.toNat - (m - x.Len.toNat) = n - m by omega]
end Go.Proofs.Ytlofegfaphijpaa

end

section
namespace Go.Proofs.Ytlofegfaphijpaa
def hasS (l : List Region) (s : Seg) : Bool := (findR l s.At.toNat s.Len.toNat).isSome
def inE (l : List Region) (ss : List Seg) : Int := if errS ss = 0 then (bif ss.all (hasS l) then 0 else 5) else errS ss
theorem segInL (m : gmem_Mem) (hm : memOk m.l m.b) (l : List Seg) (hl : l.length ≤ 64) : ∀ (nf i : Nat), i ≤ l.length → l.length - i < nf → seg_InL1 m l nf (i : Int) = some (bif (l.drop i).all (hasS m.l) then 0 else 5)
  | 0, i, _, h => by omega
  | nf + 1, i, hi, hn => by
    unfold seg_InL1 seg_InL1B
    by_cases h : i < l.length
    · have hd : l.drop i = l[i] :: l.drop (i + 1) := drop_ix h
      rw [bP (by simp only [len]; omega), oS (ix_nat (getq h)), oS (has_eq m hm _ _), hd, List.all_cons, UInt32.toNat_toUInt64]
      have ih := segInL m hm l hl nf (i + 1) (by omega) (by omega)
      cases q : (findR m.l l[i].At.toNat l[i].Len.toNat).isSome with
      | true => rw [bFl (show (!true) = false from rfl), wi_succ (by omega), ih, show hasS m.l l[i] = true from q, Bool.true_and]
      | false => rw [bT (show (!false) = true from rfl), show hasS m.l l[i] = false from q, Bool.false_and]; rfl
    · rw [bN (by simp only [len]; omega), List.drop_of_length_le (by omega)]; rfl
theorem segIn_eq (m : gmem_Mem) (hm : memOk m.l m.b) (l : List Seg) : seg_In m l = some (inE m.l l) := by
  unfold seg_In
  have h0 : gmem_Mem_Read m (0 : UInt64) (0 : Int) = some ([], 0) := by rw [read_eqM m hm _ _ (by omega)]; rfl
  rw [oS h0, nE rfl, oS (segCheck l)]
  unfold inE
  by_cases h : errS l = 0
  · rw [nE h, if_pos h]
    have hl := (errS_zero.1 h).1
    have := segInL m hm l hl fuel 0 (by omega) (by unfold fuel; omega)
    exact this
  · rw [nF h, if_neg h]
end Go.Proofs.Ytlofegfaphijpaa

end

section
namespace Go.Proofs.Ytlofegfaphijpaa
theorem cons_beq {α : Type} [BEq α] {x y : α} {a b : List α} : ((x :: a) == (y :: b)) = (x == y && a == b) := rfl
theorem ksameL (a b : List Seg) (he : a.length = b.length) (hl : a.length ≤ 1000000) : ∀ (nf i : Nat), i ≤ a.length → a.length - i < nf → kit_SameSegsL1 a b nf (i : Int) = some (a.drop i == b.drop i)
  | 0, i, _, h => by omega
  | nf + 1, i, hi, hn => by
    unfold kit_SameSegsL1 kit_SameSegsL1B
    by_cases h : i < a.length
    · have h2 : i < b.length := by omega
      rw [bP (by simp only [len]; omega), oS (ix_nat (getq h)), oS (ix_nat (getq h2)), drop_ix h, drop_ix h2, cons_beq]
      by_cases e : a[i] = b[i]
      · rw [nE e, wi_succ (by omega), ksameL a b he hl nf (i + 1) (by omega) (by omega), e, beqI, Bool.true_and]
      · rw [nF e, beq_false_of_ne e, Bool.false_and]
    · rw [bN (by simp only [len]; omega), List.drop_of_length_le (by omega), List.drop_of_length_le (by omega)]; rfl
theorem ksame_eq (a b : List Seg) (hl : a.length ≤ 1000000) : kit_SameSegs a b = some (a == b) := by
  unfold kit_SameSegs
  by_cases h : a.length = b.length
  · rw [nE (by simp only [len]; omega)]
    have := ksameL a b h hl fuel 0 (by omega) (by unfold fuel; omega)
    exact this
  · rw [nF (by simp only [len]; omega), beq_false_of_ne (fun q => h (by rw [q]))]
end Go.Proofs.Ytlofegfaphijpaa

end

section
namespace Go.Proofs.Ytlofegfaphijpaa
/-- one region from 0 on -/
def rg (n : UInt64) : List Region := [⟨0, n⟩]
def rdF (x : List UInt8) (a n : Nat) : List UInt8 := (x.drop a).take n
def flatOk (n : UInt64) (x : List UInt8) : Prop := 0 < n.toNat ∧ n.toNat ≤ 1048576 ∧ x.length = n.toNat
theorem rg_good {n : UInt64} (h0 : 0 < n.toNat) (h1 : n.toNat ≤ 1048576) : goodM (rg n) := by
  refine ⟨by simp [rg], ?_, by simp [rg, sumM]; exact h1⟩
  simp only [rg, okA, Bool.and_true, decide_eq_true_eq]
  refine ⟨h0, ?_, Nat.zero_le _⟩
  show (0 : UInt64).toNat + _ ≤ _
  simp only [UInt64.reduceToNat]; omega
theorem flat_mem {n : UInt64} {x : List UInt8} (h : flatOk n x) : memOk (rg n) [x] := by
  refine ⟨rg_good h.1 h.2.1, rfl, fun i r y h1 h2 => ?_⟩
  cases i with
  | zero => simp [rg] at h1 h2; subst h1; subst h2; exact h.2.2
  | succ i => simp [rg] at h1
theorem find1 (n : UInt64) (a k : Nat) : findR (rg n) a k = if 0 < k ∧ a + k ≤ n.toNat then some 0 else none := by
  unfold findR
  by_cases h : k = 0
  · rw [if_pos h, if_neg (by omega)]
  · rw [if_neg h]
    simp only [rg, List.findIdx?_cons, List.findIdx?_nil]
    have e : inR a k (⟨0, n⟩ : Region) = decide (a + k ≤ n.toNat) := by
      unfold inR; simp only [UInt64.reduceToNat]
      by_cases q : a + k ≤ n.toNat
      · rw [decide_eq_true q, decide_eq_true (by omega)]
      · rw [decide_eq_false q, decide_eq_false (by omega)]
    rw [e]
    by_cases q : a + k ≤ n.toNat
    · rw [decide_eq_true q, if_pos (show 0 < k ∧ a + k ≤ n.toNat from ⟨by omega, q⟩)]; rfl
    · rw [decide_eq_false q, if_neg (show ¬ (0 < k ∧ a + k ≤ n.toNat) from fun z => q z.2)]; rfl
theorem read1 {n : UInt64} {x : List UInt8} (a k : Nat) : readR (rg n) [x] a k = if 0 < k ∧ a + k ≤ n.toNat then some (rdF x a k) else none := by
  unfold readR
  rw [find1]
  by_cases q : 0 < k ∧ a + k ≤ n.toNat
  · rw [if_pos q, if_pos q]; simp [rg, rdF]
  · rw [if_neg q, if_neg q]
theorem write1 {n : UInt64} {x : List UInt8} (a : Nat) (xs : List UInt8) : writeR (rg n) [x] a xs = if 0 < xs.length ∧ a + xs.length ≤ n.toNat then some [wrF x a xs] else none := by
  unfold writeR
  rw [find1]
  by_cases q : 0 < xs.length ∧ a + xs.length ≤ n.toNat
  · rw [if_pos q, if_pos q]; simp [rg, wrF]
  · rw [if_neg q, if_neg q]
theorem wrF_ok {n : UInt64} {x : List UInt8} {a : Nat} {xs : List UInt8} (h : flatOk n x) (q : a + xs.length ≤ n.toNat) : flatOk n (wrF x a xs) :=
  ⟨h.1, h.2.1, by rw [wrF_len (by rw [h.2.2]; exact q)]; exact h.2.2⟩
theorem has1 (n : UInt64) (s : Seg) : hasS (rg n) s = decide (0 < s.Len.toNat ∧ s.At.toNat + s.Len.toNat ≤ n.toNat) := by
  unfold hasS; rw [find1]
  by_cases q : 0 < s.Len.toNat ∧ s.At.toNat + s.Len.toNat ≤ n.toNat
  · rw [if_pos q, decide_eq_true q]; rfl
  · rw [if_neg q, decide_eq_false q]; rfl
/-- all segments lie within n bytes -/
def inF (n : Nat) (ss : List Seg) : Prop := ∀ s ∈ ss, s.At.toNat + s.Len.toNat ≤ n
instance (n : Nat) (ss : List Seg) : Decidable (inF n ss) := by unfold inF; infer_instance
theorem all_has {n : UInt64} {ss : List Seg} (hp : posS ss) : ss.all (hasS (rg n)) = true ↔ inF n.toNat ss := by
  rw [List.all_eq_true]
  constructor
  · intro h s hs
    have := h s hs
    rw [has1, decide_eq_true_eq] at this; exact this.2
  · intro h s hs
    rw [has1, decide_eq_true_eq]; exact ⟨hp s hs, h s hs⟩
theorem inE1 (n : UInt64) (ss : List Seg) : inE (rg n) ss = if errS ss = 0 then (if inF n.toNat ss then 0 else 5) else errS ss := by
  unfold inE
  by_cases h : errS ss = 0
  · rw [if_pos h, if_pos h]
    have hp := okS_pos (errS_zero.1 h).2.1
    by_cases q : inF n.toNat ss
    · rw [if_pos q, (all_has hp).2 q]; rfl
    · rw [if_neg q]
      cases e : ss.all (hasS (rg n)) with
      | true => exact absurd ((all_has hp).1 e) q
      | false => rfl
  · rw [if_neg h, if_neg h]
theorem rdF_len {x : List UInt8} {a n : Nat} (h : a + n ≤ x.length) : (rdF x a n).length = n := by
  simp only [rdF, List.length_take, List.length_drop]; omega
theorem zer1 (n : UInt64) : zer (rg n) = [List.replicate n.toNat 0] := rfl
/-- what a new memory of n bytes holds -/
def z1 (n : UInt64) : List UInt8 := List.replicate n.toNat 0
theorem z1_ok {n : UInt64} (h0 : 0 < n.toNat) (h1 : n.toNat ≤ 1048576) : flatOk n (z1 n) := ⟨h0, h1, by simp [z1]⟩
theorem new1_eq {n : UInt64} (h0 : 0 < n.toNat) (h1 : n.toNat ≤ 1048576) : gmem_New (rg n) = some (some ⟨rg n, [z1 n]⟩, 0) := by
  rw [new_ok (rg_good h0 h1), zer1]; rfl
theorem write1_eq {n : UInt64} {x : List UInt8} (h : flatOk n x) (a : UInt64) (xs : List UInt8) (q : a.toNat + xs.length ≤ n.toNat) : gmem_Mem_Write ⟨rg n, [x]⟩ a xs = some ((0 : Int), [wrF x a.toNat xs]) := by
  have hn := h.2.1
  rw [write_eqM ⟨rg n, [x]⟩ (flat_mem h) a xs (by omega)]
  by_cases e : xs = []
  · rw [if_pos e, e, wrF_nil]
  · have : 0 < xs.length := List.length_pos_iff.2 e
    rw [if_neg e]
    dsimp only
    rw [write1, if_pos ⟨this, q⟩]
theorem image1_eq {n : UInt64} {x : List UInt8} (h : flatOk n x) : gmem_Mem_Image ⟨rg n, [x]⟩ = some x := by
  rw [image_eq ⟨rg n, [x]⟩ (flat_mem h)]; simp
end Go.Proofs.Ytlofegfaphijpaa

end

section
namespace Go.Proofs.Ytlofegfaphijpaa
end Go.Proofs.Ytlofegfaphijpaa

end

section
namespace Go.Proofs.Ytlofegfaphijpaa
theorem rwrite1 {n : UInt64} {x : List UInt8} (h : flatOk n x) (a : UInt64) (xs : List UInt8) (q : a.toNat + xs.length ≤ n.toNat) : ref_Mem_Write02 ⟨rg n, [x]⟩ a xs = some ((0 : Int), [wrF x a.toNat xs]) := by
  have hn := h.2.1
  rw [rwrite_eq ⟨rg n, [x]⟩ (flat_mem h) a xs (by omega)]
  by_cases e : xs = []
  · rw [if_pos e, e, wrF_nil]
  · have : 0 < xs.length := List.length_pos_iff.2 e
    rw [if_neg e]
    dsimp only
    rw [write1, if_pos ⟨this, q⟩]

theorem rnew1 {n : UInt64} (h0 : 0 < n.toNat) (h1 : n.toNat ≤ 1048576) : ref_New02 (rg n) = some (some ⟨rg n, [z1 n]⟩, 0) := by
  rw [rnew_ok (rg_good h0 h1)]; rfl

end Go.Proofs.Ytlofegfaphijpaa

end

section
namespace Go.Proofs.Ytlofegfaphijpaa

def bsD (d : Desc) : List UInt8 := [byt d.Addr 0, byt d.Addr 1, byt d.Addr 2, byt d.Addr 3, byt d.Addr 4, byt d.Addr 5, byt d.Addr 6, byt d.Addr 7, byt d.Len.toUInt64 0, byt d.Len.toUInt64 1, byt d.Len.toUInt64 2, byt d.Len.toUInt64 3, byt d.Flags.toUInt64 0, byt d.Flags.toUInt64 1, byt d.Next.toUInt64 0, byt d.Next.toUInt64 1]
def bsP (d : Packed) : List UInt8 := [byt d.Addr 0, byt d.Addr 1, byt d.Addr 2, byt d.Addr 3, byt d.Addr 4, byt d.Addr 5, byt d.Addr 6, byt d.Addr 7, byt d.Len.toUInt64 0, byt d.Len.toUInt64 1, byt d.Len.toUInt64 2, byt d.Len.toUInt64 3, byt d.ID.toUInt64 0, byt d.ID.toUInt64 1, byt d.Flags.toUInt64 0, byt d.Flags.toUInt64 1]
theorem readD (b0 b1 b2 b3 b4 b5 b6 b7 b8 b9 b10 b11 b12 b13 b14 b15 : UInt8) : desc_Read [b0, b1, b2, b3, b4, b5, b6, b7, b8, b9, b10, b11, b12, b13, b14, b15] =
    some (⟨wrd b0 b1 b2 b3 b4 b5 b6 b7, (wrd b8 b9 b10 b11 0 0 0 0).toUInt32, (wrd b12 b13 0 0 0 0 0 0).toUInt16, (wrd b14 b15 0 0 0 0 0 0).toUInt16⟩, 0) := by
  rw [← or_wrd b0, ← or_wrd4 b8, ← or_wrd2 b12, ← or_wrd2 b14]; kernel_rfl
theorem readP (b0 b1 b2 b3 b4 b5 b6 b7 b8 b9 b10 b11 b12 b13 b14 b15 : UInt8) : desc_ReadPacked [b0, b1, b2, b3, b4, b5, b6, b7, b8, b9, b10, b11, b12, b13, b14, b15] =
    some (⟨wrd b0 b1 b2 b3 b4 b5 b6 b7, (wrd b8 b9 b10 b11 0 0 0 0).toUInt32, (wrd b12 b13 0 0 0 0 0 0).toUInt16, (wrd b14 b15 0 0 0 0 0 0).toUInt16⟩, 0) := by
  rw [← or_wrd b0, ← or_wrd4 b8, ← or_wrd2 b12, ← or_wrd2 b14]; kernel_rfl
/-! words -/
end Go.Proofs.Ytlofegfaphijpaa

end

section
namespace Go.Proofs.Ytlofegfaphijpaa
theorem list16 {α : Type} {b : List α} (h : b.length = 16) : ∃ b0 b1 b2 b3 b4 b5 b6 b7 b8 b9 b10 b11 b12 b13 b14 b15, b = [b0, b1, b2, b3, b4, b5, b6, b7, b8, b9, b10, b11, b12, b13, b14, b15] := by
  match b, h with
  | [b0, b1, b2, b3, b4, b5, b6, b7, b8, b9, b10, b11, b12, b13, b14, b15], _ => exact ⟨b0, b1, b2, b3, b4, b5, b6, b7, b8, b9, b10, b11, b12, b13, b14, b15, rfl⟩
theorem refReadD (b0 b1 b2 b3 b4 b5 b6 b7 b8 b9 b10 b11 b12 b13 b14 b15 : UInt8) : ref_Read03 [b0, b1, b2, b3, b4, b5, b6, b7, b8, b9, b10, b11, b12, b13, b14, b15] =
    some (⟨wrd b0 b1 b2 b3 b4 b5 b6 b7, (wrd b8 b9 b10 b11 0 0 0 0).toUInt32, (wrd b12 b13 0 0 0 0 0 0).toUInt16, (wrd b14 b15 0 0 0 0 0 0).toUInt16⟩, 0) := by
  rw [← horner8 b0, ← horner4 b8, ← horner2 b12, ← horner2 b14]; kernel_rfl
theorem refReadP (b0 b1 b2 b3 b4 b5 b6 b7 b8 b9 b10 b11 b12 b13 b14 b15 : UInt8) : ref_ReadPacked03 [b0, b1, b2, b3, b4, b5, b6, b7, b8, b9, b10, b11, b12, b13, b14, b15] =
    some (⟨wrd b0 b1 b2 b3 b4 b5 b6 b7, (wrd b8 b9 b10 b11 0 0 0 0).toUInt32, (wrd b12 b13 0 0 0 0 0 0).toUInt16, (wrd b14 b15 0 0 0 0 0 0).toUInt16⟩, 0) := by
  rw [← horner8 b0, ← horner4 b8, ← horner2 b12, ← horner2 b14]; kernel_rfl
theorem refBytesD (d : Desc) : ref_Bytes03 d = some (bsD d) := by kernel_rfl
theorem refBytesP (d : Packed) : ref_PackedBytes03 d = some (bsP d) := by kernel_rfl
theorem read16 (b : List UInt8) (h : b.length = 16) : ∃ d, desc_Read b = some (d, 0) ∧ ref_Read03 b = some (d, 0) := by
  obtain ⟨b0, b1, b2, b3, b4, b5, b6, b7, b8, b9, b10, b11, b12, b13, b14, b15, rfl⟩ := list16 h
  exact ⟨_, readD .., refReadD ..⟩
/-- a descriptor out of sixteen bytes -/
def dOf (b : List UInt8) : Desc := match desc_Read b with | some r => r.1 | none => default
theorem dOf_eq {b : List UInt8} (h : b.length = 16) : desc_Read b = some (dOf b, 0) ∧ ref_Read03 b = some (dOf b, 0) := by
  obtain ⟨d, h1, h2⟩ := read16 b h
  have : dOf b = d := by unfold dOf; rw [h1]
  rw [this]; exact ⟨h1, h2⟩
end Go.Proofs.Ytlofegfaphijpaa

end

section
namespace Go.Proofs.Ytlofegfaphijpaa
/-! errors -/
def errB (l : List Seg) : Int := if errS l = 0 then (if l.length = 0 then 2 else 0) else errS l
theorem errB_zero {l : List Seg} : errB l = 0 ↔ goodS l ∧ l ≠ [] := by
  unfold errB
  by_cases h : errS l = 0
  · rw [if_pos h]
    by_cases h0 : l.length = 0
    · rw [if_pos h0]; have := List.eq_nil_of_length_eq_zero h0; simp [this]
    · rw [if_neg h0]; exact ⟨fun _ => ⟨errS_zero.1 h, fun q => h0 (by rw [q]; rfl)⟩, fun _ => rfl⟩
  · rw [if_neg h]; exact ⟨fun q => absurd q h, fun q => absurd (errS_zero.2 q.1) h⟩
theorem may_eq (l : List Seg) : ref_may09 l = some (errB l) := by
  unfold ref_may09 errB
  rw [oS (refCheck l)]
  by_cases h : errS l = 0
  · rw [bE h, if_pos h, h]
    by_cases h0 : l.length = 0
    · rw [if_pos h0, bE (by simp [len, h0])]
    · rw [if_neg h0, bF (by simp only [len]; omega)]
  · rw [bF h, if_neg h]
theorem mgpB (q k : Int) : ∀ m : List (Int × Bool), mget false q (mput k true m) = if q = k then true else mget false q m
  | [] => by
    by_cases h : q = k
    · subst h; simp [mput, mget]
    · simp [mput, mget, h]
  | p :: r => by
    unfold mput
    by_cases h : k = p.1
    · rw [show (k == p.1) = true by simp [h]]
      simp only [cond_true, mget]
      by_cases h2 : q = k
      · rw [if_pos h2, h2, beqI]; rfl
      · have h3 : q ≠ p.1 := fun z => h2 (z.trans h.symm)
        rw [if_neg h2, beq_false_of_ne h2, beq_false_of_ne h3]; rfl
    · rw [show (k == p.1) = false by simp [h]]
      simp only [cond_false, mget]
      by_cases h2 : q = p.1
      · have : q ≠ k := fun z => h (z.symm.trans h2)
        simp [h2, this] at *
        simp [Ne.symm h]
      · simp only [beq_false_of_ne h2, cond_false]; exact mgpB q k r
/-! the document's -/
end Go.Proofs.Ytlofegfaphijpaa

end

section
namespace Go.Proofs.Ytlofegfaphijpaa
/-! few different numbers -/
theorem few : ∀ (s : Nat) (l : List Int), l.Nodup → (∀ x ∈ l, 0 ≤ x ∧ x < (s : Int)) → l.length ≤ s
  | 0, l, _, h => by
    cases l with
    | nil => exact Nat.le_refl _
    | cons x l => have := h x (List.mem_cons_self ..); omega
  | s + 1, l, hn, h => by
    by_cases hm : (s : Int) ∈ l
    · have h1 := few s (l.erase (s : Int)) (hn.erase _) (fun x hx => by
        have hx2 := (hn.mem_erase_iff).1 hx
        have := h x hx2.2
        have hne : x ≠ (s : Int) := hx2.1
        omega)
      have h2 := List.length_erase_of_mem hm
      have h3 : 0 < l.length := List.length_pos_of_mem hm
      omega
    · have := few s l hn (fun x hx => by
        have := h x hx
        have hne : x ≠ (s : Int) := fun q => hm (q ▸ hx)
        omega)
      omega
/-! one descriptor -/
def mkS (d : Desc) : Seg := ⟨d.Addr, d.Len, d.Flags &&& 2 != 0⟩
def plK (a : UInt64) (k : Int) : Nat := (a + 16 * u64 k).toNat
def dAt (x : List UInt8) (a : Nat) : Desc := dOf (rdF x a 16)
theorem rdF_len16 {x : List UInt8} {a : Nat} (h : a + 16 ≤ x.length) : (rdF x a 16).length = 16 := rdF_len h
theorem mread {N : UInt64} {x : List UInt8} (hx : flatOk N x) (a : UInt64) : gmem_Mem_Read ⟨rg N, [x]⟩ a 16 = some (if a.toNat + 16 ≤ N.toNat then (rdF x a.toNat 16, 0) else ([], 5)) := by
  rw [read_eqM ⟨rg N, [x]⟩ (flat_mem hx) a 16 (by omega), if_neg (by omega), if_neg (by omega)]
  dsimp only
  rw [show (16 : Int).toNat = 16 from rfl, read1]
  by_cases h : a.toNat + 16 ≤ N.toNat
  · rw [if_pos ⟨by omega, h⟩, if_pos h]
  · rw [if_neg (fun q => h q.2), if_neg h]
/-- a chain: the error, how many were read, the segments; tb: what a table comes to -/
def chF (N : Nat) (x : List UInt8) (a : UInt64) (size : Int) (tb : Desc → Nat → List Seg → Int × Nat × List Seg) : Nat → Int → List Int → Nat → List Seg → Int × Nat × List Seg
  | 0, _, _, n, l => (4, n, l)
  | f + 1, k, seen, n, l =>
    if seen.contains k = true ∨ k < 0 ∨ k ≥ size then (4, n, l)
    else if ¬ plK a k + 16 ≤ N then (5, n, l)
    else if (dAt x (plK a k)).Flags &&& 4 ≠ 0 then tb (dAt x (plK a k)) (n + 1) l
    else if (dAt x (plK a k)).Flags &&& 1 = 0 then (0, n + 1, l ++ [mkS (dAt x (plK a k))])
    else chF N x a size tb f (i16 (dAt x (plK a k)).Next) (seen ++ [k]) (n + 1) (l ++ [mkS (dAt x (plK a k))])
def noT : Desc → Nat → List Seg → Int × Nat × List Seg := fun _ n l => (4, n, l)
/-- how many entries a table has -/
def entE (N : Nat) (a : UInt64) (n : UInt32) : Int := if n = 0 ∨ n % 16 ≠ 0 ∨ n / 16 > 64 then 4 else if a.toNat + n.toNat ≤ N then 0 else 5
def tabT (N : Nat) (x : List UInt8) (table : Bool) : Desc → Nat → List Seg → Int × Nat × List Seg := fun d n l =>
  if table = false ∨ d.Flags &&& 1 ≠ 0 then (4, n, l)
  else if entE N d.Addr d.Len ≠ 0 then (entE N d.Addr d.Len, n, l)
  else chF N x d.Addr (i32 (d.Len / 16)) noT (d.Len / 16).toNat.succ 0 [] n l
/-- seen: different, and numbers of the ring -/
def seenOk (size : Int) (seen : List Int) : Prop := seen.Nodup ∧ ∀ x ∈ seen, 0 ≤ x ∧ x < size
theorem seen_snoc {size : Int} {seen : List Int} {k : Int} (h : seenOk size seen) (hc : seen.contains k = false) (h1 : ¬ k < 0) (h2 : ¬ k ≥ size) : seenOk size (seen ++ [k]) := by
  refine ⟨?_, fun x hx => ?_⟩
  · rw [List.nodup_append]
    refine ⟨h.1, by simp, fun a ha b hb => ?_⟩
    rw [List.mem_singleton] at hb
    subst hb
    intro q; subst q
    have : seen.contains a = true := by simpa using ha
    rw [this] at hc; cases hc
  · rcases List.mem_append.1 hx with q | q
    · exact h.2 x q
    · rw [List.mem_singleton] at q; subst q; omega
theorem seen_le {size : Nat} {seen : List Int} (h : seenOk (size : Int) seen) : seen.length ≤ size := few size seen h.1 h.2
/-! the program's, in a table -/
theorem walkI {N : UInt64} {x : List UInt8} (hx : flatOk N x) (a : UInt64) (size : Nat) (hs : size ≤ 32768) (m3 : Bool) : ∀ (nf f : Nat) (k : Int) (seen : List Int) (n : Nat) (l : List Seg) (map : List (Int × Bool)), f < nf → seen.length + f = size + 1 → seenOk (size : Int) seen → (∀ q, mget false q map = seen.contains q) → n + f ≤ 100000 → l.length + f ≤ 100000 →
    walk_split_1ct3L1 a (size : Int) ⟨rg N, [x]⟩ nf k 0 (n : Int) m3 l map = some ((chF N.toNat x a (size : Int) noT f k seen n l).1, (((chF N.toNat x a (size : Int) noT f k seen n l).2.1 : Nat) : Int), m3, (chF N.toNat x a (size : Int) noT f k seen n l).2.2)
  | 0, f, k, seen, n, l, map, h, _, _, _, _, _ => absurd h (Nat.not_lt_zero _)
  | nf + 1, 0, k, seen, n, l, map, _, h, hk, _, _, _ => by have := seen_le hk; omega
  | nf + 1, f + 1, k, seen, n, l, map, hf, hsl, hk, hm, hn, hl => by
    unfold walk_split_1ct3L1 walk_split_1ct3L1B chF
    rw [hm k]
    cases hc : seen.contains k with
    | true => rw [brT, if_pos (Or.inl rfl)]
    | false =>
      rw [brF]
      by_cases h1 : k < 0
      · rw [bP h1, if_pos (Or.inr (Or.inl h1))]
      · rw [bN h1]
        by_cases h2 : k ≥ (size : Int)
        · rw [bP h2, if_pos (Or.inr (Or.inr h2))]
        · have hno : ¬ (false = true ∨ k < 0 ∨ k ≥ (size : Int)) := by rintro (q | q | q) <;> first | cases q | omega
          rw [bN h2, if_neg hno, oS (mread hx _)]
          unfold plK
          by_cases h3 : (a + 16 * u64 k).toNat + 16 ≤ N.toNat
          · have hd := dOf_eq (rdF_len16 (x := x) (a := (a + 16 * u64 k).toNat) (by rw [hx.2.2]; exact h3))
            rw [if_pos h3, if_neg (by simpa using h3), nE rfl, oS hd.1]
            dsimp only
            unfold dAt
            generalize dOf (rdF x (a + 16 * u64 k).toNat 16) = d at *
            by_cases h4 : d.Flags &&& 4 = 0
            · rw [nE h4, if_neg (by simp [h4]), oS (show walk_made d.Addr d.Len d.Flags = some (mkS d) from rfl), cFits (by simp; omega), wi_succ (by omega)]
              by_cases h5 : d.Flags &&& 1 = 0
              · rw [bE h5, if_pos h5]
              · rw [bF h5, if_neg h5]
                exact walkI hx a size hs m3 nf f (i16 d.Next) (seen ++ [k]) (n + 1) (l ++ [mkS d]) (mput k true map) (by omega) (by rw [List.length_append, List.length_singleton]; omega) (seen_snoc hk hc h1 h2) (fun q => by
                  rw [mgpB, List.contains_append, hm q]
                  by_cases z : q = k
                  · rw [if_pos z, z]; simp
                  · rw [if_neg z]; simp [z]) (by omega) (by rw [List.length_append, List.length_singleton]; omega)
            · rw [nF h4, if_pos h4, wi_succ (by omega)]; rfl
          · rw [if_neg h3, if_pos (by simpa using h3), nF (by decide)]
theorem div16 (n : UInt32) (h : ¬ n / 16 > 64) : (n / 16).toNat ≤ 64 := by
  have : ¬ (64 : UInt32) < n / 16 := h
  rw [UInt32.lt_iff_toNat_lt] at this
  simp only [UInt32.reduceToNat] at this; omega
theorem ent_eq {N : UInt64} {x : List UInt8} (hx : flatOk N x) (a : UInt64) (n : UInt32) : walk_entries ⟨rg N, [x]⟩ a n = some (if entE N.toNat a n = 0 then (i32 (n / 16), 0) else (0, entE N.toNat a n)) := by
  unfold walk_entries entE
  by_cases h1 : n = 0
  · rw [bE h1, if_pos (Or.inl h1), if_neg (by decide)]
  · rw [bF h1]
    by_cases h2 : n % 16 = 0
    · rw [nE h2]
      by_cases h3 : n / 16 > 64
      · rw [bP h3, if_pos (Or.inr (Or.inr h3)), if_neg (by decide)]
      · have hno : ¬ (n = 0 ∨ n % 16 ≠ 0 ∨ n / 16 > 64) := by
          rintro (q | q | q)
          · exact h1 q
          · exact q h2
          · exact h3 q
        have hpos : 0 < n.toNat := by
          rcases Nat.eq_zero_or_pos n.toNat with q | q
          · exact absurd (UInt32.toNat_inj.1 (by simpa using q)) h1
          · exact q
        rw [bN h3, oS (has_eq _ (flat_mem hx) _ _), find1, UInt32.toNat_toUInt64, if_neg hno]
        by_cases h4 : a.toNat + n.toNat ≤ N.toNat
        · rw [if_pos ⟨hpos, h4⟩, if_pos h4, if_pos rfl]; rfl
        · rw [if_neg (fun q => h4 q.2), if_neg h4, if_neg (by decide)]; rfl
    · rw [nF h2, if_pos (Or.inr (Or.inl h2)), if_neg (by decide)]
theorem ent_le {N : Nat} {a : UInt64} {n : UInt32} (h : entE N a n = 0) : (n / 16).toNat ≤ 64 := by
  unfold entE at h
  by_cases q : n = 0 ∨ n % 16 ≠ 0 ∨ n / 16 > 64
  · rw [if_pos q] at h; cases h
  · exact div16 n (fun z => q (Or.inr (Or.inr z)))
/-! the program's, in the ring -/
theorem walkO {N : UInt64} {x : List UInt8} (hx : flatOk N x) (a : UInt64) (size : Nat) (hs : size ≤ 32768) (m3 : Bool) : ∀ (nf f : Nat) (k : Int) (seen : List Int) (n : Nat) (l : List Seg) (map : List (Int × Bool)), f < nf → seen.length + f = size + 1 → seenOk (size : Int) seen → (∀ q, mget false q map = seen.contains q) → n + f ≤ 90000 → l.length + f ≤ 90000 →
    walk_split_1cf3L1 a (size : Int) ⟨rg N, [x]⟩ nf k 0 (n : Int) m3 l map = some ((chF N.toNat x a (size : Int) (tabT N.toNat x m3) f k seen n l).1, (((chF N.toNat x a (size : Int) (tabT N.toNat x m3) f k seen n l).2.1 : Nat) : Int), m3, (chF N.toNat x a (size : Int) (tabT N.toNat x m3) f k seen n l).2.2)
  | 0, f, k, seen, n, l, map, h, _, _, _, _, _ => absurd h (Nat.not_lt_zero _)
  | nf + 1, 0, k, seen, n, l, map, _, h, hk, _, _, _ => by have := seen_le hk; omega
  | nf + 1, f + 1, k, seen, n, l, map, hf, hsl, hk, hm, hn, hl => by
    unfold walk_split_1cf3L1 walk_split_1cf3L1B chF
    rw [hm k]
    cases hc : seen.contains k with
    | true => rw [brT, if_pos (Or.inl rfl)]
    | false =>
      rw [brF]
      by_cases h1 : k < 0
      · rw [bP h1, if_pos (Or.inr (Or.inl h1))]
      · rw [bN h1]
        by_cases h2 : k ≥ (size : Int)
        · rw [bP h2, if_pos (Or.inr (Or.inr h2))]
        · have hno : ¬ (false = true ∨ k < 0 ∨ k ≥ (size : Int)) := by rintro (q | q | q) <;> first | cases q | omega
          rw [bN h2, if_neg hno, oS (mread hx _)]
          unfold plK
          by_cases h3 : (a + 16 * u64 k).toNat + 16 ≤ N.toNat
          · have hd := dOf_eq (rdF_len16 (x := x) (a := (a + 16 * u64 k).toNat) (by rw [hx.2.2]; exact h3))
            rw [if_pos h3, if_neg (by simpa using h3), nE rfl, oS hd.1]
            dsimp only
            unfold dAt
            generalize dOf (rdF x (a + 16 * u64 k).toNat 16) = d at *
            by_cases h4 : d.Flags &&& 4 = 0
            · rw [nE h4, if_neg (by simp [h4]), oS (show walk_made d.Addr d.Len d.Flags = some (mkS d) from rfl), cFits (by simp; omega), wi_succ (by omega)]
              by_cases h5 : d.Flags &&& 1 = 0
              · rw [bE h5, if_pos h5]
              · rw [bF h5, if_neg h5]
                exact walkO hx a size hs m3 nf f (i16 d.Next) (seen ++ [k]) (n + 1) (l ++ [mkS d]) (mput k true map) (by omega) (by rw [List.length_append, List.length_singleton]; omega) (seen_snoc hk hc h1 h2) (fun q => by
                  rw [mgpB, List.contains_append, hm q]
                  by_cases z : q = k
                  · rw [if_pos z, z]; simp
                  · rw [if_neg z]; simp [z]) (by omega) (by rw [List.length_append, List.length_singleton]; omega)
            · rw [nF h4, if_pos h4, wi_succ (by omega)]
              unfold tabT walk_split_1cf3J2
              cases m3 with
              | false => rw [notF, brT, if_pos (Or.inl rfl)]
              | true =>
                rw [notT, brF]
                by_cases h5 : d.Flags &&& 1 = 0
                · have hno2 : ¬ (true = false ∨ d.Flags &&& 1 ≠ 0) := by
                    rintro (q | q)
                    · cases q
                    · exact q h5
                  rw [nE h5, if_neg hno2, oS (ent_eq hx _ _)]
                  by_cases h6 : entE N.toNat d.Addr d.Len = 0
                  · have h64 := ent_le h6
                    have hi := walkI hx d.Addr (d.Len / 16).toNat (by omega) true fuel (d.Len / 16).toNat.succ 0 [] (n + 1) l [] (by rw [fuelS]; omega) (by simp) ⟨List.nodup_nil, fun x hx => by cases hx⟩ (fun q => by simp [mget]) (by omega) (by omega)
                    rw [if_pos h6, if_neg (by simp [h6]), bE rfl]
                    unfold walk_split_1ct3
                    exact oS hi
                  · rw [if_neg h6, if_pos h6, bF h6]
                · rw [nF h5, if_pos (Or.inr h5)]
          · rw [if_neg h3, if_pos (by simpa using h3), nF (by decide)]
/-- what a split chain comes to -/
def splW (N : Nat) (x : List UInt8) (r : Rings) (head : Int) (table : Bool) : Int × Nat × List Seg := chF N x r.Desc r.Size (tabT N x table) (r.Size.toNat + 1) head [] 0 []
theorem wsplit_eq {N : UInt64} {x : List UInt8} (hx : flatOk N x) (r : Rings) (head : Int) (table : Bool) (h1 : 0 ≤ r.Size) (h2 : r.Size ≤ 32768) : walk_split ⟨rg N, [x]⟩ r head table = some ((splW N.toNat x r head table).2.2, (((splW N.toNat x r head table).2.1 : Nat) : Int), (splW N.toNat x r head table).1) := by
  obtain ⟨s, hs⟩ : ∃ s : Nat, r.Size = (s : Int) := ⟨r.Size.toNat, by omega⟩
  have := walkO hx r.Desc s (by omega) table fuel (s + 1) head [] 0 [] [] (by rw [fuelS]; omega) (by simp) ⟨List.nodup_nil, fun x hx => by cases hx⟩ (fun q => by simp [mget]) (by omega) (by simp; omega)
  unfold walk_split walk_split_1cf3 splW
  rw [hs, Int.toNat_natCast]
  rw [show ((0 : Nat) : Int) = 0 from rfl] at this
  rw [oS this]
end Go.Proofs.Ytlofegfaphijpaa

end

section
namespace Go.Proofs.Ytlofegfaphijpaa
theorem lives10 : law10zlives = some true := by decide +kernel
/-! the ring that is laid -/
def ringOk (r : Rings) (p : Bool) (n : Int) : Prop := r.Packed = p ∧ r.Size = n ∧ r.Desc = 0 ∧ layout_Check r = some 0 ∧ ref_Check04 r = some 0
instance (r : Rings) (p : Bool) (n : Int) : Decidable (ringOk r p n) := by unfold ringOk; infer_instance
def laidOk (p : Bool) (n : Int) : Bool := match ref_Place04 p n 0 with
  | some (r, _, e) => decide (ringOk r p n) && e == 0
  | none => false
theorem laid_packed : ∀ n : Nat, n < 129 → 1 ≤ n → laidOk true (n : Int) = true := by decide +kernel
theorem laid_split : ∀ k : Nat, k < 8 → laidOk false ((2 ^ k : Nat) : Int) = true := by decide +kernel
theorem laid_ring {p : Bool} {n : Int} (h : laidOk p n = true) : ∃ r u, ref_Place04 p n 0 = some (r, u, 0) ∧ ringOk r p n := by
  unfold laidOk at h
  cases e : ref_Place04 p n 0 with
  | none => rw [e] at h; cases h
  | some q =>
    obtain ⟨r, u, z⟩ := q
    rw [e] at h
    simp only [Bool.and_eq_true, decide_eq_true_eq, beq_iff_eq] at h
    exact ⟨r, u, by rw [h.2], h.1⟩
theorem laidL (p : Bool) (l : List dumbwaiterlaw10_Spot) (hl : l.length ≤ 1000) (m2 : Rings) : ∀ (nf i : Nat) (m1 : Rings) (x : List UInt8), flatOk 12000 x → i ≤ l.length → l.length - i < nf → ∃ y, flatOk 12000 y ∧
    law10zlaidL1 p l ⟨rg 12000, [z1 12000]⟩ ⟨rg 12000, [z1 12000]⟩ nf m1 m2 [x] [x] (i : Int) = some (some ⟨rg 12000, [y]⟩, some ⟨rg 12000, [y]⟩, m2, true)
  | 0, i, _, _, _, _, h => absurd h (Nat.not_lt_zero _)
  | nf + 1, i, m1, x, hx, hi, hn => by
    unfold law10zlaidL1 law10zlaidL1B
    by_cases h : i < l.length
    · have step : ∀ b : List UInt8, b.length = 16 → ∃ y, flatOk 12000 y ∧ law10zlaidJ2 l ⟨rg 12000, [z1 12000]⟩ ⟨rg 12000, [z1 12000]⟩ m1 m2 [x] [x] (i : Int) (law10zlaidL1 p l ⟨rg 12000, [z1 12000]⟩ ⟨rg 12000, [z1 12000]⟩ nf) b = some (some ⟨rg 12000, [y]⟩, some ⟨rg 12000, [y]⟩, m2, true) := by
        intro b hb
        unfold law10zlaidJ2
        obtain ⟨k, hk, hk2⟩ := pick_eq l[i].At 750 (by omega) (by omega)
        have ha : (u64 (wi (16 * (k : Int)))).toNat = 16 * k := by
          rw [wi_in (by omega) (by omega)]
          simp only [u64, UInt64.toNat_ofNat']
          omega
        have hle : (u64 (wi (16 * (k : Int)))).toNat + b.length ≤ (12000 : UInt64).toNat := by
          rw [ha, hb]; simp only [UInt64.reduceToNat]; omega
        rw [oS (ix_get h), oS (show kit_Pick l[i].At 750 = some (k : Int) from hk), oS (write1_eq hx _ _ hle), oS (rwrite1 hx _ _ hle), wi_succ (by omega)]
        exact laidL p l hl m2 nf (i + 1) m1 _ (wrF_ok hx hle) (by omega) (by omega)
      rw [bP (by simp only [len]; omega), oS (ix_get h), oS (refBytesD _)]
      cases p with
      | false => rw [brF]; exact step _ rfl
      | true => rw [brT, oS (ix_get h), oS (refBytesP _)]; exact step _ rfl
    · rw [bN (by simp only [len]; omega)]
      exact ⟨x, hx, rfl⟩
theorem laid_eq {p : Bool} {n : Int} (h : laidOk p n = true) (l : List dumbwaiterlaw10_Spot) (hl : l.length ≤ 1000) : ∃ r x, ringOk r p n ∧ flatOk 12000 x ∧ law10zlaid n p l = some (some ⟨rg 12000, [x]⟩, some ⟨rg 12000, [x]⟩, r, true) := by
  obtain ⟨r, u, h1, h2⟩ := laid_ring h
  have h12 : (12000 : UInt64).toNat = 12000 := rfl
  obtain ⟨y, hy, hz⟩ := laidL p l hl r fuel 0 (Rings.mk false 0 0 0 0) (z1 12000) (z1_ok (by omega) (by omega)) (by omega) (by rw [fuelS]; omega)
  refine ⟨r, y, h2, hy, ?_⟩
  unfold law10zlaid
  rw [oS h1, oS (show gmem_New [Region.mk 0 12000] = some (some ⟨rg 12000, [z1 12000]⟩, 0) from new1_eq (by omega) (by omega))]
  dsimp only [onO]
  rw [oS (show ref_New02 [Region.mk 0 12000] = some (some ⟨rg 12000, [z1 12000]⟩, 0) from rnew1 (by omega) (by omega))]
  dsimp only [onO]
  rw [nE rfl, nE rfl, nE rfl]
  exact hz
/-! what is refused -/
theorem wrefuse {N : UInt64} {x : List UInt8} (hx : flatOk N x) {r : Rings} {p : Bool} {n : Int} (h : ringOk r p n) : walk_refuse ⟨rg N, [x]⟩ r p = some 0 := by
  unfold walk_refuse
  rw [oS (read_eqM ⟨rg N, [x]⟩ (flat_mem hx) 0 0 (by omega)), if_neg (by omega), if_pos rfl, nE rfl, oS h.2.2.2.1, nE rfl, h.1, bneI, brF]
/-! what is taken -/
def lookF (N : Nat) (l : List Seg) : List Seg × Int := if l = [] ∨ errS l ≠ 0 then ([], 4) else if inF N l then (l, 0) else ([], 5)
theorem look_eq {N : UInt64} {x : List UInt8} (hx : flatOk N x) (l : List Seg) : walk_looked ⟨rg N, [x]⟩ l = some (lookF N.toNat l) := by
  unfold walk_looked lookF
  by_cases h1 : l = []
  · subst h1; rw [bE (show len ([] : List Seg) = 0 from rfl), if_pos (Or.inl rfl)]
  · have h0 : ¬ len l = 0 := by
      simp only [len]
      have := List.length_pos_iff.2 h1; omega
    rw [bF h0, oS (segCheck l)]
    by_cases h2 : errS l = 0
    · have hno : ¬ (l = [] ∨ errS l ≠ 0) := by
        rintro (q | q)
        · exact h1 q
        · exact q h2
      rw [nE h2, oS (segIn_eq _ (flat_mem hx) l), inE1, if_pos h2, if_neg hno]
      by_cases h3 : inF N.toNat l
      · rw [if_pos h3, if_pos h3, nE rfl]
      · rw [if_neg h3, if_neg h3, nF (by decide)]
    · rw [nF h2, if_pos (Or.inr h2)]
def splR (N : Nat) (x : List UInt8) (r : Rings) (head : Int) (t : Bool) : List Seg × Int := if (splW N x r head t).1 ≠ 0 then ([], (splW N x r head t).1) else lookF N (splW N x r head t).2.2
theorem wSplit_eq {N : UInt64} {x : List UInt8} (hx : flatOk N x) {r : Rings} {n : Int} (h : ringOk r false n) (h1 : 0 ≤ n) (h2 : n ≤ 32768) (head : Int) (t : Bool) : walk_Split ⟨rg N, [x]⟩ r head t = some (splR N.toNat x r head t) := by
  unfold walk_Split splR
  rw [oS (wrefuse hx h), nE rfl, oS (wsplit_eq hx r head t (by rw [h.2.1]; exact h1) (by rw [h.2.1]; exact h2))]
  generalize splW N.toNat x r head t = w
  dsimp only
  by_cases q : w.1 = 0
  · rw [nE q, oS (look_eq hx _), if_neg (by simpa using q)]
  · rw [nF q, if_pos q]
theorem wReads_eq {N : UInt64} {x : List UInt8} (hx : flatOk N x) {r : Rings} {n : Int} (h : ringOk r false n) (h1 : 0 ≤ n) (h2 : n ≤ 32768) (head : Int) (t : Bool) : walk_Reads ⟨rg N, [x]⟩ r head t = some (((splW N.toNat x r head t).2.1 : Nat) : Int) := by
  unfold walk_Reads
  rw [oS (wrefuse hx h), nE rfl, oS (wsplit_eq hx r head t (by rw [h.2.1]; exact h1) (by rw [h.2.1]; exact h2))]
end Go.Proofs.Ytlofegfaphijpaa

end

section
namespace Go.Proofs.Ytlofegfaphijpaa
end Go.Proofs.Ytlofegfaphijpaa

end

section
namespace Go.Proofs.Ytlofegfaphijpaa
end Go.Proofs.Ytlofegfaphijpaa

end

section
namespace Go.Proofs.Ytlofegfaphijpaa
/-! positions -/
def szOk (n : Int) : Prop := 1 ≤ n ∧ n ≤ 32768
def posOk (p : Pos) (n : Int) : Prop := szOk n ∧ 0 ≤ p.At ∧ p.At < n
instance (n : Int) : Decidable (szOk n) := by unfold szOk; exact inferInstance
instance (p : Pos) (n : Int) : Decidable (posOk p n) := by unfold posOk; exact inferInstance
theorem isSize_eq (n : Int) : serial_isSize n = some (decide (szOk n)) := by
  unfold serial_isSize szOk
  by_cases h : n ≥ 1
  · rw [bP h]; exact congrArg some (decide_eq_decide.2 ⟨fun q => ⟨h, q⟩, fun q => q.2⟩)
  · rw [bN h]; exact congrArg some (decide_eq_false (fun q => h q.1)).symm
theorem pcheck_eq (p : Pos) (n : Int) : serial_Check p n = some (if posOk p n then 0 else 2) := by
  unfold serial_Check
  rw [oS (isSize_eq n)]
  by_cases h1 : szOk n
  · rw [decide_eq_true h1, notT, brF]
    by_cases h2 : p.At < 0
    · rw [bP h2, if_neg (fun q => by have := q.2.1; omega)]
    · rw [bN h2]
      by_cases h3 : p.At ≥ n
      · rw [bP h3, if_neg (fun q => by have := q.2.2; omega)]
      · rw [bN h3, if_pos ⟨h1, by omega, by omega⟩]
  · rw [decide_eq_false h1, notF, brT, if_neg (fun q => h1 q.1)]
def goP (n : Int) (p : Pos) : Pos := if p.At + 1 ≥ n then ⟨p.At + 1 - n, !p.Wrap⟩ else ⟨p.At + 1, p.Wrap⟩
theorem go_eq {p : Pos} {n : Int} (h : posOk p n) : serial_Go p 1 n = some (goP n p, 0) := by
  have h' := h
  obtain ⟨⟨h1, h2⟩, h3, h4⟩ := h'
  have w1 : wi (p.At + 1) = p.At + 1 := wi_in (by omega) (by omega)
  unfold serial_Go goP
  rw [oS (pcheck_eq p n), if_pos h, nE rfl, bN (by decide), bN (by omega), w1]
  by_cases h5 : p.At + 1 ≥ n
  · rw [bP h5, if_pos h5, wi_in (by omega) (by omega)]
  · rw [bN h5, if_neg h5]
theorem goP_ok {p : Pos} {n : Int} (h : posOk p n) : posOk (goP n p) n := by
  obtain ⟨⟨h1, h2⟩, h3, h4⟩ := h
  unfold goP
  split
  · exact ⟨⟨h1, h2⟩, by dsimp only; omega, by dsimp only; omega⟩
  · exact ⟨⟨h1, h2⟩, by dsimp only; omega, by dsimp only; omega⟩
/-! one descriptor of a table -/
def many (n : Int) : Prop := 1 ≤ n ∧ n ≤ 64
instance (n : Int) : Decidable (many n) := by unfold many; exact inferInstance
/-! how many -/
def needF (l : List Seg) (t : Bool) : Int := if errB l = 0 then (if t = true then 1 else (l.length : Int)) else 0
theorem rneeds_eqB (l : List Seg) (t : Bool) : ref_Needs09 l t = some (needF l t) := by
  unfold ref_Needs09 needF
  rw [oS (may_eq l)]
  by_cases h : errB l = 0
  · rw [nE h, if_pos h]; cases t <;> rfl
  · rw [nF h, if_neg h]
end Go.Proofs.Ytlofegfaphijpaa

end

section
namespace Go.Proofs.Ytlofegfaphijpaa
end Go.Proofs.Ytlofegfaphijpaa

end

section
namespace Go.Proofs.Ytlofegfaphijpaa
end Go.Proofs.Ytlofegfaphijpaa

end

section
namespace Go.Proofs.Ytlofegfaphijpaa
/-- a packed descriptor out of sixteen bytes -/
def pOf (b : List UInt8) : Packed := match desc_ReadPacked b with | some r => r.1 | none => default
theorem pOf_eq {b : List UInt8} (h : b.length = 16) : desc_ReadPacked b = some (pOf b, 0) ∧ ref_ReadPacked03 b = some (pOf b, 0) := by
  obtain ⟨b0, b1, b2, b3, b4, b5, b6, b7, b8, b9, b10, b11, b12, b13, b14, b15, rfl⟩ := list16 h
  have h1 := readP b0 b1 b2 b3 b4 b5 b6 b7 b8 b9 b10 b11 b12 b13 b14 b15
  have h2 := refReadP b0 b1 b2 b3 b4 b5 b6 b7 b8 b9 b10 b11 b12 b13 b14 b15
  have e : pOf [b0, b1, b2, b3, b4, b5, b6, b7, b8, b9, b10, b11, b12, b13, b14, b15] = ⟨wrd b0 b1 b2 b3 b4 b5 b6 b7, (wrd b8 b9 b10 b11 0 0 0 0).toUInt32, (wrd b12 b13 0 0 0 0 0 0).toUInt16, (wrd b14 b15 0 0 0 0 0 0).toUInt16⟩ := by
    unfold pOf; rw [h1]
  rw [e]; exact ⟨h1, h2⟩
def pAt (x : List UInt8) (a : Nat) : Packed := pOf (rdF x a 16)
def mkP (d : Packed) : Seg := ⟨d.Addr, d.Len, d.Flags &&& 2 != 0⟩
/-- a packed table: what is left of it from a number on -/
def wiF (x : List UInt8) (a : UInt64) : Nat → Nat → List Seg → Int × List Seg
  | 0, _, l => (0, l)
  | f + 1, i, l => if (pAt x (plK a i)).Flags &&& 4 ≠ 0 then (4, l) else wiF x a f (i + 1) (l ++ [mkP (pAt x (plK a i))])
def wthF (N : Nat) (x : List UInt8) (a : UInt64) (c : UInt32) (l : List Seg) : Int × List Seg := if entE N a c ≠ 0 then (entE N a c, l) else wiF x a (c / 16).toNat 0 l
/-- a packed chain: the error, the ID, how many, the segments -/
def pkF (N : Nat) (x : List UInt8) (r : Rings) (tb : Bool) : Nat → Pos → Int → Nat → List Seg → Int × Int × Nat × List Seg
  | 0, _, id, c, l => (4, id, c, l)
  | f + 1, p, id, c, l =>
    if ¬ plK r.Desc p.At + 16 ≤ N then (5, id, c, l)
    else if (pAt x (plK r.Desc p.At)).Flags &&& 4 ≠ 0 then
      (if tb = false ∨ c ≠ 0 ∨ (pAt x (plK r.Desc p.At)).Flags &&& 1 ≠ 0 then (4, i16 (pAt x (plK r.Desc p.At)).ID, c + 1, l)
       else ((wthF N x (pAt x (plK r.Desc p.At)).Addr (pAt x (plK r.Desc p.At)).Len l).1, i16 (pAt x (plK r.Desc p.At)).ID, c + 1, (wthF N x (pAt x (plK r.Desc p.At)).Addr (pAt x (plK r.Desc p.At)).Len l).2))
    else if (pAt x (plK r.Desc p.At)).Flags &&& 1 = 0 then (0, i16 (pAt x (plK r.Desc p.At)).ID, c + 1, l ++ [mkP (pAt x (plK r.Desc p.At))])
    else pkF N x r tb f (goP r.Size p) (i16 (pAt x (plK r.Desc p.At)).ID) (c + 1) (l ++ [mkP (pAt x (plK r.Desc p.At))])
/-- the answer of it -/
def finP (N : Nat) (size : Int) (w : Int × Int × Nat × List Seg) : Taken × Int :=
  if w.1 ≠ 0 then (⟨0, 0, []⟩, w.1) else if w.2.1 ≥ size then (⟨0, 0, []⟩, 4) else if (lookF N w.2.2.2).2 ≠ 0 then (⟨0, 0, []⟩, (lookF N w.2.2.2).2) else (⟨w.2.1, (w.2.2.1 : Nat), (lookF N w.2.2.2).1⟩, 0)
/-! places of a table are in the memory -/
theorem ent_in {N : Nat} {a : UInt64} {c : UInt32} (h : entE N a c = 0) : a.toNat + c.toNat ≤ N ∧ 16 * (c / 16).toNat = c.toNat := by
  unfold entE at h
  by_cases q : c = 0 ∨ c % 16 ≠ 0 ∨ c / 16 > 64
  · rw [if_pos q] at h; cases h
  · rw [if_neg q] at h
    by_cases z : a.toNat + c.toNat ≤ N
    · refine ⟨z, ?_⟩
      have : c % 16 = 0 := Classical.byContradiction fun e => q (Or.inr (Or.inl e))
      have e2 := congrArg UInt32.toNat this
      rw [UInt32.toNat_mod] at e2
      rw [UInt32.toNat_div]
      simp only [UInt32.reduceToNat] at e2 ⊢
      omega
    · rw [if_neg z] at h; cases h
theorem plK_in {a : UInt64} {N i k : Nat} (hN : N ≤ 1048576) (h : a.toNat + 16 * k ≤ N) (hi : i < k) : plK a (i : Int) = a.toNat + 16 * i ∧ plK a (i : Int) + 16 ≤ N := by
  have : plK a (i : Int) = a.toNat + 16 * i := by
    unfold plK u64
    rw [UInt64.toNat_add, UInt64.toNat_mul, UInt64.toNat_ofNat']
    simp only [UInt64.reduceToNat]
    omega
  omega
/-! the program's table -/
theorem withinL {N : UInt64} {x : List UInt8} (hx : flatOk N x) (a : UInt64) (k : Nat) (hk : k ≤ 64) (ha : a.toNat + 16 * k ≤ N.toNat) : ∀ (nf i : Nat) (l : List Seg), i ≤ k → k - i < nf → l.length + k ≤ 1000 + i → ∃ l', walk_withinL1 ⟨rg N, [x]⟩ a ((k : Int), 0) nf l 0 (i : Int) = some (l', (wiF x a (k - i) i l).1) ∧ ((wiF x a (k - i) i l).1 = 0 → l' = (wiF x a (k - i) i l).2)
  | 0, i, _, _, h, _ => absurd h (Nat.not_lt_zero _)
  | nf + 1, i, l, hi, hn, hl => by
    unfold walk_withinL1 walk_withinL1B
    by_cases c : i < k
    · obtain ⟨_, h2⟩ := plK_in hx.2.1 ha c
      have hd := pOf_eq (rdF_len16 (x := x) (a := plK a (i : Int)) (by rw [hx.2.2]; exact h2))
      have hr := mread hx (a + 16 * u64 (i : Int))
      rw [if_pos (show (a + 16 * u64 (i : Int)).toNat + 16 ≤ N.toNat from h2)] at hr
      rw [bP (by dsimp only; omega), oS hr]
      dsimp only
      rw [show rdF x (a + 16 * u64 (i : Int)).toNat 16 = rdF x (plK a (i : Int)) 16 from rfl, oS hd.1, show k - i = k - (i + 1) + 1 by omega, wiF]
      unfold pAt
      generalize pOf (rdF x (plK a (i : Int)) 16) = d
      dsimp only
      by_cases h4 : d.Flags &&& 4 = 0
      · rw [nE h4, if_neg (by simp [h4]), oS (show walk_made d.Addr d.Len d.Flags = some (mkP d) from rfl), cFits (by simp; omega), wi_succ (by omega)]
        exact withinL hx a k hk ha nf (i + 1) (l ++ [mkP d]) (by omega) (by omega) (by rw [List.length_append, List.length_singleton]; omega)
      · rw [nF h4, if_pos h4]
        exact ⟨[], rfl, fun q => absurd (show (4 : Int) = 0 from q) (by decide)⟩
    · rw [bN (by dsimp only; omega), show k - i = 0 by omega]
      exact ⟨l, rfl, fun _ => rfl⟩
theorem within_eq {N : UInt64} {x : List UInt8} (hx : flatOk N x) (a : UInt64) (c : UInt32) : ∃ l', walk_within ⟨rg N, [x]⟩ a c = some (l', (wthF N.toNat x a c []).1) ∧ ((wthF N.toNat x a c []).1 = 0 → l' = (wthF N.toNat x a c []).2) := by
  unfold walk_within wthF
  rw [oS (ent_eq hx a c)]
  by_cases h : entE N.toNat a c = 0
  · have h64 := ent_le h
    obtain ⟨h1, h2⟩ := ent_in h
    rw [if_pos h, if_neg (by simpa using h)]
    have := withinL hx a (c / 16).toNat h64 (by omega) fuel 0 [] (by omega) (by rw [fuelS]; omega) (by simp; omega)
    exact this
  · rw [if_neg h, if_pos h]
    refine ⟨[], ?_, fun q => absurd q h⟩
    dsimp only
    rw [fuelS]
    unfold walk_withinL1 walk_withinL1B
    rw [bN (by dsimp only; omega)]
/-! the program's chain -/
theorem packL {N : UInt64} {x : List UInt8} (hx : flatOk N x) (r : Rings) (size : Nat) (hr : r.Size = (size : Int)) (hs : size ≤ 32768) (tb : Bool) : ∀ (nf f : Nat) (p : Pos) (id : Int) (c : Nat) (l : List Seg), f < nf → c + f = size → posOk p r.Size → l.length ≤ c → (c = 0 → l = []) →
    ∃ l', walk_packedL1 ⟨rg N, [x]⟩ tb nf r p id (c : Int) l = some (⟨(pkF N.toNat x r tb f p id c l).2.1, (((pkF N.toNat x r tb f p id c l).2.2.1 : Nat) : Int), l'⟩, (pkF N.toNat x r tb f p id c l).1) ∧ ((pkF N.toNat x r tb f p id c l).1 = 0 → l' = (pkF N.toNat x r tb f p id c l).2.2.2)
  | 0, f, _, _, _, _, h, _, _, _, _ => absurd h (Nat.not_lt_zero _)
  | nf + 1, 0, p, id, c, l, _, hc, _, _, _ => by
    unfold walk_packedL1 walk_packedL1B pkF
    rw [bN (by omega)]
    exact ⟨l, rfl, fun q => absurd (show (4 : Int) = 0 from q) (by decide)⟩
  | nf + 1, f + 1, p, id, c, l, hf, hc, hp, hl, hl0 => by
    unfold walk_packedL1 walk_packedL1B pkF
    rw [bP (by omega), oS (mread hx _)]
    by_cases h3 : plK r.Desc p.At + 16 ≤ N.toNat
    · have hd := pOf_eq (rdF_len16 (x := x) (a := plK r.Desc p.At) (by rw [hx.2.2]; exact h3))
      rw [if_pos (show (r.Desc + 16 * u64 p.At).toNat + 16 ≤ N.toNat from h3), if_neg (by simpa using h3), nE rfl]
      dsimp only
      rw [show rdF x (r.Desc + 16 * u64 p.At).toNat 16 = rdF x (plK r.Desc p.At) 16 from rfl, oS hd.1]
      unfold pAt
      generalize pOf (rdF x (plK r.Desc p.At) 16) = d
      dsimp only
      rw [oS (go_eq hp)]
      by_cases h4 : d.Flags &&& 4 = 0
      · rw [nE h4, if_neg (by simp [h4]), oS (show walk_made d.Addr d.Len d.Flags = some (mkP d) from rfl), cFits (by simp; omega), wi_succ (by omega)]
        by_cases h5 : d.Flags &&& 1 = 0
        · rw [bE h5, if_pos h5]; exact ⟨_, rfl, fun _ => rfl⟩
        · rw [bF h5, if_neg h5]
          exact packL hx r size hr hs tb nf f (goP r.Size p) (i16 d.ID) (c + 1) (l ++ [mkP d]) (by omega) (by omega) (goP_ok hp) (by rw [List.length_append, List.length_singleton]; omega) (by omega)
      · rw [nF h4, if_pos h4, wi_succ (by omega)]
        cases tb with
        | false => rw [notF, brT, if_pos (Or.inl rfl)]; exact ⟨_, rfl, fun q => absurd (show (4 : Int) = 0 from q) (by decide)⟩
        | true =>
          rw [notT, brF]
          by_cases h6 : c = 0
          · rw [bN (by omega)]
            by_cases h5 : d.Flags &&& 1 = 0
            · obtain ⟨l', e1, e2⟩ := within_eq hx d.Addr d.Len
              have hno : ¬ (true = false ∨ c ≠ 0 ∨ d.Flags &&& 1 ≠ 0) := by
                rintro (q | q | q)
                · cases q
                · exact q h6
                · exact q h5
              rw [nE h5, if_neg hno, oS e1, hl0 h6]
              exact ⟨l', rfl, e2⟩
            · rw [nF h5, if_pos (Or.inr (Or.inr h5))]; exact ⟨_, rfl, fun q => absurd (show (4 : Int) = 0 from q) (by decide)⟩
          · rw [bP (by omega), if_pos (Or.inr (Or.inl h6))]; exact ⟨_, rfl, fun q => absurd (show (4 : Int) = 0 from q) (by decide)⟩
    · rw [if_neg (show ¬ (r.Desc + 16 * u64 p.At).toNat + 16 ≤ N.toNat from h3), if_pos (by simpa using h3), nF (by decide)]
      exact ⟨l, rfl, fun q => absurd (show (5 : Int) = 0 from q) (by decide)⟩
def pakW (N : Nat) (x : List UInt8) (r : Rings) (p : Pos) (tb : Bool) : Int × Int × Nat × List Seg := pkF N x r tb r.Size.toNat p 0 0 []
def pakR (N : Nat) (x : List UInt8) (r : Rings) (p : Pos) (tb : Bool) : Taken × Int := if posOk p r.Size then finP N r.Size (pakW N x r p tb) else (⟨0, 0, []⟩, 2)
theorem wPacked_eq {N : UInt64} {x : List UInt8} (hx : flatOk N x) {r : Rings} {n : Int} (h : ringOk r true n) (h1 : 0 ≤ n) (h2 : n ≤ 32768) (p : Pos) (t : Bool) : walk_Packed ⟨rg N, [x]⟩ r p t = some (pakR N.toNat x r p t) := by
  unfold walk_Packed pakR
  rw [oS (wrefuse hx h), bE rfl, oS (pcheck_eq p r.Size)]
  by_cases hp : posOk p r.Size
  · rw [if_pos hp, if_pos hp, nE rfl]
    unfold walk_PackedJ1 walk_packed
    obtain ⟨s, hs⟩ : ∃ s : Nat, r.Size = (s : Int) := ⟨r.Size.toNat, by have := h.2.1; omega⟩
    obtain ⟨l', e1, e2⟩ := packL hx r s hs (by have := h.2.1; omega) t fuel s p 0 0 [] (by rw [fuelS]; have := h.2.1; omega) (by omega) hp (by simp) (fun _ => rfl)
    rw [show ((0 : Nat) : Int) = 0 from rfl] at e1
    unfold finP pakW
    rw [show r.Size.toNat = s by omega, nE rfl, oS e1]
    generalize pkF N.toNat x r t s p 0 0 [] = w at *
    dsimp only
    by_cases q1 : w.1 = 0
    · rw [bE q1, if_neg (by simpa using q1), e2 q1]
      by_cases q2 : w.2.1 ≥ r.Size
      · rw [bP q2, if_pos q2]; unfold walk_PackedJ2 walk_PackedJ3; rw [bF (by decide), nF (by decide)]
      · rw [bN q2, if_neg q2]
        unfold walk_PackedJ2 walk_PackedJ3
        rw [bE q1, oS (look_eq hx _)]
        by_cases q3 : (lookF N.toNat w.2.2.2).2 = 0
        · rw [nE q3, if_neg (by simpa using q3)]
        · rw [nF q3, if_pos q3]
    · rw [bF q1, if_pos q1]
  · rw [if_neg hp, if_neg hp, nF (by decide)]
    unfold walk_PackedJ1; rw [nF (by decide)]
end Go.Proofs.Ytlofegfaphijpaa

end

section
namespace Go.Proofs.Ytlofegfaphijpaa
theorem shl1 (k : Nat) (h : k < 8) : shli 1 ((u64 (k : Int)).toNat) = ((2 ^ k : Nat) : Int) := by
  have : ∀ k : Nat, k < 8 → shli 1 ((u64 (k : Int)).toNat) = ((2 ^ k : Nat) : Int) := by decide
  exact this k h
end Go.Proofs.Ytlofegfaphijpaa

end

section
namespace Go.Proofs.Ytlofegfaphijpaa
/-- what is taken is a buffer of the memory; what is refused is nothing -/
def okR (N : Nat) (l : List Seg) (e : Int) : Prop := (e = 0 → l ≠ [] ∧ errS l = 0 ∧ inF N l) ∧ (e ≠ 0 → l = [])
theorem look_ok (N : Nat) (l : List Seg) : okR N (lookF N l).1 (lookF N l).2 := by
  unfold lookF
  by_cases h1 : l = [] ∨ errS l ≠ 0
  · rw [if_pos h1]; exact ⟨fun q => absurd (show (4 : Int) = 0 from q) (by decide), fun _ => rfl⟩
  · rw [if_neg h1]
    by_cases h2 : inF N l
    · rw [if_pos h2]; exact ⟨fun _ => ⟨fun q => h1 (Or.inl q), Classical.byContradiction fun q => h1 (Or.inr q), h2⟩, fun q => absurd rfl q⟩
    · rw [if_neg h2]; exact ⟨fun q => absurd (show (5 : Int) = 0 from q) (by decide), fun _ => rfl⟩
theorem splR_ok (N : Nat) (x : List UInt8) (r : Rings) (head : Int) (t : Bool) : okR N (splR N x r head t).1 (splR N x r head t).2 := by
  unfold splR
  by_cases h : (splW N x r head t).1 ≠ 0
  · rw [if_pos h]; exact ⟨fun q => absurd q h, fun _ => rfl⟩
  · rw [if_neg h]; exact look_ok _ _
theorem finP_ok (N : Nat) (size : Int) (w : Int × Int × Nat × List Seg) : okR N (finP N size w).1.Segs (finP N size w).2 ∧ ((finP N size w).2 = 0 → w.1 = 0 ∧ w.2.1 < size ∧ (finP N size w).1.ID = w.2.1 ∧ (finP N size w).1.Count = (w.2.2.1 : Nat)) := by
  unfold finP
  by_cases h1 : w.1 ≠ 0
  · rw [if_pos h1]; exact ⟨⟨fun q => absurd q h1, fun _ => rfl⟩, fun q => absurd q h1⟩
  · rw [if_neg h1]
    by_cases h2 : w.2.1 ≥ size
    · rw [if_pos h2]; exact ⟨⟨fun q => absurd (show (4 : Int) = 0 from q) (by decide), fun _ => rfl⟩, fun q => absurd (show (4 : Int) = 0 from q) (by decide)⟩
    · rw [if_neg h2]
      have hk := look_ok N w.2.2.2
      by_cases h3 : (lookF N w.2.2.2).2 ≠ 0
      · rw [if_pos h3]; exact ⟨⟨fun q => absurd q h3, fun _ => rfl⟩, fun q => absurd q h3⟩
      · rw [if_neg h3]
        refine ⟨⟨fun _ => hk.1 (Classical.byContradiction h3), fun q => absurd rfl q⟩, fun _ => ⟨Classical.byContradiction h1, by omega, rfl, rfl⟩⟩
/-! how many are read -/
def tbGd (T : Nat) (tb : Desc → Nat → List Seg → Int × Nat × List Seg) : Prop := ∀ d n l, n ≤ (tb d n l).2.1 ∧ (tb d n l).2.1 ≤ n + T
theorem chF_le (N : Nat) (x : List UInt8) (a : UInt64) (size : Nat) {T : Nat} (tb : Desc → Nat → List Seg → Int × Nat × List Seg) (ht : tbGd T tb) : ∀ (f : Nat) (k : Int) (seen : List Int) (n : Nat) (l : List Seg), seen.length + f = size + 1 → seenOk (size : Int) seen →
    n ≤ (chF N x a (size : Int) tb f k seen n l).2.1 ∧ (chF N x a (size : Int) tb f k seen n l).2.1 ≤ n + (f - 1) + T ∧ ((chF N x a (size : Int) tb f k seen n l).1 = 0 → n + 1 ≤ (chF N x a (size : Int) tb f k seen n l).2.1)
  | 0, k, seen, n, l, h, hk => by have := seen_le hk; omega
  | f + 1, k, seen, n, l, h, hk => by
    unfold chF
    by_cases h0 : seen.contains k = true ∨ k < 0 ∨ k ≥ (size : Int)
    · rw [if_pos h0]; dsimp only; exact ⟨by omega, by omega, fun q => absurd q (by decide)⟩
    · rw [if_neg h0]
      have hs : seenOk (size : Int) (seen ++ [k]) := seen_snoc hk (by
        cases e : seen.contains k with
        | false => rfl
        | true => exact absurd (Or.inl e) h0) (fun q => h0 (Or.inr (Or.inl q))) (fun q => h0 (Or.inr (Or.inr q)))
      have hl := seen_le hs
      rw [List.length_append, List.length_singleton] at hl
      by_cases h1 : ¬ plK a k + 16 ≤ N
      · rw [if_pos h1]; dsimp only; exact ⟨by omega, by omega, fun q => absurd q (by decide)⟩
      · rw [if_neg h1]
        generalize dAt x (plK a k) = d
        by_cases h2 : d.Flags &&& 4 ≠ 0
        · rw [if_pos h2]
          have := ht d (n + 1) l
          exact ⟨by omega, by omega, fun _ => by omega⟩
        · rw [if_neg h2]
          by_cases h3 : d.Flags &&& 1 = 0
          · rw [if_pos h3]; dsimp only; exact ⟨by omega, by omega, fun _ => by omega⟩
          · rw [if_neg h3]
            obtain ⟨a1, a2, a3⟩ := chF_le N x a size tb ht f (i16 d.Next) (seen ++ [k]) (n + 1) (l ++ [mkS d]) (by rw [List.length_append, List.length_singleton]; omega) hs
            exact ⟨by omega, by omega, fun q => by have := a3 q; omega⟩
theorem noT_ok : tbGd 0 noT := fun d n l => ⟨Nat.le_refl n, Nat.le_refl n⟩
theorem tabT_ok (N : Nat) (x : List UInt8) (t : Bool) : tbGd 64 (tabT N x t) := by
  intro d n l
  unfold tabT
  by_cases h1 : t = false ∨ d.Flags &&& 1 ≠ 0
  · rw [if_pos h1]; exact ⟨Nat.le_refl n, Nat.le_add_right n 64⟩
  · rw [if_neg h1]
    by_cases h2 : entE N d.Addr d.Len ≠ 0
    · rw [if_pos h2]; exact ⟨Nat.le_refl n, Nat.le_add_right n 64⟩
    · rw [if_neg h2]
      have h64 := ent_le (Classical.byContradiction h2 : entE N d.Addr d.Len = 0)
      obtain ⟨a1, a2, _⟩ := chF_le N x d.Addr (d.Len / 16).toNat noT noT_ok (d.Len / 16).toNat.succ 0 [] n l (by simp) ⟨List.nodup_nil, fun x hx => by cases hx⟩
      have e : i32 (d.Len / 16) = (((d.Len / 16).toNat : Nat) : Int) := rfl
      rw [e]
      exact ⟨a1, by omega⟩
theorem splW_le (N : Nat) (x : List UInt8) (r : Rings) (size : Nat) (h : r.Size = (size : Int)) (head : Int) (t : Bool) : (splW N x r head t).2.1 ≤ size + 64 ∧ ((splW N x r head t).1 = 0 → 1 ≤ (splW N x r head t).2.1) := by
  unfold splW
  rw [h, Int.toNat_natCast]
  obtain ⟨_, a2, a3⟩ := chF_le N x r.Desc size (tabT N x t) (tabT_ok N x t) (size + 1) head [] 0 [] (by simp) ⟨List.nodup_nil, fun x hx => by cases hx⟩
  exact ⟨by omega, fun q => by have := a3 q; omega⟩
theorem splR_one (N : Nat) (x : List UInt8) (r : Rings) (size : Nat) (h : r.Size = (size : Int)) (head : Int) (t : Bool) (q : (splR N x r head t).2 = 0) : 1 ≤ (splW N x r head t).2.1 := by
  refine (splW_le N x r size h head t).2 ?_
  unfold splR at q
  by_cases z : (splW N x r head t).1 = 0
  · exact z
  · rw [if_pos z] at q; exact absurd q z
theorem pkF_ok (N : Nat) (x : List UInt8) (r : Rings) (tb : Bool) : ∀ (f : Nat) (p : Pos) (id : Int) (c : Nat) (l : List Seg), 0 ≤ id → 0 ≤ (pkF N x r tb f p id c l).2.1 ∧ (pkF N x r tb f p id c l).2.2.1 ≤ c + f ∧ ((pkF N x r tb f p id c l).1 = 0 → c + 1 ≤ (pkF N x r tb f p id c l).2.2.1)
  | 0, p, id, c, l, h => ⟨h, Nat.le_refl _, fun q => absurd (show (4 : Int) = 0 from q) (by decide)⟩
  | f + 1, p, id, c, l, h => by
    unfold pkF
    by_cases h1 : ¬ plK r.Desc p.At + 16 ≤ N
    · rw [if_pos h1]; exact ⟨h, Nat.le_add_right _ _, fun q => absurd (show (5 : Int) = 0 from q) (by decide)⟩
    · rw [if_neg h1]
      generalize pAt x (plK r.Desc p.At) = d
      have hi : 0 ≤ i16 d.ID := Int.natCast_nonneg _
      by_cases h2 : d.Flags &&& 4 ≠ 0
      · rw [if_pos h2]
        by_cases h3 : tb = false ∨ c ≠ 0 ∨ d.Flags &&& 1 ≠ 0
        · rw [if_pos h3]; dsimp only; exact ⟨hi, by omega, fun _ => by omega⟩
        · rw [if_neg h3]; dsimp only; exact ⟨hi, by omega, fun _ => by omega⟩
      · rw [if_neg h2]
        by_cases h3 : d.Flags &&& 1 = 0
        · rw [if_pos h3]; dsimp only; exact ⟨hi, by omega, fun _ => by omega⟩
        · rw [if_neg h3]
          obtain ⟨a1, a2, a3⟩ := pkF_ok N x r tb f (goP r.Size p) (i16 d.ID) (c + 1) (l ++ [mkP d]) hi
          exact ⟨a1, by omega, fun q => by have := a3 q; omega⟩
theorem pakR_ok (N : Nat) (x : List UInt8) (r : Rings) (size : Nat) (h : r.Size = (size : Int)) (p : Pos) (t : Bool) : okR N (pakR N x r p t).1.Segs (pakR N x r p t).2 ∧ ((pakR N x r p t).2 = 0 → 0 ≤ (pakR N x r p t).1.ID ∧ (pakR N x r p t).1.ID < (size : Int) ∧ 1 ≤ (pakR N x r p t).1.Count ∧ (pakR N x r p t).1.Count ≤ (size : Int)) := by
  unfold pakR
  by_cases hp : posOk p r.Size
  · rw [if_pos hp]
    obtain ⟨a1, a2⟩ := finP_ok N r.Size (pakW N x r p t)
    refine ⟨a1, fun q => ?_⟩
    obtain ⟨b1, b2, b3, b4⟩ := a2 q
    rw [b3, b4]
    unfold pakW at b1 b2 ⊢
    obtain ⟨c1, c2, c3⟩ := pkF_ok N x r t r.Size.toNat p 0 0 [] (Int.le_refl 0)
    have := c3 b1
    exact ⟨c1, by omega, by omega, by omega⟩
  · rw [if_neg hp]; exact ⟨⟨fun q => absurd (show (2 : Int) = 0 from q) (by decide), fun _ => rfl⟩, fun q => absurd (show (2 : Int) = 0 from q) (by decide)⟩
/-! the law -/
theorem endsL3 {y : List UInt8} (hy : flatOk 12000 y) (x1 : Int) (L1 : Pos → List Bool → Int → Option Bool) (mem1 : gmem_Mem) (hm : mem1.l = rg 12000) (w : Int × List (List UInt8)) (hw : w.2 = [y]) (m2 : Pos) (l2 : List Bool) (l : List Seg) (hl : l.length ≤ 64) (hi : inF 12000 l) (h0 : ∀ s ∈ l, 0 < s.Len.toNat) : ∀ (nf i : Nat), i ≤ l.length → l.length - i < nf → law10zWalkEndsL3 x1 L1 mem1 w m2 l2 l nf (i : Int) = L1 m2 l2 (wi (x1 + 1))
  | 0, i, _, h => absurd h (Nat.not_lt_zero _)
  | nf + 1, i, hi', hn => by
    unfold law10zWalkEndsL3 law10zWalkEndsL3B
    by_cases c : i < l.length
    · have hmem : l[i] ∈ l := List.getElem_mem c
      have h1 := hi _ hmem
      rw [bP (by simp only [len]; omega), oS (ix_nat (getq c)), oS (ix_nat (getq c)), hm, hw, oS (has_eq _ (flat_mem hy) _ _), find1, UInt32.toNat_toUInt64, if_pos ⟨h0 _ hmem, h1⟩]
      rw [show (some 0 : Option Nat).isSome = true from rfl, notT, notF, chkT, wi_succ (by omega)]
      exact endsL3 hy x1 L1 mem1 hm w hw m2 l2 l hl hi h0 nf (i + 1) (by omega) (by omega)
    · rw [bN (by simp only [len]; omega)]
theorem okS_len0 : ∀ (w : Bool) (l : List Seg), okS w l = true → ∀ s ∈ l, 0 < s.Len.toNat
  | _, [], _, s, hs => by cases hs
  | w, t :: l, h, s, hs => by
    unfold okS at h
    rw [Bool.and_eq_true, decide_eq_true_eq] at h
    rcases List.mem_cons.1 hs with q | q
    · rw [q]; exact h.1.1
    · exact okS_len0 t.Write l h.2 s q
theorem endsJ2 {y : List UInt8} (hy : flatOk 12000 y) (x1 : Int) (L1 : Pos → List Bool → Int → Option Bool) (mem1 : gmem_Mem) (hm : mem1.l = rg 12000) (w : Int × List (List UInt8)) (hw : w.2 = [y]) (m2 : Pos) (l2 : List Bool) (l : List Seg) (e : Int) (h : okR 12000 l e) : law10zWalkEndsJ2 x1 L1 mem1 w y m2 l2 l l e e = L1 m2 l2 (wi (x1 + 1)) := by
  have hl : l.length ≤ 64 := by
    by_cases q : e = 0
    · exact (errS_zero.1 (h.1 q).2.1).1
    · rw [h.2 q]; simp
  unfold law10zWalkEndsJ2
  rw [oS (ksame_eq _ _ (by omega)), beqI, notT, notF, chkT, cnE rfl, hm, hw, oS (image1_eq hy), cnE rfl, oS (rneeds_eqB l true)]
  by_cases q : e = 0
  · obtain ⟨a1, a2, a3⟩ := h.1 q
    have hg := errS_zero.1 a2
    have hn : needF l true = 1 := by
      unfold needF
      rw [if_pos (errB_zero.2 ⟨hg, a1⟩)]; rfl
    rw [hn, q, cNT (by decide)]
    have := endsL3 hy x1 L1 mem1 hm w hw m2 l2 l hl a3 (okS_len0 _ l hg.2.1) fuel 0 (by omega) (by rw [fuelS]; omega)
    exact this
  · have hl0 := h.2 q
    subst hl0
    have hn : needF [] true = 0 := by
      unfold needF
      rw [if_neg (fun z => (errB_zero.1 z).2 rfl)]
    rw [hn, cNT (by rw [beq_false_of_ne q]; decide)]
    have := endsL3 hy x1 L1 mem1 hm w hw m2 l2 [] hl (fun s hs => by cases hs) (fun s hs => by cases hs) fuel 0 (by simp) (by rw [fuelS]; simp)
    exact this
theorem t_law10zWalkEnds (size : Int) (l : List dumbwaiterlaw10_Spot) (raw : List UInt8) (atp3 head : Int) (p : Pos) : law10zWalkEnds size l raw atp3 head p = some true := by
  unfold law10zWalkEnds
  rw [oS lives10, notT, notF, chkT]
  by_cases hl : len l > 40
  · rw [bP hl]
  rw [bN hl]
  by_cases hr0 : len raw > 12000
  · rw [bP hr0]
  rw [bN hr0]
  simp only [len] at hl hr0
  obtain ⟨k, hk, hk2⟩ := pick_eq size 8 (by omega) (by omega)
  have hs := laid_split k hk2
  have h64 : 2 ^ k ≤ 128 := (Nat.pow_le_pow_right (by omega) (by omega) : 2 ^ k ≤ 2 ^ 7)
  have h0 : 0 < 2 ^ k := Nat.pow_pos (by omega)
  have hp := laid_packed (2 ^ k) (by omega) (by omega)
  rw [oS (show kit_Pick size 8 = some (k : Int) from hk)]
  obtain ⟨S, hS⟩ : ∃ S, S = 2 ^ k := ⟨_, rfl⟩
  have hsh := shl1 k hk2
  rw [← hS] at h64 h0 hs hp hsh
  obtain ⟨c, hc, hc2⟩ := pick_eq atp3 (12000 - raw.length + 1) (by omega) (by omega)
  have hpk : wi (wi (12000 - len raw) + 1) = ((12000 - raw.length + 1 : Nat) : Int) := by
    simp only [len]
    rw [wi_in (n := 12000 - (raw.length : Int)) (by omega) (by omega), wi_in (by omega) (by omega)]; omega
  have h12 : (12000 : UInt64).toNat = 12000 := rfl
  have hu : (u64 (c : Int)).toNat = c := by
    unfold u64
    rw [UInt64.toNat_ofNat']; omega
  have step : ∀ (pk : Bool) (x1 : Int) (L1 : Pos → List Bool → Int → Option Bool), ix [false, true] x1 = some pk → x1 < 2 → law10zWalkEndsL1B l raw atp3 head (k : Int) L1 p [false, true] x1 = L1 p [false, true] (wi (x1 + 1)) := by
    intro pk x1 L1 hix hx1
    obtain ⟨r, x, hr, hx, e⟩ := laid_eq (p := pk) (n := (S : Int)) (by cases pk; exact hs; exact hp) l (by omega)
    have hle : (u64 (c : Int)).toNat + raw.length ≤ (12000 : UInt64).toNat := by rw [hu, h12]; omega
    have hy := wrF_ok hx hle
    unfold law10zWalkEndsL1B
    rw [bP (show x1 < len [false, true] from hx1), oS hix, hsh, oS e]
    dsimp only [onO]
    rw [notT, notF, chkT, hpk, oS hc, oS (own_eq raw (by omega)), oS (write1_eq hx _ raw hle)]
    dsimp only
    generalize hY : wrF x (u64 (c : Int)).toNat raw = y at *
    rw [oS (image1_eq hy)]
    have hw := fun (m2 : Pos) (l2 : List Bool) (l : List Seg) (e : Int) (h : okR 12000 l e) => endsJ2 hy x1 L1 ⟨rg 12000, [x]⟩ rfl (0, [y]) rfl m2 l2 l e h
    cases pk with
    | true =>
      obtain ⟨a1, a2⟩ := pakR_ok 12000 y r S hr.2.1 p true
      have hP := wPacked_eq hy hr (by omega) (by omega) p true
      rw [h12] at hP
      rw [brT, oS hP, oS hP]
      by_cases q : (pakR 12000 y r p true).2 = 0
      · obtain ⟨b1, b2, b3, b4⟩ := a2 q
        rw [bE q, cN (by omega), cN (by omega), cN (by omega), cN (by omega), cnE rfl, cnE rfl, hw _ _ _ _ a1]
      · rw [bF q, hw _ _ _ _ a1]
    | false =>
      have a1 := splR_ok 12000 y r head true
      have hP := wSplit_eq hy hr (by omega) (by omega) head true
      have hQ := wReads_eq hy hr (by omega) (by omega) head true
      have hle := (splW_le 12000 y r S hr.2.1 head true).1
      rw [h12] at hP hQ
      rw [brF, oS hP, oS hP, oS hQ, wi_in (n := (S : Int) + 64) (by omega) (by omega), cN (by omega), cN (by omega)]
      by_cases q : (splR 12000 y r head true).2 = 0
      · have h1 := splR_one 12000 y r S hr.2.1 head true q
        rw [bE q, cN (by omega), hw _ _ _ _ a1]
      · rw [bF q, hw _ _ _ _ a1]
  have run : ∀ nf : Nat, law10zWalkEndsL1 l raw atp3 head (k : Int) (nf + 3) p [false, true] 0 = some true := by
    intro nf
    rw [show nf + 3 = nf + 2 + 1 from rfl]
    unfold law10zWalkEndsL1
    rw [step false 0 _ rfl (by decide), show wi (0 + 1) = 1 by decide, show nf + 2 = nf + 1 + 1 from rfl]
    unfold law10zWalkEndsL1
    rw [step true 1 _ rfl (by decide), show wi (1 + 1) = 2 by decide]
    unfold law10zWalkEndsL1 law10zWalkEndsL1B
    rw [bN (by decide)]
  rw [show fuel = 36893488147419103229 + 3 from rfl]
  exact run _
end Go.Proofs.Ytlofegfaphijpaa

end

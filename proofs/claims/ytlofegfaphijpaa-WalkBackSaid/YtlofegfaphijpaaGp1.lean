/- The plain words: what the functions reckon, and that the law answers true. No condition. -/
import Derived.Test.YtlofegfaphijpaaMo1
import Derived.Test.YtlofegfaphijpaaGe2
section
namespace Go.Proofs.Ytlofegfaphijpaa
def two (p : Bool) : Int := bif p then 0 else 2
theorem twoP {p : Bool} (h : p = true) : two p = 0 := by rw [h]; rfl
theorem twoN {p : Bool} (h : p = false) : two p = 2 := by rw [h]; rfl
theorem blt_f {a b : Nat} (h : ¬ a < b) : Nat.blt a b = false := by
  cases e : Nat.blt a b with
  | false => rfl
  | true => exact absurd (Nat.blt_eq ▸ e) h
theorem wi_pred {i : Nat} (h : i < 9223372036854775807) : wi (((i + 1 : Nat) : Int) - 1) = (i : Int) := by rw [wi_in (by omega) (by omega)]; omega
theorem fuelS : fuel = 36893488147419103231 + 1 := rfl
theorem le64 {a b : UInt64} : (a ≤ b) ↔ a.toNat ≤ b.toNat := UInt64.le_iff_toNat_le
theorem lt64 {a b : UInt64} : (a < b) ↔ a.toNat < b.toNat := UInt64.lt_iff_toNat_lt
theorem sub64 {a b : UInt64} (h : b.toNat ≤ a.toNat) : (a - b).toNat = a.toNat - b.toNat := UInt64.toNat_sub_of_le _ _ (le64.2 h)
def wrF (x : List UInt8) (a : Nat) (xs : List UInt8) : List UInt8 := x.take a ++ xs ++ x.drop (a + xs.length)
theorem wrF_nil (x : List UInt8) (a : Nat) : wrF x a [] = x := by simp [wrF]
theorem wrF_len {x xs : List UInt8} {a : Nat} (h : a + xs.length ≤ x.length) : (wrF x a xs).length = x.length := by
  simp only [wrF, List.length_append, List.length_take, List.length_drop]; omega
theorem pick_eq (n : Int) (m : Nat) (hm : 0 < m) (hm2 : m ≤ 1000000) : ∃ k : Nat, KB n (m : Int) = some (k : Int) ∧ k < m := by
  unfold KB
  have h1 : (remi n (m : Int)) = n.tmod m := rfl
  have h2 := Int.tmod_lt_of_pos n (show (0 : Int) < (m : Int) by omega)
  have h3 : -(m : Int) < n.tmod m := by
    have := Int.tmod_lt_of_pos (-n) (show (0 : Int) < (m : Int) by omega)
    rw [Int.neg_tmod] at this; omega
  rw [bN (by omega), cnF (by omega), h1]
  by_cases h : n.tmod m < 0
  · rw [bP h, wi_in (by omega) (by omega)]
    exact ⟨(n.tmod m + m).toNat, by congr 1; omega, by omega⟩
  · rw [bN h]
    exact ⟨(n.tmod m).toNat, by congr 1; omega, by omega⟩
end Go.Proofs.Ytlofegfaphijpaa

end

section
namespace Go.Proofs.Ytlofegfaphijpaa
def okA : Nat → List Region → Bool
  | _, [] => true
  | pe, r :: l => decide (0 < r.Len.toNat ∧ r.At.toNat + r.Len.toNat ≤ 18446744073709551616 ∧ pe ≤ r.At.toNat) && okA (r.At.toNat + r.Len.toNat) l
def sumM : List Region → Nat
  | [] => 0
  | r :: l => r.Len.toNat + sumM l
def goodM (l : List Region) : Prop := l.length ≤ 16 ∧ okA 0 l = true ∧ sumM l ≤ 1048576
def errM (l : List Region) : Int := if l.length > 16 then 2 else two (okA 0 l && Nat.ble (sumM l) 1048576)
theorem errM_zero {l : List Region} : errM l = 0 ↔ goodM l := by
  unfold errM goodM
  by_cases h : l.length > 16
  · rw [if_pos h]; constructor
    · intro q; cases q
    · intro q; omega
  · rw [if_neg h]
    cases h2 : okA 0 l && Nat.ble (sumM l) 1048576 with
    | true =>
      rw [twoP rfl]
      simp only [Bool.and_eq_true, Nat.ble_eq] at h2
      exact ⟨fun _ => ⟨by omega, h2⟩, fun _ => rfl⟩
    | false =>
      rw [twoN rfl]
      constructor
      · intro q; cases q
      · rintro ⟨_, q1, q2⟩
        rw [q1, Bool.true_and] at h2
        rw [show Nat.ble (sumM l) 1048576 = true by rw [Nat.ble_eq]; exact q2] at h2; cases h2
def prevE (l : List Region) : Nat → Nat
  | 0 => 0
  | i + 1 => match l[i]? with | some s => s.At.toNat + s.Len.toNat | none => 0
theorem prevE_succ {l : List Region} {i : Nat} (h : i < l.length) : prevE l (i + 1) = l[i].At.toNat + l[i].Len.toNat := by
  simp only [prevE, getq h]
theorem ble_f {a b : Nat} (h : ¬ a ≤ b) : Nat.ble a b = false := by
  cases e : Nat.ble a b with
  | false => rfl
  | true => exact absurd (Nat.ble_eq ▸ e) h
theorem okA_n {pe : Nat} {r : Region} {l : List Region} {q : Bool} (h : ¬ (0 < r.Len.toNat ∧ r.At.toNat + r.Len.toNat ≤ 18446744073709551616 ∧ pe ≤ r.At.toNat)) : (okA pe (r :: l) && q) = false := by
  simp only [okA]; rw [decide_eq_false h]; rfl
theorem okA_p {pe : Nat} {r : Region} {l : List Region} {q : Bool} (h : 0 < r.Len.toNat ∧ r.At.toNat + r.Len.toNat ≤ 18446744073709551616 ∧ pe ≤ r.At.toNat) : (okA pe (r :: l) && q) = (okA (r.At.toNat + r.Len.toNat) l && q) := by
  simp only [okA]; rw [decide_eq_true h]; rfl
theorem gmemCheckL (l : List Region) (hl : l.length ≤ 16) : ∀ (nf i : Nat) (room : UInt64), i ≤ l.length → l.length - i < nf → (∀ j, j < i → ∀ h : j < l.length, 0 < l[j].Len.toNat ∧ l[j].At.toNat + l[j].Len.toNat ≤ 18446744073709551616) →
    KO l nf room (i : Int) = some (two (okA (prevE l i) (l.drop i) && Nat.ble (sumM (l.drop i)) room.toNat))
  | 0, i, room, _, h, _ => by omega
  | nf + 1, i, room, hi, hn, hp => by
    unfold KO gmem_CheckL1B
    by_cases h : i < l.length
    · have hd : l.drop i = l[i] :: l.drop (i + 1) := drop_ix h
      have hA := l[i].At.toNat_lt; have hL := l[i].Len.toNat_lt
      rw [bP (by simp only [len]; omega), oS (XK (getq h)), hd]
      by_cases h0 : l[i].Len < 1
      · rw [bP h0, twoN (okA_n (fun q => by have := lt64.1 h0; simp only [UInt64.reduceToNat] at this; omega))]
      · have h0' : 0 < l[i].Len.toNat := by
          rcases Nat.eq_zero_or_pos l[i].Len.toNat with e | e
          · exact absurd (lt64.2 (by rw [e]; decide)) h0
          · exact e
        rw [bN h0]
        by_cases h1 : l[i].Len > room
        · rw [bP h1, twoN]
          rw [ble_f (by simp only [sumM]; have := lt64.1 h1; omega), Bool.and_false]
        · have h1' : l[i].Len.toNat ≤ room.toNat := Nat.le_of_not_lt fun q => h1 (lt64.2 q)
          rw [bN h1]
          have e1 : (l[i].Len - 1).toNat = l[i].Len.toNat - 1 := sub64 (by simp only [UInt64.reduceToNat]; omega)
          have e2 : ((18446744073709551615 : UInt64) - l[i].At).toNat = 18446744073709551615 - l[i].At.toNat := sub64 (by simp only [UInt64.reduceToNat]; omega)
          by_cases h2 : l[i].Len - 1 > (18446744073709551615 : UInt64) - l[i].At
          · rw [bP h2, twoN (okA_n (fun q => by have := lt64.1 h2; rw [e1, e2] at this; omega))]
          · have h2' : l[i].At.toNat + l[i].Len.toNat ≤ 18446744073709551616 := by
              have : ¬ ((18446744073709551615 : UInt64) - l[i].At).toNat < (l[i].Len - 1).toNat := fun q => h2 (lt64.2 q)
              rw [e1, e2] at this; omega
            rw [bN h2]
            have ih := gmemCheckL l hl nf (i + 1) (room - l[i].Len) (by omega) (by omega) (fun j hj hjl => by
              by_cases e : j = i
              · subst e; exact ⟨h0', h2'⟩
              · exact hp j (by omega) hjl)
            rw [prevE_succ h, sub64 h1'] at ih
            have eb : Nat.ble (sumM (l.drop (i + 1))) (room.toNat - l[i].Len.toNat) = Nat.ble (sumM (l[i] :: l.drop (i + 1))) room.toNat := by
              simp only [sumM]
              by_cases z : l[i].Len.toNat + sumM (l.drop (i + 1)) ≤ room.toNat
              · rw [Nat.ble_eq_true_of_le z, Nat.ble_eq_true_of_le (by omega)]
              · rw [ble_f z, ble_f (by omega)]
            rw [eb] at ih
            cases i with
            | zero =>
              rw [bN (by simp), ZH (by omega), ih, show prevE l 0 = 0 from rfl, okA_p ⟨h0', h2', Nat.zero_le _⟩]
            | succ j =>
              have hj : j < l.length := by omega
              obtain ⟨p1, p2⟩ := hp j (by omega) hj
              have hA2 := l[j].At.toNat_lt
              rw [bP (by omega), wi_pred (by omega), oS (XK (getq hj)), prevE_succ hj]
              by_cases h3 : l[j + 1].At ≤ l[j].At
              · rw [bP h3, twoN (okA_n (fun q => by have := le64.1 h3; omega))]
              · have h3' : l[j].At.toNat < l[j + 1].At.toNat := Nat.lt_of_not_le fun q => h3 (le64.2 q)
                rw [bN h3]
                have e3 : (l[j + 1].At - l[j].At).toNat = l[j + 1].At.toNat - l[j].At.toNat := sub64 (by omega)
                by_cases h4 : l[j + 1].At - l[j].At < l[j].Len
                · rw [bP h4, twoN (okA_n (fun q => by have := lt64.1 h4; rw [e3] at this; omega))]
                · have h4' : l[j].At.toNat + l[j].Len.toNat ≤ l[j + 1].At.toNat := by
                    have : ¬ (l[j + 1].At - l[j].At).toNat < l[j].Len.toNat := fun q => h4 (lt64.2 q)
                    rw [e3] at this; omega
                  rw [bN h4, ZH (by omega), ih, okA_p ⟨h0', h2', h4'⟩]
    · rw [bN (by simp only [len]; omega), List.drop_of_length_le (by omega), twoP (by simp [okA, sumM])]
theorem gmemCheck (l : List Region) : gmem_Check l = some (errM l) := by
  unfold gmem_Check errM
  by_cases h : l.length > 16
  · rw [bP (by simp only [len]; omega), if_pos h]
  · rw [bN (by simp only [len]; omega), if_neg h]
    have := gmemCheckL l (by omega) fuel 0 1048576 (by omega) (by unfold fuel; omega) (fun j hj => by omega)
    exact this
theorem refMCheckL (l : List Region) (hl : l.length ≤ 16) : ∀ (nf i n : Nat), i ≤ l.length → l.length - i < nf → n ≤ 1048576 * i → (∀ j, j < i → ∀ h : j < l.length, 0 < l[j].Len.toNat ∧ l[j].At.toNat + l[j].Len.toNat ≤ 18446744073709551616) →
    Ke l nf (UInt64.ofNat n) (i : Int) = some (two (okA (prevE l i) (l.drop i) && Nat.ble (n + sumM (l.drop i)) 1048576))
  | 0, i, n, _, h, _, _ => by omega
  | nf + 1, i, n, hi, hn, hs, hp => by
    unfold Ke ref_Check02L1B
    by_cases h : i < l.length
    · have hd : l.drop i = l[i] :: l.drop (i + 1) := drop_ix h
      have hA := l[i].At.toNat_lt; have hL := l[i].Len.toNat_lt
      have gi := XK (getq h)
      rw [bP (by simp only [len]; omega), hd]
      simp only [oS gi]
      by_cases h0 : l[i].Len = 0
      · rw [bE h0, twoN (okA_n (fun q => by rw [h0] at q; simp at q))]
      · have h0' : 0 < l[i].Len.toNat := by
          rcases Nat.eq_zero_or_pos l[i].Len.toNat with e | e
          · exact absurd (UInt64.toNat_inj.1 (by simpa using e)) h0
          · exact e
        rw [bF h0]
        by_cases h1 : l[i].Len > 1048576
        · rw [bP h1, twoN]
          rw [ble_f (by simp only [sumM]; have := lt64.1 h1; simp only [UInt64.reduceToNat] at this; omega), Bool.and_false]
        · have h1' : l[i].Len.toNat ≤ 1048576 := Nat.le_of_not_lt fun q => h1 (lt64.2 (by simpa using q))
          rw [bN h1]
          have e1 : (l[i].Len - 1).toNat = l[i].Len.toNat - 1 := sub64 (by simp only [UInt64.reduceToNat]; omega)
          by_cases h2 : l[i].At + (l[i].Len - 1) < l[i].At
          · rw [bP h2, twoN (okA_n (fun q => by have := lt64.1 h2; rw [UInt64.toNat_add, e1] at this; omega))]
          · have h2' : l[i].At.toNat + l[i].Len.toNat ≤ 18446744073709551616 := by
              have : ¬ (l[i].At + (l[i].Len - 1)).toNat < l[i].At.toNat := fun q => h2 (lt64.2 q)
              rw [UInt64.toNat_add, e1] at this; omega
            rw [bN h2]
            have ih := refMCheckL l hl nf (i + 1) (n + l[i].Len.toNat) (by omega) (by omega) (by omega) (fun j hj hjl => by
              by_cases e : j = i
              · subst e; exact ⟨h0', h2'⟩
              · exact hp j (by omega) hjl)
            have ea : UInt64.ofNat n + l[i].Len = UInt64.ofNat (n + l[i].Len.toNat) := by rw [UInt64.ofNat_add]; congr 1; simp
            rw [prevE_succ h, Nat.add_assoc] at ih
            cases i with
            | zero =>
              rw [bN (by simp), ZH (by omega), ea, ih, show prevE l 0 = 0 from rfl, okA_p ⟨h0', h2', Nat.zero_le _⟩]; rfl
            | succ j =>
              have hj : j < l.length := by omega
              obtain ⟨p1, p2⟩ := hp j (by omega) hj
              have gj := XK (getq hj)
              have e3 : (l[j].Len - 1).toNat = l[j].Len.toNat - 1 := sub64 (by simp only [UInt64.reduceToNat]; omega)
              have e4 : (l[j].At + (l[j].Len - 1)).toNat = l[j].At.toNat + l[j].Len.toNat - 1 := by rw [UInt64.toNat_add, e3]; omega
              rw [bP (by omega), wi_pred (by omega)]
              simp only [oS gj]
              rw [prevE_succ hj]
              by_cases h3 : l[j + 1].At ≤ l[j].At + (l[j].Len - 1)
              · rw [bP h3, twoN (okA_n (fun q => by have := le64.1 h3; rw [e4] at this; omega))]
              · have h3' : l[j].At.toNat + l[j].Len.toNat ≤ l[j + 1].At.toNat := by
                  have : ¬ l[j + 1].At.toNat ≤ (l[j].At + (l[j].Len - 1)).toNat := fun q => h3 (le64.2 q)
                  rw [e4] at this; omega
                rw [bN h3, ZH (by omega), ea, ih, okA_p ⟨h0', h2', h3'⟩]; rfl
    · rw [bN (by simp only [len]; omega), List.drop_of_length_le (by omega)]
      simp only [sumM, okA, Bool.true_and, Nat.add_zero]
      by_cases q : n ≤ 1048576
      · rw [bN (fun z => by have := lt64.1 z; rw [UInt64.toNat_ofNat'] at this; simp only [UInt64.reduceToNat] at this; omega), twoP (Nat.ble_eq_true_of_le q)]
      · rw [bP (by rw [GT.gt, lt64, UInt64.toNat_ofNat']; simp only [UInt64.reduceToNat]; omega), twoN (ble_f q)]
theorem refMCheck (l : List Region) : ref_Check02 l = some (errM l) := by
  unfold ref_Check02 errM
  by_cases h : l.length > 16
  · rw [bP (by simp only [len]; omega), if_pos h]
  · rw [bN (by simp only [len]; omega), if_neg h]
    have := refMCheckL l (by omega) fuel 0 0 (by omega) (by unfold fuel; omega) (by omega) (fun j hj => by omega)
    rw [Nat.zero_add] at this; exact this
theorem errM_good {l : List Region} (h : goodM l) : errM l = 0 := errM_zero.2 h
def zer (l : List Region) : List (List UInt8) := l.map fun r => List.replicate r.Len.toNat 0
theorem sumM_get : ∀ {l : List Region} {i : Nat} (h : i < l.length), l[i].Len.toNat ≤ sumM l
  | [], i, h => by simp at h
  | r :: l, 0, _ => by simp [sumM]
  | r :: l, i + 1, h => by
    have := sumM_get (l := l) (i := i) (by simpa using h)
    simp only [sumM, List.getElem_cons_succ]; omega
theorem gmemNewL (l reg : List Region) (hl : l.length ≤ 16) (hs : sumM l ≤ 1048576) : ∀ (nf i : Nat), i ≤ l.length → l.length - i < nf → gmem_NewL1 l reg nf ((zer l).take i ++ List.replicate (l.length - i) []) (i : Int) = some (some ⟨reg, zer l⟩, 0)
  | 0, i, _, h => by omega
  | nf + 1, i, hi, hn => by
    have hz : (zer l).length = l.length := by simp [zer]
    unfold gmem_NewL1 gmem_NewL1B
    by_cases h : i < l.length
    · have hL := sumM_get h
      rw [bP (by simp only [len]; omega), oS (XK (getq h)), cP (by omega)]
      have hlt : i < ((zer l).take i ++ List.replicate (l.length - i) []).length := by simp [hz]; omega
      rw [oS (XK (getq hlt)), ZH (by omega)]
      have e : ((zer l).take i ++ List.replicate (l.length - i) []).set (Int.toNat (i : Int)) (List.replicate (Int.toNat (l[i].Len.toNat : Int)) 0) = (zer l).take (i + 1) ++ List.replicate (l.length - (i + 1)) [] := by
        rw [Int.toNat_natCast, Int.toNat_natCast, List.set_append_right _ _ (by simp; omega)]
        have e1 : i - ((zer l).take i).length = 0 := by simp [hz]; omega
        rw [e1, show l.length - i = (l.length - (i + 1)) + 1 by omega, List.replicate_succ, List.set_cons_zero, List.take_add_one, getq (by omega : i < (zer l).length)]
        simp [zer]
      rw [e]
      exact gmemNewL l reg hl hs nf (i + 1) (by omega) (by omega)
    · have e : i = l.length := by omega
      rw [bN (by simp only [len]; omega), e, Nat.sub_self, List.take_of_length_le (by omega)]
      simp
theorem new_ok {l : List Region} (h : goodM l) : gmem_New l = some (some ⟨l, zer l⟩, 0) := by
  have hl := h.1
  unfold gmem_New
  rw [oS (gmemCheck l), nE (errM_good h)]
  have hc : Zk l = some l := by unfold Zk; rw [cFits (by simp; omega)]
  rw [oS hc, cP (by simp only [len]; rw [wi_in (by omega) (by omega)]; omega)]
  have := gmemNewL l l hl h.2.2 fuel 0 (by omega) (by unfold fuel; omega)
  rw [List.take_zero, List.nil_append, Nat.sub_zero] at this
  exact this
theorem refNewL (l reg : List Region) (hl : l.length ≤ 16) (hs : sumM l ≤ 1048576) : ∀ (nf i : Nat), i ≤ l.length → l.length - i < nf → ref_New02L1 l nf reg ((zer l).take i) (i : Int) = some (some ⟨reg, zer l⟩, 0)
  | 0, i, _, h => by omega
  | nf + 1, i, hi, hn => by
    have hz : (zer l).length = l.length := by simp [zer]
    unfold ref_New02L1 ref_New02L1B
    by_cases h : i < l.length
    · have hL := sumM_get h
      rw [bP (by simp only [len]; omega), oS (XK (getq h)), cP (by omega), cFits (by simp [hz]; omega), ZH (by omega)]
      have e : (zer l).take i ++ [List.replicate (Int.toNat (l[i].Len.toNat : Int)) 0] = (zer l).take (i + 1) := by
        rw [Int.toNat_natCast, List.take_add_one, getq (by omega : i < (zer l).length)]
        simp [zer]
      rw [e]
      exact refNewL l reg hl hs nf (i + 1) (by omega) (by omega)
    · rw [bN (by simp only [len]; omega), List.take_of_length_le (by omega)]
theorem rnew_ok {l : List Region} (h : goodM l) : ref_New02 l = some (some ⟨l, zer l⟩, 0) := by
  have hl := h.1
  unfold ref_New02
  rw [oS (refMCheck l), nE (errM_good h), cFits (by simp; omega)]
  have := refNewL l l hl h.2.2 fuel 0 (by omega) (by unfold fuel; omega)
  rw [List.take_zero] at this
  exact this
def inR (a n : Nat) (r : Region) : Bool := decide (r.At.toNat ≤ a ∧ a + n ≤ r.At.toNat + r.Len.toNat)
def findR (l : List Region) (a n : Nat) : Option Nat := if n = 0 then none else l.findIdx? (inR a n)
def memOk (l : List Region) (b : List (List UInt8)) : Prop := goodM l ∧ b.length = l.length ∧ ∀ (i : Nat) (r : Region) (x : List UInt8), l[i]? = some r → b[i]? = some x → x.length = r.Len.toNat
theorem okA_get : ∀ {pe : Nat} {l : List Region}, okA pe l = true → ∀ {i : Nat} (h : i < l.length), pe ≤ l[i].At.toNat ∧ 0 < l[i].Len.toNat ∧ l[i].At.toNat + l[i].Len.toNat ≤ 18446744073709551616
  | pe, [], _, i, h => by simp at h
  | pe, r :: l, hk, 0, _ => by
    simp only [okA, Bool.and_eq_true, decide_eq_true_eq] at hk
    exact ⟨hk.1.2.2, hk.1.1, hk.1.2.1⟩
  | pe, r :: l, hk, i + 1, h => by
    simp only [okA, Bool.and_eq_true, decide_eq_true_eq] at hk
    have := okA_get hk.2 (i := i) (by simpa using h)
    simp only [List.getElem_cons_succ]
    exact ⟨by omega, this.2⟩
theorem okA_lt : ∀ {pe : Nat} {l : List Region}, okA pe l = true → ∀ {i j : Nat} (hij : i < j) (h : j < l.length), l[i].At.toNat + l[i].Len.toNat ≤ l[j].At.toNat
  | pe, [], _, i, j, _, h => by simp at h
  | pe, r :: l, hk, 0, j + 1, _, h => by
    simp only [okA, Bool.and_eq_true, decide_eq_true_eq] at hk
    exact (okA_get hk.2 (i := j) (by simpa using h)).1
  | pe, r :: l, hk, i + 1, j + 1, hij, h => by
    simp only [okA, Bool.and_eq_true, decide_eq_true_eq] at hk
    exact okA_lt hk.2 (i := i) (j := j) (by omega) (by simpa using h)
  | pe, r :: l, hk, 0, 0, hij, h => by omega
  | pe, r :: l, hk, i + 1, 0, hij, h => by omega
theorem mid_eq {i j : Nat} (hi : i ≤ j) (hj : j ≤ 16) : i64 (Kb (u64 (wi ((i : Int) + (j : Int)))) ((1 : UInt64).toNat)) = (((i + j) / 2 : Nat) : Int) := by
  rw [wi_in (by omega) (by omega), show ((i : Int) + (j : Int)) = ((i + j : Nat) : Int) by omega, u64_of]
  have : ∀ n, n ≤ 32 → i64 (Kb (UInt64.ofNat n) ((1 : UInt64).toNat)) = ((n / 2 : Nat) : Int) := by decide +kernel
  exact this _ (by omega)
theorem end_eq {r : Region} (h : 0 < r.Len.toNat ∧ r.At.toNat + r.Len.toNat ≤ 18446744073709551616) (a : UInt64) : ((r.Len - 1 + r.At) ≥ a) ↔ a.toNat < r.At.toNat + r.Len.toNat := by
  have e1 : (r.Len - 1).toNat = r.Len.toNat - 1 := sub64 (by simp only [UInt64.reduceToNat]; omega)
  have e2 : (r.Len - 1 + r.At).toNat = r.At.toNat + r.Len.toNat - 1 := by rw [UInt64.toNat_add, e1]; omega
  rw [GE.ge, le64, e2]; omega
theorem searchL (m : gmem_Mem) (hg : goodM m.l) (a : UInt64) : ∀ (nf i j : Nat), i ≤ j → j ≤ m.l.length → j - i < nf → (∀ k (h : k < m.l.length), k < i → m.l[k].At.toNat + m.l[k].Len.toNat ≤ a.toNat) → (∀ k (h : k < m.l.length), j ≤ k → a.toNat < m.l[k].At.toNat + m.l[k].Len.toNat) →
    ∃ s : Nat, Zo m a nf (i : Int) (j : Int) = some (s : Int) ∧ s ≤ m.l.length ∧ (∀ k (h : k < m.l.length), k < s → m.l[k].At.toNat + m.l[k].Len.toNat ≤ a.toNat) ∧ (∀ k (h : k < m.l.length), s ≤ k → a.toNat < m.l[k].At.toNat + m.l[k].Len.toNat)
  | 0, i, j, _, _, h, _, _ => by omega
  | nf + 1, i, j, hij, hj, hn, hlo, hhi => by
    have hl := hg.1
    unfold Zo ZO
    by_cases h : i < j
    · rw [bP (by omega), mid_eq hij (by omega)]
      have hm : (i + j) / 2 < m.l.length := by omega
      have gm := XK (getq hm)
      have hb : YB (((i + j) / 2 : Nat) : Int) m a = some (decide ((m.l[(i + j) / 2].Len - 1 + m.l[(i + j) / 2].At) ≥ a)) := by
        unfold YB; simp only [oS gm]
      have og := okA_get hg.2.1 hm
      rw [oS hb]
      by_cases hc : a.toNat < m.l[(i + j) / 2].At.toNat + m.l[(i + j) / 2].Len.toNat
      · rw [decide_eq_true ((end_eq og.2 a).2 hc), bFl (show (!true) = false from rfl)]
        refine searchL m hg a nf i ((i + j) / 2) (by omega) (by omega) (by omega) hlo (fun k hk hjk => ?_)
        by_cases e : k = (i + j) / 2
        · subst e; exact hc
        · have := okA_lt hg.2.1 (i := (i + j) / 2) (j := k) (by omega) hk
          omega
      · rw [decide_eq_false (fun q => hc ((end_eq og.2 a).1 q)), bT (show (!false) = true from rfl), ZH (by omega)]
        refine searchL m hg a nf ((i + j) / 2 + 1) j (by omega) (by omega) (by omega) (fun k hk hki => ?_) hhi
        by_cases e : k = (i + j) / 2
        · subst e; omega
        · have h1 := okA_lt hg.2.1 (i := k) (j := (i + j) / 2) (by omega) hm
          have h2 := okA_get hg.2.1 hm
          omega
    · have e : i = j := by omega
      subst e
      rw [bN (by omega)]
      exact ⟨i, rfl, hj, hlo, hhi⟩
theorem findR_some {l : List Region} {a n i : Nat} (hk : okA 0 l = true) (hn : 0 < n) (h : i < l.length) (h1 : l[i].At.toNat ≤ a) (h2 : a + n ≤ l[i].At.toNat + l[i].Len.toNat) : findR l a n = some i := by
  unfold findR
  rw [if_neg (by omega), List.findIdx?_eq_some_iff_getElem]
  refine ⟨h, by simp [inR, h1, h2], fun j hj => ?_⟩
  have := okA_lt hk hj h
  simp [inR]; omega
theorem findR_none {l : List Region} {a n : Nat} (h : ∀ (i : Nat) (hi : i < l.length), l[i].At.toNat ≤ a → ¬ a + n ≤ l[i].At.toNat + l[i].Len.toNat) : findR l a n = none := by
  unfold findR
  by_cases h0 : n = 0
  · rw [if_pos h0]
  · rw [if_neg h0, List.findIdx?_eq_none_iff]
    intro r hr
    obtain ⟨i, hi, rfl⟩ := List.mem_iff_getElem.1 hr
    have := h i hi
    simp only [inR, decide_eq_false_iff_not]; omega
def winR (l : List Region) (a n : Nat) : Option (Int × Int × Int) := match findR l a n with
  | none => none
  | some i => match l[i]? with | none => none | some r => some ((i : Int), ((a - r.At.toNat : Nat) : Int), ((a - r.At.toNat + n : Nat) : Int))
theorem bytes_eq (m : gmem_Mem) (hm : memOk m.l m.b) (a n : UInt64) : XY m a n = some (winR m.l a.toNat n.toNat) := by
  obtain ⟨hg, hlen, hrow⟩ := hm
  have ha := a.toNat_lt; have hnb := n.toNat_lt
  unfold XY winR
  by_cases h0 : n < 1
  · have : n.toNat = 0 := by have := lt64.1 h0; simp only [UInt64.reduceToNat] at this; omega
    rw [bP h0, show findR m.l a.toNat n.toNat = none by simp [findR, this]]
  · have hn : 0 < n.toNat := by
      rcases Nat.eq_zero_or_pos n.toNat with e | e
      · exact absurd (lt64.2 (by rw [e]; decide)) h0
      · exact e
    rw [bN h0]
    obtain ⟨s, hs, hsl, hlo, hhi⟩ := searchL m hg a fuel 0 m.l.length (by omega) (by omega) (by have := hg.1; unfold fuel; omega) (fun k hk h => by omega) (fun k hk h => by omega)
    have hsrch : ZF (len m.l) m a = some (s : Int) := by unfold ZF; exact hs
    rw [oS hsrch]
    by_cases e : s = m.l.length
    · rw [bE (by simp only [len]; omega), findR_none (fun i hi h1 => by have := hlo i hi (by omega); omega)]
    · have hslt : s < m.l.length := by omega
      have og := okA_get hg.2.1 hslt
      have hh := hhi s hslt (Nat.le_refl _)
      have gi := XK (getq hslt)
      rw [bF (by simp only [len]; omega)]
      simp only [oS gi]
      by_cases h2 : a < m.l[s].At
      · have h2' := lt64.1 h2
        rw [bP h2, findR_none (fun i hi h1 => by
          rcases Nat.lt_trichotomy i s with q | q | q
          · have := hlo i hi q; omega
          · subst q; omega
          · have := okA_lt hg.2.1 q hi; omega)]
      · have h2' : m.l[s].At.toNat ≤ a.toNat := Nat.le_of_not_lt fun q => h2 (lt64.2 q)
        have e1 : (a - m.l[s].At).toNat = a.toNat - m.l[s].At.toNat := sub64 h2'
        have e2 : (m.l[s].Len - (a - m.l[s].At)).toNat = m.l[s].Len.toNat - (a.toNat - m.l[s].At.toNat) := by rw [sub64 (by rw [e1]; omega), e1]
        rw [bN h2]
        by_cases h3 : n > m.l[s].Len - (a - m.l[s].At)
        · have h3' := lt64.1 h3
          rw [e2] at h3'
          rw [bP h3, findR_none (fun i hi h1 => by
            rcases Nat.lt_trichotomy i s with q | q | q
            · have := hlo i hi q; omega
            · subst q; omega
            · have := okA_lt hg.2.1 q hi; omega)]
        · have h3' : n.toNat ≤ m.l[s].Len.toNat - (a.toNat - m.l[s].At.toNat) := by
            rw [← e2]; exact Nat.le_of_not_lt fun q => h3 (lt64.2 q)
          have hb : s < m.b.length := by omega
          have hr := hrow s _ _ (getq hslt) (getq hb)
          have hL := m.l[s].Len.toNat_lt
          have e4 : (a - m.l[s].At + n).toNat = a.toNat - m.l[s].At.toNat + n.toNat := by rw [UInt64.toNat_add, e1]; omega
          rw [bN h3, oS (XK (getq hb)), e1, e4, cP (by simp only [len]; omega), findR_some hg.2.1 hn hslt h2' (by omega)]
          simp only [getq hslt]
theorem findR_in {l : List Region} {a n i : Nat} (h : findR l a n = some i) : ∃ (hi : i < l.length), 0 < n ∧ l[i].At.toNat ≤ a ∧ a + n ≤ l[i].At.toNat + l[i].Len.toNat := by
  unfold findR at h
  by_cases h0 : n = 0
  · rw [if_pos h0] at h; cases h
  · rw [if_neg h0, List.findIdx?_eq_some_iff_getElem] at h
    obtain ⟨hi, h1, _⟩ := h
    simp only [inR, decide_eq_true_eq] at h1
    exact ⟨hi, by omega, h1.1, h1.2⟩
theorem has_eq (m : gmem_Mem) (hm : memOk m.l m.b) (a n : UInt64) : KN m a n = some (findR m.l a.toNat n.toNat).isSome := by
  unfold KN
  rw [oS (show XU m = some true from rfl), oS (bytes_eq m hm a n)]
  unfold winR
  cases hf : findR m.l a.toNat n.toNat with
  | none => rfl
  | some i =>
    obtain ⟨hi, h0, h1, h2⟩ := findR_in hf
    have hb : i < m.b.length := by rw [hm.2.1]; exact hi
    have hr := hm.2.2 i _ _ (getq hi) (getq hb)
    simp only [getq hi]
    rw [onS]
    dsimp only
    rw [oS (XK (getq hb)), cP (by simp only [len]; omega), cP (by omega)]
    rfl
def readR (l : List Region) (b : List (List UInt8)) (a n : Nat) : Option (List UInt8) := match findR l a n with
  | none => none
  | some i => match l[i]?, b[i]? with | some r, some x => some ((x.drop (a - r.At.toNat)).take n) | _, _ => none
theorem read_eqM (m : gmem_Mem) (hm : memOk m.l m.b) (a : UInt64) (n : Int) (hn : n ≤ 140737488355328) : ZV m a n = some (if n < 0 then (([] : List UInt8), (2 : Int)) else if n = 0 then ([], 0) else match readR m.l m.b a.toNat n.toNat with | none => ([], 5) | some x => (x, 0)) := by
  unfold ZV
  rw [oS (show XU m = some true from rfl)]
  by_cases h0 : n < 0
  · rw [bP h0, if_pos h0]
  · rw [bN h0, if_neg h0]
    by_cases h1 : n = 0
    · rw [bE h1, if_pos h1]
    · obtain ⟨k, rfl⟩ : ∃ k : Nat, n = (k : Int) := ⟨n.toNat, by omega⟩
      rw [bF h1, if_neg h1, u64_of, oS (bytes_eq m hm a _), UInt64.toNat_ofNat', Nat.mod_eq_of_lt (by omega), Int.toNat_natCast]
      unfold winR readR
      cases hf : findR m.l a.toNat k with
      | none => rfl
      | some i =>
        obtain ⟨hi, q0, q1, q2⟩ := findR_in hf
        have hb : i < m.b.length := by rw [hm.2.1]; exact hi
        have hr := hm.2.2 i _ _ (getq hi) (getq hb)
        simp only [getq hi, getq hb]
        have hs : sub m.b[i] ((a.toNat - m.l[i].At.toNat : Nat) : Int) ((a.toNat - m.l[i].At.toNat + k : Nat) : Int) = (m.b[i].drop (a.toNat - m.l[i].At.toNat)).take k := by
          rw [sub_nat]; congr 1; omega
        rw [onS]
        dsimp only
        rw [oS (XK (getq hb)), cP (by simp only [len]; omega), cP (by omega), hs]
        have hc : ∀ x : List UInt8, x.length ≤ k → Xj x = some x := fun x hx => by unfold Xj; rw [cFits (by simp; omega)]
        rw [oS (hc _ (by simp; omega))]
theorem find_eqL (m : dumbwaiterref02_Mem) (hm : memOk m.L m.B) (a n : UInt64) : ∀ (nf i : Nat), i ≤ m.L.length → m.L.length - i < nf → (∀ j (h : j < m.L.length), j < i → ¬ (n.toNat ≠ 0 ∧ inR a.toNat n.toNat m.L[j] = true)) →
    Xt m a n nf (i : Int) = some (match findR m.L a.toNat n.toNat with | none => (-1, 0) | some k => ((k : Int), match m.L[k]? with | none => 0 | some r => ((a.toNat - r.At.toNat : Nat) : Int)))
  | 0, i, _, h, _ => by omega
  | nf + 1, i, hi, hn, hp => by
    have ha := a.toNat_lt
    have hl := hm.1.1
    unfold Xt Kd
    by_cases h : i < m.L.length
    · have og := okA_get hm.1.2.1 h
      have hAl := m.L[i].At.toNat_lt
      have hsum := sumM_get h
      have hsm := hm.1.2.2
      rw [bP (by simp only [len]; omega), oS (XK (getq h)), ZH (by omega)]
      have next : ¬ (n.toNat ≠ 0 ∧ inR a.toNat n.toNat m.L[i] = true) → Xt m a n nf ((i + 1 : Nat) : Int) = some (match findR m.L a.toNat n.toNat with | none => (-1, 0) | some k => ((k : Int), match m.L[k]? with | none => 0 | some r => ((a.toNat - r.At.toNat : Nat) : Int))) := fun q =>
        find_eqL m hm a n nf (i + 1) (by omega) (by omega) (fun j hj hji => by
          by_cases e : j = i
          · subst e; exact q
          · exact hp j hj (by omega))
      by_cases h1 : n ≥ 1
      · have h1' : 0 < n.toNat := by have := le64.1 h1; simp only [UInt64.reduceToNat] at this; omega
        rw [bP h1]
        by_cases h2 : a ≥ m.L[i].At
        · have h2' := le64.1 h2
          rw [bP h2]
          by_cases h3 : n ≤ m.L[i].Len
          · have h3' := le64.1 h3
            have e1 : (a - m.L[i].At).toNat = a.toNat - m.L[i].At.toNat := sub64 h2'
            have e2 : (m.L[i].Len - n).toNat = m.L[i].Len.toNat - n.toNat := sub64 h3'
            rw [bP h3]
            by_cases h4 : a - m.L[i].At ≤ m.L[i].Len - n
            · have h4' := le64.1 h4
              rw [e1, e2] at h4'
              rw [bP h4, findR_some hm.1.2.1 h1' h h2' (by omega), i64_of (by rw [e1]; omega), e1]
              simp only [getq h]
            · have h4' : ¬ a.toNat - m.L[i].At.toNat ≤ m.L[i].Len.toNat - n.toNat := by rw [← e1, ← e2]; exact fun q => h4 (le64.2 q)
              rw [bN h4]; exact next (fun q => by have := q.2; simp only [inR, decide_eq_true_eq] at this; omega)
          · have h3' : ¬ n.toNat ≤ m.L[i].Len.toNat := fun q => h3 (le64.2 q)
            rw [bN h3]; exact next (fun q => by have := q.2; simp only [inR, decide_eq_true_eq] at this; omega)
        · have h2' : ¬ m.L[i].At.toNat ≤ a.toNat := fun q => h2 (le64.2 q)
          rw [bN h2]; exact next (fun q => by have := q.2; simp only [inR, decide_eq_true_eq] at this; omega)
      · rw [bN h1]; exact next (fun q => h1 (le64.2 (by simp only [UInt64.reduceToNat]; omega)))
    · have hfn : findR m.L a.toNat n.toNat = none := by
        by_cases q : n.toNat = 0
        · simp [findR, q]
        · exact findR_none (fun j hj h1 h2 => hp j hj (by omega) ⟨q, by simp [inR, h1, h2]⟩)
      rw [bN (by simp only [len]; omega), hfn]
theorem find_eq (m : dumbwaiterref02_Mem) (hm : memOk m.L m.B) (a n : UInt64) : Kv m a n = some (match findR m.L a.toNat n.toNat with | none => (-1, 0) | some k => ((k : Int), match m.L[k]? with | none => 0 | some r => ((a.toNat - r.At.toNat : Nat) : Int))) := by
  unfold Kv
  have hl := hm.1.1
  exact find_eqL m hm a n fuel 0 (by omega) (by unfold fuel; omega) (fun j _ h => by omega)
def writeR (l : List Region) (b : List (List UInt8)) (a : Nat) (xs : List UInt8) : Option (List (List UInt8)) := match findR l a xs.length with
  | none => none
  | some i => match l[i]?, b[i]? with | some r, some x => some (b.set i (x.take (a - r.At.toNat) ++ xs ++ x.drop (a - r.At.toNat + xs.length))) | _, _ => none
theorem copyAt_all {x xs : List UInt8} {o m : Nat} (h : o + xs.length ≤ m) : copyAt x (o : Int) (m : Int) xs = x.take o ++ xs ++ x.drop (o + xs.length) := by
  unfold copyAt
  simp only [Int.toNat_natCast]
  rw [show xs.take (m - o) = xs from List.take_of_length_le (by omega), Nat.min_eq_left (by omega)]
theorem write_eqM (m : gmem_Mem) (hm : memOk m.l m.b) (a : UInt64) (xs : List UInt8) (hn : xs.length ≤ 140737488355328) : Zq m a xs = some (if xs = [] then ((0 : Int), m.b) else match writeR m.l m.b a.toNat xs with | none => (5, m.b) | some b => (0, b)) := by
  unfold Zq
  rw [oS (show XU m = some true from rfl)]
  by_cases h1 : xs = []
  · rw [bE (by rw [h1]; rfl), if_pos h1]
  · have hl : 0 < xs.length := List.length_pos_iff.2 h1
    rw [bF (by simp only [len]; omega), if_neg h1, show len xs = ((xs.length : Nat) : Int) from rfl, u64_of, oS (bytes_eq m hm a _), UInt64.toNat_ofNat', Nat.mod_eq_of_lt (by omega)]
    unfold winR writeR
    cases hf : findR m.l a.toNat xs.length with
    | none => rfl
    | some i =>
      obtain ⟨hi, q0, q1, q2⟩ := findR_in hf
      have hb : i < m.b.length := by rw [hm.2.1]; exact hi
      have hr := hm.2.2 i _ _ (getq hi) (getq hb)
      simp only [getq hi, getq hb]
      rw [onS]
      dsimp only
      rw [oS (XK (getq hb)), cP (by simp only [len]; omega), cP (by omega), copyAt_all (by omega), Int.toNat_natCast]
theorem rwrite_eq (m : dumbwaiterref02_Mem) (hm : memOk m.L m.B) (a : UInt64) (xs : List UInt8) (hn : xs.length ≤ 140737488355328) : Yi m a xs = some (if xs = [] then ((0 : Int), m.B) else match writeR m.L m.B a.toNat xs with | none => (5, m.B) | some b => (0, b)) := by
  unfold Yi
  by_cases h1 : xs = []
  · rw [bE (by rw [h1]; rfl), if_pos h1]
  · have hl : 0 < xs.length := List.length_pos_iff.2 h1
    rw [bF (by simp only [len]; omega), if_neg h1, show len xs = ((xs.length : Nat) : Int) from rfl, u64_of, oS (find_eq m hm a _), UInt64.toNat_ofNat', Nat.mod_eq_of_lt (by omega)]
    unfold writeR
    cases hf : findR m.L a.toNat xs.length with
    | none => rfl
    | some i =>
      obtain ⟨hi, q0, q1, q2⟩ := findR_in hf
      have hb : i < m.B.length := by rw [hm.2.1]; exact hi
      have hr := hm.2.2 i _ _ (getq hi) (getq hb)
      simp only [getq hi, getq hb]
      rw [bN (by omega), oS (XK (getq hb)), cP (by simp only [len]; omega), show len m.B[i] = ((m.B[i].length : Nat) : Int) from rfl, copyAt_all (by omega), Int.toNat_natCast]
end Go.Proofs.Ytlofegfaphijpaa

end

section
namespace Go.Proofs.Ytlofegfaphijpaa
def okS : Bool → List Seg → Bool
  | _, [] => true
  | w, s :: r => decide (0 < s.Len.toNat ∧ s.At.toNat + s.Len.toNat ≤ 18446744073709551616 ∧ (w = true → s.Write = true)) && okS s.Write r
def sumS : List Seg → Nat
  | [] => 0
  | s :: r => s.Len.toNat + sumS r
def goodS (l : List Seg) : Prop := l.length ≤ 64 ∧ okS false l = true ∧ sumS l < 4294967296
instance (l : List Seg) : Decidable (goodS l) := by unfold goodS; infer_instance
def errS (l : List Seg) : Int := if l.length > 64 then 3 else two (okS false l && Nat.blt (sumS l) 4294967296)
theorem errS_zero {l : List Seg} : errS l = 0 ↔ goodS l := by
  unfold errS goodS
  by_cases h : l.length > 64
  · rw [if_pos h]; constructor
    · intro q; cases q
    · intro q; omega
  · rw [if_neg h]
    cases h2 : okS false l && Nat.blt (sumS l) 4294967296 with
    | true =>
      rw [twoP rfl]
      simp only [Bool.and_eq_true, Nat.blt_eq] at h2
      exact ⟨fun _ => ⟨by omega, h2⟩, fun _ => rfl⟩
    | false =>
      rw [twoN rfl]
      constructor
      · intro q; cases q
      · rintro ⟨_, q1, q2⟩
        rw [q1, Bool.true_and] at h2
        rw [show Nat.blt (sumS l) 4294967296 = true by rw [Nat.blt_eq]; exact q2] at h2; cases h2
theorem sumS_le : ∀ l : List Seg, sumS l ≤ 4294967295 * l.length
  | [] => by simp [sumS]
  | s :: r => by
    have := sumS_le r; have hs := s.Len.toNat_lt
    simp only [sumS, List.length_cons]; omega
def prevW (l : List Seg) : Nat → Bool
  | 0 => false
  | i + 1 => match l[i]? with | some s => s.Write | none => false
theorem prevW_succ {l : List Seg} {i : Nat} (h : i < l.length) : prevW l (i + 1) = l[i].Write := by
  simp only [prevW, getq h]
theorem len32 (s : Seg) (h : s.Len ≠ 0) : 0 < s.Len.toNat := by
  rcases Nat.eq_zero_or_pos s.Len.toNat with e | e
  · exact absurd (UInt32.toNat_inj.1 (by simpa using e)) h
  · exact e
theorem add64 (n : Nat) (x : UInt32) : UInt64.ofNat n + x.toUInt64 = UInt64.ofNat (n + x.toNat) := by
  rw [UInt64.ofNat_add]; congr 1
  apply UInt64.toNat_inj.1
  have := x.toNat_lt
  simp only [UInt32.toNat_toUInt64, UInt64.toNat_ofNat']; omega
theorem over1 (s : Seg) (h : 0 < s.Len.toNat) : (s.Len.toUInt64 - 1 > (18446744073709551615 : UInt64) - s.At) ↔ ¬ s.At.toNat + s.Len.toNat ≤ 18446744073709551616 := by
  have h1 := s.Len.toNat_lt; have h2 := s.At.toNat_lt
  rw [GT.gt, UInt64.lt_iff_toNat_lt, UInt64.toNat_sub_of_le, UInt64.toNat_sub_of_le, UInt32.toNat_toUInt64]
  · simp only [UInt64.reduceToNat]; omega
  · rw [UInt64.le_iff_toNat_le, UInt32.toNat_toUInt64]; simp only [UInt64.reduceToNat]; omega
  · rw [UInt64.le_iff_toNat_le]; simp only [UInt64.reduceToNat]; omega
theorem ge32 (n : Nat) (h : n < 18446744073709551616) : (UInt64.ofNat n ≥ 4294967296) ↔ ¬ n < 4294967296 := by
  rw [GE.ge, UInt64.le_iff_toNat_le, UInt64.toNat_ofNat']; simp only [UInt64.reduceToNat]; omega
theorem segCheckL (l : List Seg) (hl : l.length ≤ 64) : ∀ (nf i n : Nat) (m : Int), i ≤ l.length → l.length - i < nf → n + sumS (l.drop i) < 18446744073709551616 →
    KG l nf m (UInt64.ofNat n) (i : Int) = some (two (okS (prevW l i) (l.drop i) && Nat.blt (n + sumS (l.drop i)) 4294967296))
  | 0, i, n, m, _, h, _ => by omega
  | nf + 1, i, n, m, hi, hn, hs => by
    unfold KG seg_CheckL1B
    by_cases h : i < l.length
    · have hd : l.drop i = l[i] :: l.drop (i + 1) := drop_ix h
      rw [hd] at hs ⊢
      simp only [sumS] at hs
      have ih := segCheckL l hl nf (i + 1) (n + l[i].Len.toNat) m (by omega) (by omega) (by omega)
      rw [prevW_succ h] at ih
      simp only [okS, sumS]
      have c2 : YT 2 (UInt64.ofNat n) = some 2 := rfl
      rw [bP (by simp only [len]; omega), oS (XK (getq h))]
      by_cases h0 : l[i].Len = 0
      · rw [bP (show l[i].Len < 1 by rw [h0]; decide), oS c2]
        rw [twoN (by rw [h0]; simp)]
      have hp := len32 _ h0
      rw [bN (show ¬ l[i].Len < 1 by rw [UInt32.lt_iff_toNat_lt]; simp only [UInt32.reduceToNat]; omega)]
      by_cases ho : l[i].At.toNat + l[i].Len.toNat ≤ 18446744073709551616
      · rw [bN (fun q => (over1 _ hp).1 q ho)]
        have go : some (two (okS l[i].Write (l.drop (i + 1)) && Nat.blt (n + l[i].Len.toNat + sumS (l.drop (i + 1))) 4294967296)) = KG l nf m (UInt64.ofNat n + l[i].Len.toUInt64) (wi ((i : Int) + 1)) := by
          rw [add64, ZH (by omega), ih]
        cases i with
        | zero =>
          rw [bN (by simp), ← go]
          congr 2
          simp [prevW, hp, ho, Nat.add_assoc]
        | succ j =>
          rw [bP (by omega), wi_pred (by omega), oS (XK (getq (by omega)))]
          rw [prevW_succ (by omega)]
          by_cases hw : l[j].Write = true
          · rw [bT hw]
            by_cases hw2 : l[j + 1].Write = true
            · rw [bFl (by rw [hw2]; rfl), ← go]
              congr 2
              simp [hp, ho, hw2, Nat.add_assoc]
            · rw [bT (by simpa using hw2), oS c2, twoN (by simp [hw, hw2])]
          · rw [bFl (by simpa using hw), ← go]
            congr 2
            simp [hp, ho, hw, Nat.add_assoc]
      · rw [bP ((over1 _ hp).2 ho), oS c2, twoN (by simp [ho])]
    · have hd : l.drop i = [] := List.drop_of_length_le (by omega)
      rw [hd] at hs ⊢
      simp only [sumS, Nat.add_zero] at hs ⊢
      rw [bN (by simp only [len]; omega)]
      unfold YT
      rw [show br ((0 : Int) == 0) (br (decide (UInt64.ofNat n ≥ 4294967296)) (some 2) (some 0)) (some 0) = br (decide (UInt64.ofNat n ≥ 4294967296)) (some (2 : Int)) (some 0) from rfl]
      by_cases hq : n < 4294967296
      · rw [bN (fun q => (ge32 n hs).1 q hq), obS, twoP (by simp [okS, hq])]
      · rw [bP ((ge32 n hs).2 hq), obS, twoN (by rw [blt_f hq, Bool.and_false])]
theorem segCheck (l : List Seg) : seg_Check l = some (errS l) := by
  unfold seg_Check errS
  by_cases h : l.length > 64
  · rw [bP (by simp only [len]; omega), if_pos h]
  · have := sumS_le l
    have h1 := segCheckL l (by omega) fuel 0 0 0 (by omega) (by unfold fuel; omega) (by simp; omega)
    rw [bN (by simp only [len]; omega), if_neg h]
    simp only [List.drop_zero, Nat.zero_add, prevW] at h1
    exact h1
end Go.Proofs.Ytlofegfaphijpaa

end

section
namespace Go.Proofs.Ytlofegfaphijpaa
def hdS (x : Seg) (k : Nat) : Seg := ⟨x.At, UInt32.ofNat k, x.Write⟩
def tlS (x : Seg) (k : Nat) : Seg := ⟨x.At + UInt64.ofNat k, UInt32.ofNat (x.Len.toNat - k), x.Write⟩
def takeS : Nat → List Seg → List Seg
  | _, [] => []
  | n, x :: r => if n = 0 then [] else if n < x.Len.toNat then [hdS x n] else x :: takeS (n - x.Len.toNat) r
def dropS : Nat → List Seg → List Seg
  | _, [] => []
  | n, x :: r => if n = 0 then x :: r else if n < x.Len.toNat then tlS x n :: r else dropS (n - x.Len.toNat) r
theorem take0 (l : List Seg) : takeS 0 l = [] := by cases l <;> simp [takeS]
theorem drop0 (l : List Seg) : dropS 0 l = l := by cases l <;> simp [dropS]
def posS (l : List Seg) : Prop := ∀ s ∈ l, 0 < s.Len.toNat
theorem okS_pos : ∀ {w : Bool} {l : List Seg}, okS w l = true → posS l
  | _, [], _ => fun s h => by cases h
  | w, x :: r, h => by
    simp only [okS, Bool.and_eq_true, decide_eq_true_eq] at h
    intro s hs
    rcases List.mem_cons.1 hs with e | e
    · subst e; exact h.1.1
    · exact okS_pos h.2 s e
theorem hd_len {x : Seg} {n : Nat} (h : n < x.Len.toNat) : (hdS x n).Len.toNat = n := by
  have := x.Len.toNat_lt
  simp only [hdS, UInt32.toNat_ofNat']; omega
theorem tl_len {x : Seg} {n : Nat} : (tlS x n).Len.toNat = x.Len.toNat - n := by
  have := x.Len.toNat_lt
  simp only [tlS, UInt32.toNat_ofNat']; omega
theorem take_take : ∀ (m n : Nat) (l : List Seg), takeS m (takeS n l) = takeS (min m n) l
  | m, n, [] => rfl
  | m, n, x :: r => by
    rw [takeS.eq_2 n]
    by_cases h0 : n = 0
    · rw [if_pos h0, h0]; simp [take0, takeS]
    · rw [if_neg h0]
      by_cases h1 : n < x.Len.toNat
      · rw [if_pos h1]
        simp only [takeS, hd_len h1]
        by_cases hm : m = 0
        · rw [if_pos hm, if_pos (show min m n = 0 by omega)]
        · by_cases hm2 : m < n
          · rw [if_neg hm, if_pos hm2, if_neg (show ¬ min m n = 0 by omega), if_pos (show min m n < x.Len.toNat by omega), show min m n = m by omega]; rfl
          · rw [if_neg hm, if_neg hm2, if_neg (show ¬ min m n = 0 by omega), if_pos (show min m n < x.Len.toNat by omega), show min m n = n by omega]
      · rw [if_neg h1]
        simp only [takeS]
        by_cases hm : m = 0
        · rw [if_pos hm, if_pos (show min m n = 0 by omega)]
        · by_cases hm2 : m < x.Len.toNat
          · rw [if_neg hm, if_pos hm2, if_neg (show ¬ min m n = 0 by omega), if_pos (show min m n < x.Len.toNat by omega), show min m n = m by omega]
          · rw [if_neg hm, if_neg hm2, if_neg (show ¬ min m n = 0 by omega), if_neg (show ¬ min m n < x.Len.toNat by omega), take_take, show min (m - x.Len.toNat) (n - x.Len.toNat) = min m n - x.Len.toNat by omega]
theorem tl_tl {x : Seg} {a b : Nat} (h : a + b ≤ x.Len.toNat) : tlS (tlS x a) b = tlS x (a + b) := by
  have := x.Len.toNat_lt
  have e := tl_len (x := x) (n := a)
  unfold tlS at e ⊢
  simp only [Seg.mk.injEq, and_true]
  refine ⟨by rw [UInt64.add_assoc, ← UInt64.ofNat_add], ?_⟩
  apply UInt32.toNat_inj.1
  simp only [UInt32.toNat_ofNat'] at e ⊢; omega
theorem drop_drop : ∀ (a b : Nat) (l : List Seg), posS l → dropS a (dropS b l) = dropS (b + a) l
  | a, b, [], _ => rfl
  | a, b, x :: r, hp => by
    have hx := hp x (by simp)
    have hr : posS r := fun s hs => hp s (by simp [hs])
    rw [dropS.eq_2 b]
    by_cases h0 : b = 0
    · rw [if_pos h0, h0, Nat.zero_add]
    · rw [if_neg h0]
      by_cases h1 : b < x.Len.toNat
      · rw [if_pos h1]
        simp only [dropS, tl_len]
        by_cases ha : a = 0
        · rw [if_pos ha, if_neg (by omega), if_pos (by omega), ha, Nat.add_zero]
        · by_cases ha2 : a < x.Len.toNat - b
          · rw [if_neg ha, if_pos ha2, if_neg (show ¬ b + a = 0 by omega), if_pos (show b + a < x.Len.toNat by omega), tl_tl (by omega)]
          · rw [if_neg ha, if_neg ha2, if_neg (show ¬ b + a = 0 by omega), if_neg (show ¬ b + a < x.Len.toNat by omega), show a - (x.Len.toNat - b) = b + a - x.Len.toNat by omega]
      · rw [if_neg h1, drop_drop _ _ r hr]
        rw [dropS.eq_2 (b + a), if_neg (by omega), if_neg (by omega), show b - x.Len.toNat + a = b + a - x.Len.toNat by omega]
theorem drop_take : ∀ (m n : Nat) (l : List Seg), posS l → dropS m (takeS n l) = takeS (n - m) (dropS m l)
  | m, n, [], _ => rfl
  | m, n, x :: r, hp => by
    have hx := hp x (by simp)
    have hr : posS r := fun s hs => hp s (by simp [hs])
    have hb := x.Len.toNat_lt
    by_cases hm : m = 0
    · rw [hm, drop0, drop0, Nat.sub_zero]
    rw [takeS.eq_2 n, dropS.eq_2 m x r, if_neg hm]
    by_cases h0 : n = 0
    · rw [if_pos h0, h0, Nat.zero_sub, take0]; rfl
    · rw [if_neg h0]
      by_cases h1 : n < x.Len.toNat
      · rw [if_pos h1]
        simp only [dropS, hd_len h1, if_neg hm]
        by_cases h2 : m < n
        · rw [if_pos h2, if_pos (by omega), takeS.eq_2, if_neg (by omega), tl_len, if_pos (by omega)]
          congr 1
          unfold tlS hdS
          simp only [Seg.mk.injEq, and_true, true_and]
          apply UInt32.toNat_inj.1
          simp only [UInt32.toNat_ofNat']; omega
        · rw [if_neg h2, show n - m = 0 by omega, take0]
      · rw [if_neg h1, dropS.eq_2 m, if_neg hm]
        by_cases h2 : m < x.Len.toNat
        · rw [if_pos h2, if_pos h2, takeS.eq_2, if_neg (by omega), tl_len, if_neg (by omega), show n - m - (x.Len.toNat - m) = n - x.Len.toNat by omega]
        · rw [if_neg h2, if_neg h2, drop_take _ _ r hr, show n - x.Len.toNat - (m - x.Len.toNat) = n - m by omega]
end Go.Proofs.Ytlofegfaphijpaa

end

section
namespace Go.Proofs.Ytlofegfaphijpaa
def hasS (l : List Region) (s : Seg) : Bool := (findR l s.At.toNat s.Len.toNat).isSome
def inE (l : List Region) (ss : List Seg) : Int := if errS ss = 0 then (bif ss.all (hasS l) then 0 else 5) else errS ss
theorem segInL (m : gmem_Mem) (hm : memOk m.l m.b) (l : List Seg) (hl : l.length ≤ 64) : ∀ (nf i : Nat), i ≤ l.length → l.length - i < nf → seg_InL1 m l nf (i : Int) = some (bif (l.drop i).all (hasS m.l) then 0 else 5)
  | 0, i, _, h => by omega
  | nf + 1, i, hi, hn => by
    unfold seg_InL1 seg_InL1B
    by_cases h : i < l.length
    · have hd : l.drop i = l[i] :: l.drop (i + 1) := drop_ix h
      rw [bP (by simp only [len]; omega), oS (XK (getq h)), oS (has_eq m hm _ _), hd, List.all_cons, UInt32.toNat_toUInt64]
      have ih := segInL m hm l hl nf (i + 1) (by omega) (by omega)
      cases q : (findR m.l l[i].At.toNat l[i].Len.toNat).isSome with
      | true => rw [bFl (show (!true) = false from rfl), ZH (by omega), ih, show hasS m.l l[i] = true from q, Bool.true_and]
      | false => rw [bT (show (!false) = true from rfl), show hasS m.l l[i] = false from q, Bool.false_and]; rfl
    · rw [bN (by simp only [len]; omega), List.drop_of_length_le (by omega)]; rfl
theorem segIn_eq (m : gmem_Mem) (hm : memOk m.l m.b) (l : List Seg) : seg_In m l = some (inE m.l l) := by
  unfold seg_In
  have h0 : ZV m (0 : UInt64) (0 : Int) = some ([], 0) := by rw [read_eqM m hm _ _ (by omega)]; rfl
  rw [oS h0, nE rfl, oS (segCheck l)]
  unfold inE
  by_cases h : errS l = 0
  · rw [nE h, if_pos h]
    have hl := (errS_zero.1 h).1
    have := segInL m hm l hl fuel 0 (by omega) (by unfold fuel; omega)
    exact this
  · rw [nF h, if_neg h]
end Go.Proofs.Ytlofegfaphijpaa

end

section
namespace Go.Proofs.Ytlofegfaphijpaa
theorem cons_beq {α : Type} [BEq α] {x y : α} {a b : List α} : ((x :: a) == (y :: b)) = (x == y && a == b) := rfl
theorem ksameL (a b : List Seg) (he : a.length = b.length) (hl : a.length ≤ 1000000) : ∀ (nf i : Nat), i ≤ a.length → a.length - i < nf → YG a b nf (i : Int) = some (a.drop i == b.drop i)
  | 0, i, _, h => by omega
  | nf + 1, i, hi, hn => by
    unfold YG Je
    by_cases h : i < a.length
    · have h2 : i < b.length := by omega
      rw [bP (by simp only [len]; omega), oS (XK (getq h)), oS (XK (getq h2)), drop_ix h, drop_ix h2, cons_beq]
      by_cases e : a[i] = b[i]
      · rw [nE e, ZH (by omega), ksameL a b he hl nf (i + 1) (by omega) (by omega), e, beqI, Bool.true_and]
      · rw [nF e, beq_false_of_ne e, Bool.false_and]
    · rw [bN (by simp only [len]; omega), List.drop_of_length_le (by omega), List.drop_of_length_le (by omega)]; rfl
theorem ksame_eq (a b : List Seg) (hl : a.length ≤ 1000000) : Yp a b = some (a == b) := by
  unfold Yp
  by_cases h : a.length = b.length
  · rw [nE (by simp only [len]; omega)]
    have := ksameL a b h hl fuel 0 (by omega) (by unfold fuel; omega)
    exact this
  · rw [nF (by simp only [len]; omega), beq_false_of_ne (fun q => h (by rw [q]))]
end Go.Proofs.Ytlofegfaphijpaa

end

section
namespace Go.Proofs.Ytlofegfaphijpaa
def rg (n : UInt64) : List Region := [⟨0, n⟩]
def rdF (x : List UInt8) (a n : Nat) : List UInt8 := (x.drop a).take n
def Xv (n : UInt64) (x : List UInt8) : Prop := 0 < n.toNat ∧ n.toNat ≤ 1048576 ∧ x.length = n.toNat
theorem rg_good {n : UInt64} (h0 : 0 < n.toNat) (h1 : n.toNat ≤ 1048576) : goodM (rg n) := by
  refine ⟨by simp [rg], ?_, by simp [rg, sumM]; exact h1⟩
  simp only [rg, okA, Bool.and_true, decide_eq_true_eq]
  refine ⟨h0, ?_, Nat.zero_le _⟩
  show (0 : UInt64).toNat + _ ≤ _
  simp only [UInt64.reduceToNat]; omega
theorem flat_mem {n : UInt64} {x : List UInt8} (h : Xv n x) : memOk (rg n) [x] := by
  refine ⟨rg_good h.1 h.2.1, rfl, fun i r y h1 h2 => ?_⟩
  cases i with
  | zero => simp [rg] at h1 h2; subst h1; subst h2; exact h.2.2
  | succ i => simp [rg] at h1
theorem find1 (n : UInt64) (a k : Nat) : findR (rg n) a k = if 0 < k ∧ a + k ≤ n.toNat then some 0 else none := by
  unfold findR
  by_cases h : k = 0
  · rw [if_pos h, if_neg (by omega)]
  · rw [if_neg h]
    simp only [rg, List.findIdx?_cons, List.findIdx?_nil]
    have e : inR a k (⟨0, n⟩ : Region) = decide (a + k ≤ n.toNat) := by
      unfold inR; simp only [UInt64.reduceToNat]
      by_cases q : a + k ≤ n.toNat
      · rw [decide_eq_true q, decide_eq_true (by omega)]
      · rw [decide_eq_false q, decide_eq_false (by omega)]
    rw [e]
    by_cases q : a + k ≤ n.toNat
    · rw [decide_eq_true q, if_pos (show 0 < k ∧ a + k ≤ n.toNat from ⟨by omega, q⟩)]; rfl
    · rw [decide_eq_false q, if_neg (show ¬ (0 < k ∧ a + k ≤ n.toNat) from fun z => q z.2)]; rfl
theorem YQ {n : UInt64} {x : List UInt8} (a k : Nat) : readR (rg n) [x] a k = if 0 < k ∧ a + k ≤ n.toNat then some (rdF x a k) else none := by
  unfold readR
  rw [find1]
  by_cases q : 0 < k ∧ a + k ≤ n.toNat
  · rw [if_pos q, if_pos q]; simp [rg, rdF]
  · rw [if_neg q, if_neg q]
theorem write1 {n : UInt64} {x : List UInt8} (a : Nat) (xs : List UInt8) : writeR (rg n) [x] a xs = if 0 < xs.length ∧ a + xs.length ≤ n.toNat then some [wrF x a xs] else none := by
  unfold writeR
  rw [find1]
  by_cases q : 0 < xs.length ∧ a + xs.length ≤ n.toNat
  · rw [if_pos q, if_pos q]; simp [rg, wrF]
  · rw [if_neg q, if_neg q]
theorem wrF_ok {n : UInt64} {x : List UInt8} {a : Nat} {xs : List UInt8} (h : Xv n x) (q : a + xs.length ≤ n.toNat) : Xv n (wrF x a xs) :=
  ⟨h.1, h.2.1, by rw [wrF_len (by rw [h.2.2]; exact q)]; exact h.2.2⟩
theorem has1 (n : UInt64) (s : Seg) : hasS (rg n) s = decide (0 < s.Len.toNat ∧ s.At.toNat + s.Len.toNat ≤ n.toNat) := by
  unfold hasS; rw [find1]
  by_cases q : 0 < s.Len.toNat ∧ s.At.toNat + s.Len.toNat ≤ n.toNat
  · rw [if_pos q, decide_eq_true q]; rfl
  · rw [if_neg q, decide_eq_false q]; rfl
def inF (n : Nat) (ss : List Seg) : Prop := ∀ s ∈ ss, s.At.toNat + s.Len.toNat ≤ n
instance (n : Nat) (ss : List Seg) : Decidable (inF n ss) := by unfold inF; infer_instance
theorem all_has {n : UInt64} {ss : List Seg} (hp : posS ss) : ss.all (hasS (rg n)) = true ↔ inF n.toNat ss := by
  rw [List.all_eq_true]
  constructor
  · intro h s hs
    have := h s hs
    rw [has1, decide_eq_true_eq] at this; exact this.2
  · intro h s hs
    rw [has1, decide_eq_true_eq]; exact ⟨hp s hs, h s hs⟩
theorem inE1 (n : UInt64) (ss : List Seg) : inE (rg n) ss = if errS ss = 0 then (if inF n.toNat ss then 0 else 5) else errS ss := by
  unfold inE
  by_cases h : errS ss = 0
  · rw [if_pos h, if_pos h]
    have hp := okS_pos (errS_zero.1 h).2.1
    by_cases q : inF n.toNat ss
    · rw [if_pos q, (all_has hp).2 q]; rfl
    · rw [if_neg q]
      cases e : ss.all (hasS (rg n)) with
      | true => exact absurd ((all_has hp).1 e) q
      | false => rfl
  · rw [if_neg h, if_neg h]
theorem rdF_len {x : List UInt8} {a n : Nat} (h : a + n ≤ x.length) : (rdF x a n).length = n := by
  simp only [rdF, List.length_take, List.length_drop]; omega
theorem zer1 (n : UInt64) : zer (rg n) = [List.replicate n.toNat 0] := rfl
def z1 (n : UInt64) : List UInt8 := List.replicate n.toNat 0
theorem z1_ok {n : UInt64} (h0 : 0 < n.toNat) (h1 : n.toNat ≤ 1048576) : Xv n (z1 n) := ⟨h0, h1, by simp [z1]⟩
theorem new1_eq {n : UInt64} (h0 : 0 < n.toNat) (h1 : n.toNat ≤ 1048576) : gmem_New (rg n) = some (some ⟨rg n, [z1 n]⟩, 0) := by
  rw [new_ok (rg_good h0 h1), zer1]; rfl
theorem write1_eq {n : UInt64} {x : List UInt8} (h : Xv n x) (a : UInt64) (xs : List UInt8) (q : a.toNat + xs.length ≤ n.toNat) : Zq ⟨rg n, [x]⟩ a xs = some ((0 : Int), [wrF x a.toNat xs]) := by
  have hn := h.2.1
  rw [write_eqM ⟨rg n, [x]⟩ (flat_mem h) a xs (by omega)]
  by_cases e : xs = []
  · rw [if_pos e, e, wrF_nil]
  · have : 0 < xs.length := List.length_pos_iff.2 e
    rw [if_neg e]
    dsimp only
    rw [write1, if_pos ⟨this, q⟩]
end Go.Proofs.Ytlofegfaphijpaa

end

section
namespace Go.Proofs.Ytlofegfaphijpaa
end Go.Proofs.Ytlofegfaphijpaa

end

section
namespace Go.Proofs.Ytlofegfaphijpaa
theorem rwrite1 {n : UInt64} {x : List UInt8} (h : Xv n x) (a : UInt64) (xs : List UInt8) (q : a.toNat + xs.length ≤ n.toNat) : Yi ⟨rg n, [x]⟩ a xs = some ((0 : Int), [wrF x a.toNat xs]) := by
  have hn := h.2.1
  rw [rwrite_eq ⟨rg n, [x]⟩ (flat_mem h) a xs (by omega)]
  by_cases e : xs = []
  · rw [if_pos e, e, wrF_nil]
  · have : 0 < xs.length := List.length_pos_iff.2 e
    rw [if_neg e]
    dsimp only
    rw [write1, if_pos ⟨this, q⟩]

theorem rnew1 {n : UInt64} (h0 : 0 < n.toNat) (h1 : n.toNat ≤ 1048576) : ref_New02 (rg n) = some (some ⟨rg n, [z1 n]⟩, 0) := by
  rw [rnew_ok (rg_good h0 h1)]; rfl

end Go.Proofs.Ytlofegfaphijpaa

end

section
namespace Go.Proofs.Ytlofegfaphijpaa

def bsD (d : Desc) : List UInt8 := [byt d.Addr 0, byt d.Addr 1, byt d.Addr 2, byt d.Addr 3, byt d.Addr 4, byt d.Addr 5, byt d.Addr 6, byt d.Addr 7, byt d.Len.toUInt64 0, byt d.Len.toUInt64 1, byt d.Len.toUInt64 2, byt d.Len.toUInt64 3, byt d.Flags.toUInt64 0, byt d.Flags.toUInt64 1, byt d.Next.toUInt64 0, byt d.Next.toUInt64 1]
def bsP (d : Packed) : List UInt8 := [byt d.Addr 0, byt d.Addr 1, byt d.Addr 2, byt d.Addr 3, byt d.Addr 4, byt d.Addr 5, byt d.Addr 6, byt d.Addr 7, byt d.Len.toUInt64 0, byt d.Len.toUInt64 1, byt d.Len.toUInt64 2, byt d.Len.toUInt64 3, byt d.ID.toUInt64 0, byt d.ID.toUInt64 1, byt d.Flags.toUInt64 0, byt d.Flags.toUInt64 1]
theorem bytesD (d : Desc) : desc_Bytes d = some (bsD d) := by kernel_rfl
theorem bytesP (d : Packed) : KE d = some (bsP d) := by kernel_rfl
theorem readD (b0 b1 b2 b3 b4 b5 b6 b7 b8 b9 b10 b11 b12 b13 b14 b15 : UInt8) : Ji [b0, b1, b2, b3, b4, b5, b6, b7, b8, b9, b10, b11, b12, b13, b14, b15] =
    some (⟨wrd b0 b1 b2 b3 b4 b5 b6 b7, (wrd b8 b9 b10 b11 0 0 0 0).toUInt32, (wrd b12 b13 0 0 0 0 0 0).toUInt16, (wrd b14 b15 0 0 0 0 0 0).toUInt16⟩, 0) := by
  rw [← or_wrd b0, ← or_wrd4 b8, ← or_wrd2 b12, ← or_wrd2 b14]; kernel_rfl
theorem readP (b0 b1 b2 b3 b4 b5 b6 b7 b8 b9 b10 b11 b12 b13 b14 b15 : UInt8) : Xl [b0, b1, b2, b3, b4, b5, b6, b7, b8, b9, b10, b11, b12, b13, b14, b15] =
    some (⟨wrd b0 b1 b2 b3 b4 b5 b6 b7, (wrd b8 b9 b10 b11 0 0 0 0).toUInt32, (wrd b12 b13 0 0 0 0 0 0).toUInt16, (wrd b14 b15 0 0 0 0 0 0).toUInt16⟩, 0) := by
  rw [← or_wrd b0, ← or_wrd4 b8, ← or_wrd2 b12, ← or_wrd2 b14]; kernel_rfl
theorem read_bytesD (d : Desc) : Ji (bsD d) = some (d, 0) := by
  unfold bsD; rw [readD, wrd_byt, wrd4_byt, wrd2_byt, wrd2_byt]
theorem read_bytesP (d : Packed) : Xl (bsP d) = some (d, 0) := by
  unfold bsP; rw [readP, wrd_byt, wrd4_byt, wrd2_byt, wrd2_byt]
theorem Jn (d : Desc) : (bsD d).length = 16 := rfl

theorem tableL (l : List Desc) : ∀ (nf x : Nat) (b : List UInt8), x ≤ l.length → l.length - x < nf → l.length ≤ 1000000 → b.length = 16 * x → KP l nf b (x : Int) = some (b ++ (l.drop x).flatMap bsD)
  | 0, x, b, _, h, _, _ => by omega
  | nf + 1, x, b, hx, hn, hl, hb => by
    unfold KP desc_TableL1B
    by_cases h : x < l.length
    · have e : decide ((x : Int) < len l) = true := by simp [len]; exact h
      rw [e, br, cond_true, ix_get h, ob_s, bytesD, ob_s, fits_ok (by rw [Jn]; omega), chk_t, ZH (by omega)]
      rw [tableL l nf (x + 1) _ (by omega) (by omega) hl (by rw [List.length_append, Jn]; omega), drop_ix h, List.flatMap_cons, List.append_assoc]
    · have e : decide ((x : Int) < len l) = false := by simp [len]; omega
      have : l.length ≤ x := by omega
      rw [e, br, cond_false, List.drop_of_length_le this]; simp
theorem tableD (l : List Desc) (h : l.length ≤ 1000000) : desc_Table l = some (l.flatMap bsD) := by
  have := tableL l fuel 0 [] (by omega) (by unfold fuel; omega) h rfl
  unfold desc_Table
  simpa using this
/-! words -/
end Go.Proofs.Ytlofegfaphijpaa

end

section
namespace Go.Proofs.Ytlofegfaphijpaa
theorem list16 {α : Type} {b : List α} (h : b.length = 16) : ∃ b0 b1 b2 b3 b4 b5 b6 b7 b8 b9 b10 b11 b12 b13 b14 b15, b = [b0, b1, b2, b3, b4, b5, b6, b7, b8, b9, b10, b11, b12, b13, b14, b15] := by
  match b, h with
  | [b0, b1, b2, b3, b4, b5, b6, b7, b8, b9, b10, b11, b12, b13, b14, b15], _ => exact ⟨b0, b1, b2, b3, b4, b5, b6, b7, b8, b9, b10, b11, b12, b13, b14, b15, rfl⟩
theorem refReadD (b0 b1 b2 b3 b4 b5 b6 b7 b8 b9 b10 b11 b12 b13 b14 b15 : UInt8) : ref_Read03 [b0, b1, b2, b3, b4, b5, b6, b7, b8, b9, b10, b11, b12, b13, b14, b15] =
    some (⟨wrd b0 b1 b2 b3 b4 b5 b6 b7, (wrd b8 b9 b10 b11 0 0 0 0).toUInt32, (wrd b12 b13 0 0 0 0 0 0).toUInt16, (wrd b14 b15 0 0 0 0 0 0).toUInt16⟩, 0) := by
  rw [← horner8 b0, ← horner4 b8, ← horner2 b12, ← horner2 b14]; kernel_rfl
theorem refReadP (b0 b1 b2 b3 b4 b5 b6 b7 b8 b9 b10 b11 b12 b13 b14 b15 : UInt8) : ref_ReadPacked03 [b0, b1, b2, b3, b4, b5, b6, b7, b8, b9, b10, b11, b12, b13, b14, b15] =
    some (⟨wrd b0 b1 b2 b3 b4 b5 b6 b7, (wrd b8 b9 b10 b11 0 0 0 0).toUInt32, (wrd b12 b13 0 0 0 0 0 0).toUInt16, (wrd b14 b15 0 0 0 0 0 0).toUInt16⟩, 0) := by
  rw [← horner8 b0, ← horner4 b8, ← horner2 b12, ← horner2 b14]; kernel_rfl
theorem refBytesD (d : Desc) : XX d = some (bsD d) := by kernel_rfl
theorem refBytesP (d : Packed) : Xc d = some (bsP d) := by kernel_rfl
theorem read16 (b : List UInt8) (h : b.length = 16) : ∃ d, Ji b = some (d, 0) ∧ ref_Read03 b = some (d, 0) := by
  obtain ⟨b0, b1, b2, b3, b4, b5, b6, b7, b8, b9, b10, b11, b12, b13, b14, b15, rfl⟩ := list16 h
  exact ⟨_, readD .., refReadD ..⟩
def dOf (b : List UInt8) : Desc := match Ji b with | some r => r.1 | none => default
theorem dOf_eq {b : List UInt8} (h : b.length = 16) : Ji b = some (dOf b, 0) ∧ ref_Read03 b = some (dOf b, 0) := by
  obtain ⟨d, h1, h2⟩ := read16 b h
  have : dOf b = d := by unfold dOf; rw [h1]
  rw [this]; exact ⟨h1, h2⟩
end Go.Proofs.Ytlofegfaphijpaa

end

section
namespace Go.Proofs.Ytlofegfaphijpaa
theorem cDb {P : Prop} [Decidable P] {ρ : Type} {k : Option ρ} (h : P) : chk (decide P) k = k := by rw [decide_eq_true h]; rfl
def genL {α : Type} (f : Nat → α) : Nat → Nat → List α
  | _, 0 => []
  | i, k + 1 => f i :: genL f (i + 1) k
theorem ZY {α : Type} (f : Nat → α) : ∀ (k i : Nat), (genL f i k).length = k
  | 0, _ => rfl
  | k + 1, i => by simp only [genL, List.length_cons, ZY f k]
theorem Kh {α : Type} (f : Nat → α) : ∀ (k i j : Nat), j < k → (genL f i k)[j]? = some (f (i + j))
  | 0, _, _, h => absurd h (Nat.not_lt_zero _)
  | k + 1, i, 0, _ => rfl
  | k + 1, i, j + 1, h => by
    simp only [genL, List.getElem?_cons_succ]
    rw [Kh f k (i + 1) j (by omega)]
    exact congrArg (fun t => some (f t)) (by omega)
theorem genL_snoc {α : Type} (f : Nat → α) : ∀ (k i : Nat), genL f i (k + 1) = genL f i k ++ [f (i + k)]
  | 0, i => rfl
  | k + 1, i => by
    rw [genL, genL_snoc f k (i + 1), genL, List.cons_append, show i + 1 + k = i + (k + 1) by omega]
theorem ixD {α : Type} {l : List α} {i : Nat} (d : α) (h : i < l.length) : ix l (i : Int) = some (l.getD i d) := by
  rw [XK (getq h)]; simp [h]
def sgS (l : List Seg) (i : Nat) : Seg := l.getD i (Seg.mk 0 0 false)
/-! errors -/
def errB (l : List Seg) : Int := if errS l = 0 then (if l.length = 0 then 2 else 0) else errS l
theorem XL {l : List Seg} : errB l = 0 ↔ goodS l ∧ l ≠ [] := by
  unfold errB
  by_cases h : errS l = 0
  · rw [if_pos h]
    by_cases h0 : l.length = 0
    · rw [if_pos h0]; have := List.eq_nil_of_length_eq_zero h0; simp [this]
    · rw [if_neg h0]; exact ⟨fun _ => ⟨errS_zero.1 h, fun q => h0 (by rw [q]; rfl)⟩, fun _ => rfl⟩
  · rw [if_neg h]; exact ⟨fun q => absurd q h, fun q => absurd (errS_zero.2 q.1) h⟩
theorem wrong1_eq (b : Bool) : Jj b = some (if b = true then 2 else 0) := by cases b <;> rfl
theorem wrong_eq (b : Bool) : Zy b = some (some (if b = true then 2 else 0)) := by unfold Zy; rw [wrong1_eq]
theorem buffer1_eq (l : List Seg) : YH l = some (errB l) := by
  unfold YH errB
  rw [oS (segCheck l)]
  by_cases h : errS l = 0
  · rw [nE h, oS (wrong_eq _), obS, if_pos h]
    by_cases h0 : l.length = 0
    · rw [if_pos h0]; simp [len, h0]
    · rw [if_neg h0, beq_false_of_ne (show len l ≠ 0 by simp only [len]; omega), if_neg (by decide)]
  · rw [nF h, if_neg h]
theorem buffer_eq (l : List Seg) : Yq l = some (some (errB l)) := by unfold Yq; rw [buffer1_eq]
theorem first1_eq (a : Int) : Zs [some a] = some a := by
  have e : Zs [some a] = br (a != 0) (some a) (some 0) := by kernel_rfl
  rw [e]
  by_cases h : a = 0
  · rw [nE h, h]
  · rw [nF h]
theorem first2_eq (a b : Int) : Zs [some a, some b] = some (if a ≠ 0 then a else b) := by
  have e : Zs [some a, some b] = br (a != 0) (some a) (br (b != 0) (some b) (some 0)) := by kernel_rfl
  rw [e]
  by_cases h : a = 0
  · rw [nE h, if_neg (by simp [h])]
    by_cases h2 : b = 0
    · rw [nE h2, h2]
    · rw [nF h2]
  · rw [nF h, if_pos h]
/-! numbers that are apart -/
def idR (x : Int) : Bool := decide (0 ≤ x) && decide (x < 32768)
def apR : List Int → List Int → Bool
  | _, [] => true
  | seen, x :: r => idR x && !seen.contains x && apR (seen ++ [x]) r
theorem isID_eq (x : Int) : build_isID x = some (idR x) := by
  unfold build_isID idR
  by_cases h : 0 ≤ x
  · rw [bP h, decide_eq_true h]; rfl
  · rw [bN h, decide_eq_false h]; rfl
theorem mgpB (q k : Int) : ∀ m : List (Int × Bool), mget false q (mput k true m) = if q = k then true else mget false q m
  | [] => by
    by_cases h : q = k
    · subst h; simp [mput, mget]
    · simp [mput, mget, h]
  | p :: r => by
    unfold mput
    by_cases h : k = p.1
    · rw [show (k == p.1) = true by simp [h]]
      simp only [cond_true, mget]
      by_cases h2 : q = k
      · rw [if_pos h2, h2, beqI]; rfl
      · have h3 : q ≠ p.1 := fun z => h2 (z.trans h.symm)
        rw [if_neg h2, beq_false_of_ne h2, beq_false_of_ne h3]; rfl
    · rw [show (k == p.1) = false by simp [h]]
      simp only [cond_false, mget]
      by_cases h2 : q = p.1
      · have : q ≠ k := fun z => h (z.symm.trans h2)
        simp [h2, this] at *
        simp [Ne.symm h]
      · simp only [beq_false_of_ne h2, cond_false]; exact mgpB q k r
theorem apartL (ids : List Int) (hl : ids.length ≤ 1000) : ∀ (nf i : Nat) (m : List (Int × Bool)), i ≤ ids.length → ids.length - i < nf → (∀ q, mget false q m = (ids.take i).contains q) →
    Kk ids nf m (i : Int) = some (apR (ids.take i) (ids.drop i))
  | 0, i, m, _, h, _ => absurd h (Nat.not_lt_zero _)
  | nf + 1, i, m, hi, hn, hm => by
    unfold Kk build_apartL1B
    by_cases h : i < ids.length
    · rw [bP (by simp only [len]; omega), oS (XK (getq h)), oS (isID_eq _), drop_ix h, apR, hm]
      cases idR ids[i] with
      | false => rw [notF, brT]; rfl
      | true =>
        rw [notT, brF]
        cases hc : (ids.take i).contains ids[i] with
        | true => rw [brT]; rfl
        | false =>
          rw [brF, ZH (by omega)]
          have e : ids.take i ++ [ids[i]] = ids.take (i + 1) := by rw [List.take_succ_eq_append_getElem h]
          have := apartL ids hl nf (i + 1) (mput ids[i] true m) (by omega) (by omega) (fun q => by
            rw [mgpB, ← e, List.contains_append, hm q]
            by_cases z : q = ids[i]
            · rw [if_pos z, z]; simp
            · rw [if_neg z]; simp [z])
          rw [this, e]; rfl
    · rw [bN (by simp only [len]; omega), List.drop_of_length_le (by omega)]; rfl
theorem apart_eq (ids : List Int) (hl : ids.length ≤ 1000) : build_apart ids = some (apR [] ids) := by
  have := apartL ids hl fuel 0 [] (by omega) (by rw [fuelS]; omega) (fun q => by simp [mget])
  unfold build_apart
  simpa using this
/-! descriptors -/
def flgS (w m : Bool) : UInt16 := (if w = true then 2 else 0) ||| (if m = true then 1 else 0)
theorem smade_eq (y : build_split) (s : Seg) (m : Bool) : YC y s m = some ⟨⟨s.At, s.Len, flgS s.Write m, if m = true then u16 y.next else 0⟩, y.next⟩ := by
  unfold YC Xp flgS
  cases s.Write <;> cases m <;> rfl
theorem pmade_eq (y : build_packed) (s : Seg) (m : Bool) : Yj y s m = ob (Kw (flgS s.Write m) y.wrap false) fun f => some ⟨⟨s.At, s.Len, u16 y.id, f⟩, y.id, y.wrap⟩ := by
  unfold Yj Xe Xd flgS
  cases s.Write <;> cases m <;> rfl
theorem schainL (l : List Seg) (of : Int → Option build_split) (y : Nat → build_split) (hl : l.length ≤ 1000) (ho : ∀ i, i < l.length → of (i : Int) = some (y i)) : ∀ (nf i : Nat) (out : List build_split), i ≤ l.length → l.length - i < nf → out.length = i →
    ZJ l of nf out (i : Int) = some (out ++ genL (fun j => ⟨⟨(sgS l j).At, (sgS l j).Len, flgS (sgS l j).Write (decide (j + 1 < l.length)), if j + 1 < l.length then u16 (y j).next else 0⟩, (y j).next⟩) i (l.length - i))
  | 0, i, out, _, h, _ => absurd h (Nat.not_lt_zero _)
  | nf + 1, i, out, hi, hn, hlo => by
    unfold ZJ Xi
    by_cases h : i < l.length
    · have hw : decide (wi ((i : Int) + 1) < len l) = decide (i + 1 < l.length) := by
        rw [ZH (by omega)]; simp only [len]; exact decide_eq_decide.2 (by omega)
      rw [bP (by simp only [len]; omega), oS (ixD (Seg.mk 0 0 false) h), oS (ho i h), hw, oS (smade_eq _ _ _), cFits (by simp; omega), ZH (by omega)]
      rw [schainL l of y hl ho nf (i + 1) _ (by omega) (by omega) (by simp [hlo]), show l.length - i = (l.length - (i + 1)) + 1 by omega, genL, List.append_assoc]
      simp only [List.singleton_append, decide_eq_true_eq]
      rfl
    · rw [bN (by simp only [len]; omega), show l.length - i = 0 by omega]; simp [genL]
theorem schain_eq (l : List Seg) (of : Int → Option build_split) (y : Nat → build_split) (hl : l.length ≤ 1000) (ho : ∀ i, i < l.length → of (i : Int) = some (y i)) :
    Zn l of = some (genL (fun j => ⟨⟨(sgS l j).At, (sgS l j).Len, flgS (sgS l j).Write (decide (j + 1 < l.length)), if j + 1 < l.length then u16 (y j).next else 0⟩, (y j).next⟩) 0 l.length) := by
  unfold Zn
  rw [cDb (by simp only [len]; omega)]
  have := schainL l of y hl ho fuel 0 [] (by omega) (by rw [fuelS]; omega) rfl
  exact this
theorem schain_ex (l : List Seg) (of : Int → Option build_split) (y : Nat → build_split) (hl : l.length ≤ 1000) (ho : ∀ i, i < l.length → of (i : Int) = some (y i)) :
    ∃ C, Zn l of = some C ∧ C.length = l.length ∧ ∀ i (h : i < C.length), C[i].Desc = ⟨(sgS l i).At, (sgS l i).Len, flgS (sgS l i).Write (decide (i + 1 < l.length)), if i + 1 < l.length then u16 (y i).next else 0⟩ := by
  refine ⟨_, schain_eq l of y hl ho, ZY .., fun i h => ?_⟩
  rw [ZY] at h
  have hg := Kh (fun j => build_split.mk ⟨(sgS l j).At, (sgS l j).Len, flgS (sgS l j).Write (decide (j + 1 < l.length)), if j + 1 < l.length then u16 (y j).next else 0⟩ (y j).next) l.length 0 i h
  obtain ⟨hz, hz2⟩ := List.getElem?_eq_some_iff.1 hg
  rw [hz2, Nat.zero_add]
def dS (ids : List Int) (l : List Seg) (i : Nat) : Desc := ⟨(sgS l i).At, (sgS l i).Len, flgS (sgS l i).Write (decide (i + 1 < l.length)), if i + 1 < l.length then u16 (ids.getD (i + 1) 0) else 0⟩
def putS (ids : List Int) (l : List Seg) (i : Nat) : Put := ⟨ids.getD i 0, dS ids l i⟩
def splitF (ids : List Int) (l : List Seg) : List Put × Int := if errB l ≠ 0 then ([], errB l) else if ids.length ≠ l.length ∨ apR [] ids = false then ([], 2) else (genL (putS ids l) 0 l.length, 0)
theorem splitL (ids : List Int) (C : List build_split) (f : Nat → Put) (hl : C.length ≤ 1000) (hi : ids.length = C.length) (hf : ∀ i (h : i < C.length), f i = Put.mk (ids.getD i 0) C[i].Desc) : ∀ (nf i : Nat) (out : List Put), i ≤ C.length → C.length - i < nf → out.length = i →
    Xz ids C nf out C (i : Int) = some (out ++ genL f i (C.length - i), 0)
  | 0, i, out, _, h, _ => absurd h (Nat.not_lt_zero _)
  | nf + 1, i, out, hi', hn, hlo => by
    unfold Xz Ky
    by_cases h : i < C.length
    · rw [bP (by simp only [len]; omega), oS (XK (getq h)), oS (ixD 0 (by omega)), cFits (by simp; omega), ZH (by omega)]
      rw [splitL ids C f hl hi hf nf (i + 1) _ (by omega) (by omega) (by simp [hlo]), show C.length - i = (C.length - (i + 1)) + 1 by omega, genL, List.append_assoc, hf i h]
      rfl
    · rw [bN (by simp only [len]; omega), show C.length - i = 0 by omega]; simp [genL]
theorem splitL2_eq (ids : List Int) (C : List build_split) : ∀ nf : Nat, Kl ids C nf = Xz ids C nf
  | 0 => rfl
  | nf + 1 => by
    funext out l x
    show build_SplitL2B ids C (Kl ids C nf) out l x = Ky ids C (Xz ids C nf) out l x
    rw [splitL2_eq ids C nf]; rfl
theorem split_eqB (ids : List Int) (l : List Seg) (h1 : ids.length ≤ 1000) : build_Split ids l = some (splitF ids l) := by
  unfold build_Split splitF
  rw [oS (buffer_eq l)]
  have hmain : errB l = 0 → ids.length = l.length → (ob (Zn l (fun x => Xy x ids)) fun split1 => Xz ids split1 fuel [] split1 (0 : Int)) = some (genL (putS ids l) 0 l.length, 0) := by
    intro he hle
    have hg := (XL.1 he).1
    have h64 := hg.1
    obtain ⟨C, hc, hCl, hCi⟩ := schain_ex l (fun x => Xy x ids) (fun i => build_split.mk (Desc.mk 0 0 0 0) (if i + 1 < l.length then ids.getD (i + 1) 0 else 0)) (by omega) (fun i hi => by
      unfold Xy
      rw [ZH (by omega)]
      by_cases h : i + 1 < l.length
      · rw [bP (by simp only [len]; omega), oS (ixD 0 (by omega)), if_pos h]
      · rw [bN (by simp only [len]; omega), if_neg h])
    rw [oS hc]
    have hL := splitL ids C (putS ids l) (by omega) (by omega) (fun i h => by
      rw [hCi i h]
      unfold putS dS
      by_cases h3 : i + 1 < l.length
      · simp only [h3, if_true]
      · simp only [h3, if_false]) fuel 0 [] (by omega) (by rw [fuelS]; omega) rfl
    rw [show C.length - 0 = l.length by omega] at hL
    exact hL
  by_cases hle : ids.length = l.length
  · rw [nE (by simp only [len]; omega), oS (apart_eq ids h1), oS (wrong_eq _), oS (first2_eq _ _)]
    by_cases he : errB l = 0
    · simp only [he, ne_eq, not_true_eq_false, if_false]
      cases ha : apR [] ids with
      | false => rw [if_pos (Or.inr rfl), notF, if_pos rfl]; rfl
      | true =>
        rw [if_neg (show ¬ (¬ ids.length = l.length ∨ true = false) by simp [hle]), notT, if_neg (by decide), nE rfl]
        simp only [splitL2_eq]
        exact hmain he hle
    · rw [if_pos he, if_pos he, nF he]
  · rw [nF (by simp only [len]; omega), oS (wrong_eq _), oS (first2_eq _ _)]
    by_cases he : errB l = 0
    · simp only [he, ne_eq, not_true_eq_false, if_false]
      rw [if_pos (Or.inl hle), if_pos trivial]; rfl
    · rw [if_pos he, if_pos he, nF he]
/-! the document's -/
end Go.Proofs.Ytlofegfaphijpaa

end

section
namespace Go.Proofs.Ytlofegfaphijpaa
/-! few different numbers -/
theorem few : ∀ (s : Nat) (l : List Int), l.Nodup → (∀ x ∈ l, 0 ≤ x ∧ x < (s : Int)) → l.length ≤ s
  | 0, l, _, h => by
    cases l with
    | nil => exact Nat.le_refl _
    | cons x l => have := h x (List.mem_cons_self ..); omega
  | s + 1, l, hn, h => by
    by_cases hm : (s : Int) ∈ l
    · have h1 := few s (l.erase (s : Int)) (hn.erase _) (fun x hx => by
        have hx2 := (hn.mem_erase_iff).1 hx
        have := h x hx2.2
        have hne : x ≠ (s : Int) := hx2.1
        omega)
      have h2 := List.length_erase_of_mem hm
      have h3 : 0 < l.length := List.length_pos_of_mem hm
      omega
    · have := few s l hn (fun x hx => by
        have := h x hx
        have hne : x ≠ (s : Int) := fun q => hm (q ▸ hx)
        omega)
      omega
/-! one descriptor -/
def mkS (d : Desc) : Seg := ⟨d.Addr, d.Len, d.Flags &&& 2 != 0⟩
def plK (a : UInt64) (k : Int) : Nat := (a + 16 * u64 k).toNat
def dAt (x : List UInt8) (a : Nat) : Desc := dOf (rdF x a 16)
theorem rdF_len16 {x : List UInt8} {a : Nat} (h : a + 16 ≤ x.length) : (rdF x a 16).length = 16 := rdF_len h
theorem mread {N : UInt64} {x : List UInt8} (hx : Xv N x) (a : UInt64) : ZV ⟨rg N, [x]⟩ a 16 = some (if a.toNat + 16 ≤ N.toNat then (rdF x a.toNat 16, 0) else ([], 5)) := by
  rw [read_eqM ⟨rg N, [x]⟩ (flat_mem hx) a 16 (by omega), if_neg (by omega), if_neg (by omega)]
  dsimp only
  rw [show (16 : Int).toNat = 16 from rfl, YQ]
  by_cases h : a.toNat + 16 ≤ N.toNat
  · rw [if_pos ⟨by omega, h⟩, if_pos h]
  · rw [if_neg (fun q => h q.2), if_neg h]
def chF (N : Nat) (x : List UInt8) (a : UInt64) (size : Int) (tb : Desc → Nat → List Seg → Int × Nat × List Seg) : Nat → Int → List Int → Nat → List Seg → Int × Nat × List Seg
  | 0, _, _, n, l => (4, n, l)
  | f + 1, k, seen, n, l =>
    if seen.contains k = true ∨ k < 0 ∨ k ≥ size then (4, n, l)
    else if ¬ plK a k + 16 ≤ N then (5, n, l)
    else if (dAt x (plK a k)).Flags &&& 4 ≠ 0 then tb (dAt x (plK a k)) (n + 1) l
    else if (dAt x (plK a k)).Flags &&& 1 = 0 then (0, n + 1, l ++ [mkS (dAt x (plK a k))])
    else chF N x a size tb f (i16 (dAt x (plK a k)).Next) (seen ++ [k]) (n + 1) (l ++ [mkS (dAt x (plK a k))])
def noT : Desc → Nat → List Seg → Int × Nat × List Seg := fun _ n l => (4, n, l)
def entE (N : Nat) (a : UInt64) (n : UInt32) : Int := if n = 0 ∨ n % 16 ≠ 0 ∨ n / 16 > 64 then 4 else if a.toNat + n.toNat ≤ N then 0 else 5
def tabT (N : Nat) (x : List UInt8) (table : Bool) : Desc → Nat → List Seg → Int × Nat × List Seg := fun d n l =>
  if table = false ∨ d.Flags &&& 1 ≠ 0 then (4, n, l)
  else if entE N d.Addr d.Len ≠ 0 then (entE N d.Addr d.Len, n, l)
  else chF N x d.Addr (i32 (d.Len / 16)) noT (d.Len / 16).toNat.succ 0 [] n l
def seenOk (size : Int) (seen : List Int) : Prop := seen.Nodup ∧ ∀ x ∈ seen, 0 ≤ x ∧ x < size
theorem seen_snoc {size : Int} {seen : List Int} {k : Int} (h : seenOk size seen) (hc : seen.contains k = false) (h1 : ¬ k < 0) (h2 : ¬ k ≥ size) : seenOk size (seen ++ [k]) := by
  refine ⟨?_, fun x hx => ?_⟩
  · rw [List.nodup_append]
    refine ⟨h.1, by simp, fun a ha b hb => ?_⟩
    rw [List.mem_singleton] at hb
    subst hb
    intro q; subst q
    have : seen.contains a = true := by simpa using ha
    rw [this] at hc; cases hc
  · rcases List.mem_append.1 hx with q | q
    · exact h.2 x q
    · rw [List.mem_singleton] at q; subst q; omega
theorem seen_le {size : Nat} {seen : List Int} (h : seenOk (size : Int) seen) : seen.length ≤ size := few size seen h.1 h.2
/-! the program's, in a table -/
theorem walkI {N : UInt64} {x : List UInt8} (hx : Xv N x) (a : UInt64) (size : Nat) (hs : size ≤ 32768) (m3 : Bool) : ∀ (nf f : Nat) (k : Int) (seen : List Int) (n : Nat) (l : List Seg) (map : List (Int × Bool)), f < nf → seen.length + f = size + 1 → seenOk (size : Int) seen → (∀ q, mget false q map = seen.contains q) → n + f ≤ 100000 → l.length + f ≤ 100000 →
    XF a (size : Int) ⟨rg N, [x]⟩ nf k 0 (n : Int) m3 l map = some ((chF N.toNat x a (size : Int) noT f k seen n l).1, (((chF N.toNat x a (size : Int) noT f k seen n l).2.1 : Nat) : Int), m3, (chF N.toNat x a (size : Int) noT f k seen n l).2.2)
  | 0, f, k, seen, n, l, map, h, _, _, _, _, _ => absurd h (Nat.not_lt_zero _)
  | nf + 1, 0, k, seen, n, l, map, _, h, hk, _, _, _ => by have := seen_le hk; omega
  | nf + 1, f + 1, k, seen, n, l, map, hf, hsl, hk, hm, hn, hl => by
    unfold XF YM chF
    rw [hm k]
    cases hc : seen.contains k with
    | true => rw [brT, if_pos (Or.inl rfl)]
    | false =>
      rw [brF]
      by_cases h1 : k < 0
      · rw [bP h1, if_pos (Or.inr (Or.inl h1))]
      · rw [bN h1]
        by_cases h2 : k ≥ (size : Int)
        · rw [bP h2, if_pos (Or.inr (Or.inr h2))]
        · have hno : ¬ (false = true ∨ k < 0 ∨ k ≥ (size : Int)) := by rintro (q | q | q) <;> first | cases q | omega
          rw [bN h2, if_neg hno, oS (mread hx _)]
          unfold plK
          by_cases h3 : (a + 16 * u64 k).toNat + 16 ≤ N.toNat
          · have hd := dOf_eq (rdF_len16 (x := x) (a := (a + 16 * u64 k).toNat) (by rw [hx.2.2]; exact h3))
            rw [if_pos h3, if_neg (by simpa using h3), nE rfl, oS hd.1]
            dsimp only
            unfold dAt
            generalize dOf (rdF x (a + 16 * u64 k).toNat 16) = d at *
            by_cases h4 : d.Flags &&& 4 = 0
            · rw [nE h4, if_neg (by simp [h4]), oS (show Kr d.Addr d.Len d.Flags = some (mkS d) from rfl), cFits (by simp; omega), ZH (by omega)]
              by_cases h5 : d.Flags &&& 1 = 0
              · rw [bE h5, if_pos h5]
              · rw [bF h5, if_neg h5]
                exact walkI hx a size hs m3 nf f (i16 d.Next) (seen ++ [k]) (n + 1) (l ++ [mkS d]) (mput k true map) (by omega) (by rw [List.length_append, List.length_singleton]; omega) (seen_snoc hk hc h1 h2) (fun q => by
                  rw [mgpB, List.contains_append, hm q]
                  by_cases z : q = k
                  · rw [if_pos z, z]; simp
                  · rw [if_neg z]; simp [z]) (by omega) (by rw [List.length_append, List.length_singleton]; omega)
            · rw [nF h4, if_pos h4, ZH (by omega)]; rfl
          · rw [if_neg h3, if_pos (by simpa using h3), nF (by decide)]
theorem div16 (n : UInt32) (h : ¬ n / 16 > 64) : (n / 16).toNat ≤ 64 := by
  have : ¬ (64 : UInt32) < n / 16 := h
  rw [UInt32.lt_iff_toNat_lt] at this
  simp only [UInt32.reduceToNat] at this; omega
theorem ent_eq {N : UInt64} {x : List UInt8} (hx : Xv N x) (a : UInt64) (n : UInt32) : KJ ⟨rg N, [x]⟩ a n = some (if entE N.toNat a n = 0 then (i32 (n / 16), 0) else (0, entE N.toNat a n)) := by
  unfold KJ entE
  by_cases h1 : n = 0
  · rw [bE h1, if_pos (Or.inl h1), if_neg (by decide)]
  · rw [bF h1]
    by_cases h2 : n % 16 = 0
    · rw [nE h2]
      by_cases h3 : n / 16 > 64
      · rw [bP h3, if_pos (Or.inr (Or.inr h3)), if_neg (by decide)]
      · have hno : ¬ (n = 0 ∨ n % 16 ≠ 0 ∨ n / 16 > 64) := by
          rintro (q | q | q)
          · exact h1 q
          · exact q h2
          · exact h3 q
        have hpos : 0 < n.toNat := by
          rcases Nat.eq_zero_or_pos n.toNat with q | q
          · exact absurd (UInt32.toNat_inj.1 (by simpa using q)) h1
          · exact q
        rw [bN h3, oS (has_eq _ (flat_mem hx) _ _), find1, UInt32.toNat_toUInt64, if_neg hno]
        by_cases h4 : a.toNat + n.toNat ≤ N.toNat
        · rw [if_pos ⟨hpos, h4⟩, if_pos h4, if_pos rfl]; rfl
        · rw [if_neg (fun q => h4 q.2), if_neg h4, if_neg (by decide)]; rfl
    · rw [nF h2, if_pos (Or.inr (Or.inl h2)), if_neg (by decide)]
theorem ent_le {N : Nat} {a : UInt64} {n : UInt32} (h : entE N a n = 0) : (n / 16).toNat ≤ 64 := by
  unfold entE at h
  by_cases q : n = 0 ∨ n % 16 ≠ 0 ∨ n / 16 > 64
  · rw [if_pos q] at h; cases h
  · exact div16 n (fun z => q (Or.inr (Or.inr z)))
/-! the program's, in the ring -/
theorem walkO {N : UInt64} {x : List UInt8} (hx : Xv N x) (a : UInt64) (size : Nat) (hs : size ≤ 32768) (m3 : Bool) : ∀ (nf f : Nat) (k : Int) (seen : List Int) (n : Nat) (l : List Seg) (map : List (Int × Bool)), f < nf → seen.length + f = size + 1 → seenOk (size : Int) seen → (∀ q, mget false q map = seen.contains q) → n + f ≤ 90000 → l.length + f ≤ 90000 →
    XG a (size : Int) ⟨rg N, [x]⟩ nf k 0 (n : Int) m3 l map = some ((chF N.toNat x a (size : Int) (tabT N.toNat x m3) f k seen n l).1, (((chF N.toNat x a (size : Int) (tabT N.toNat x m3) f k seen n l).2.1 : Nat) : Int), m3, (chF N.toNat x a (size : Int) (tabT N.toNat x m3) f k seen n l).2.2)
  | 0, f, k, seen, n, l, map, h, _, _, _, _, _ => absurd h (Nat.not_lt_zero _)
  | nf + 1, 0, k, seen, n, l, map, _, h, hk, _, _, _ => by have := seen_le hk; omega
  | nf + 1, f + 1, k, seen, n, l, map, hf, hsl, hk, hm, hn, hl => by
    unfold XG YN chF
    rw [hm k]
    cases hc : seen.contains k with
    | true => rw [brT, if_pos (Or.inl rfl)]
    | false =>
      rw [brF]
      by_cases h1 : k < 0
      · rw [bP h1, if_pos (Or.inr (Or.inl h1))]
      · rw [bN h1]
        by_cases h2 : k ≥ (size : Int)
        · rw [bP h2, if_pos (Or.inr (Or.inr h2))]
        · have hno : ¬ (false = true ∨ k < 0 ∨ k ≥ (size : Int)) := by rintro (q | q | q) <;> first | cases q | omega
          rw [bN h2, if_neg hno, oS (mread hx _)]
          unfold plK
          by_cases h3 : (a + 16 * u64 k).toNat + 16 ≤ N.toNat
          · have hd := dOf_eq (rdF_len16 (x := x) (a := (a + 16 * u64 k).toNat) (by rw [hx.2.2]; exact h3))
            rw [if_pos h3, if_neg (by simpa using h3), nE rfl, oS hd.1]
            dsimp only
            unfold dAt
            generalize dOf (rdF x (a + 16 * u64 k).toNat 16) = d at *
            by_cases h4 : d.Flags &&& 4 = 0
            · rw [nE h4, if_neg (by simp [h4]), oS (show Kr d.Addr d.Len d.Flags = some (mkS d) from rfl), cFits (by simp; omega), ZH (by omega)]
              by_cases h5 : d.Flags &&& 1 = 0
              · rw [bE h5, if_pos h5]
              · rw [bF h5, if_neg h5]
                exact walkO hx a size hs m3 nf f (i16 d.Next) (seen ++ [k]) (n + 1) (l ++ [mkS d]) (mput k true map) (by omega) (by rw [List.length_append, List.length_singleton]; omega) (seen_snoc hk hc h1 h2) (fun q => by
                  rw [mgpB, List.contains_append, hm q]
                  by_cases z : q = k
                  · rw [if_pos z, z]; simp
                  · rw [if_neg z]; simp [z]) (by omega) (by rw [List.length_append, List.length_singleton]; omega)
            · rw [nF h4, if_pos h4, ZH (by omega)]
              unfold tabT XH
              cases m3 with
              | false => rw [notF, brT, if_pos (Or.inl rfl)]
              | true =>
                rw [notT, brF]
                by_cases h5 : d.Flags &&& 1 = 0
                · have hno2 : ¬ (true = false ∨ d.Flags &&& 1 ≠ 0) := by
                    rintro (q | q)
                    · cases q
                    · exact q h5
                  rw [nE h5, if_neg hno2, oS (ent_eq hx _ _)]
                  by_cases h6 : entE N.toNat d.Addr d.Len = 0
                  · have h64 := ent_le h6
                    have hi := walkI hx d.Addr (d.Len / 16).toNat (by omega) true fuel (d.Len / 16).toNat.succ 0 [] (n + 1) l [] (by rw [fuelS]; omega) (by simp) ⟨List.nodup_nil, fun x hx => by cases hx⟩ (fun q => by simp [mget]) (by omega) (by omega)
                    rw [if_pos h6, if_neg (by simp [h6]), bE rfl]
                    unfold KS
                    exact oS hi
                  · rw [if_neg h6, if_pos h6, bF h6]
                · rw [nF h5, if_pos (Or.inr h5)]
          · rw [if_neg h3, if_pos (by simpa using h3), nF (by decide)]
def splW (N : Nat) (x : List UInt8) (r : Rings) (head : Int) (table : Bool) : Int × Nat × List Seg := chF N x r.Desc r.Size (tabT N x table) (r.Size.toNat + 1) head [] 0 []
theorem wsplit_eq {N : UInt64} {x : List UInt8} (hx : Xv N x) (r : Rings) (head : Int) (table : Bool) (h1 : 0 ≤ r.Size) (h2 : r.Size ≤ 32768) : walk_split ⟨rg N, [x]⟩ r head table = some ((splW N.toNat x r head table).2.2, (((splW N.toNat x r head table).2.1 : Nat) : Int), (splW N.toNat x r head table).1) := by
  obtain ⟨s, hs⟩ : ∃ s : Nat, r.Size = (s : Int) := ⟨r.Size.toNat, by omega⟩
  have := walkO hx r.Desc s (by omega) table fuel (s + 1) head [] 0 [] [] (by rw [fuelS]; omega) (by simp) ⟨List.nodup_nil, fun x hx => by cases hx⟩ (fun q => by simp [mget]) (by omega) (by simp; omega)
  unfold walk_split KT splW
  rw [hs, Int.toNat_natCast]
  rw [show ((0 : Nat) : Int) = 0 from rfl] at this
  rw [oS this]
end Go.Proofs.Ytlofegfaphijpaa

end

section
namespace Go.Proofs.Ytlofegfaphijpaa
theorem lives10 : law10zlives = some true := by decide +kernel
/-! the ring that is laid -/
def Kt (r : Rings) (p : Bool) (n : Int) : Prop := r.Packed = p ∧ r.Size = n ∧ r.Desc = 0 ∧ layout_Check r = some 0 ∧ ref_Check04 r = some 0
instance (r : Rings) (p : Bool) (n : Int) : Decidable (Kt r p n) := by unfold Kt; infer_instance
def laidOk (p : Bool) (n : Int) : Bool := match KH p n 0 with
  | some (r, _, e) => decide (Kt r p n) && e == 0
  | none => false
theorem laid_packed : ∀ n : Nat, n < 129 → 1 ≤ n → laidOk true (n : Int) = true := by decide +kernel
theorem laid_split : ∀ k : Nat, k < 8 → laidOk false ((2 ^ k : Nat) : Int) = true := by decide +kernel
theorem laid_ring {p : Bool} {n : Int} (h : laidOk p n = true) : ∃ r u, KH p n 0 = some (r, u, 0) ∧ Kt r p n := by
  unfold laidOk at h
  cases e : KH p n 0 with
  | none => rw [e] at h; cases h
  | some q =>
    obtain ⟨r, u, z⟩ := q
    rw [e] at h
    simp only [Bool.and_eq_true, decide_eq_true_eq, beq_iff_eq] at h
    exact ⟨r, u, by rw [h.2], h.1⟩
theorem laidL (p : Bool) (l : List dumbwaiterlaw10_Spot) (hl : l.length ≤ 1000) (m2 : Rings) : ∀ (nf i : Nat) (m1 : Rings) (x : List UInt8), Xv 12000 x → i ≤ l.length → l.length - i < nf → ∃ y, Xv 12000 y ∧
    XT p l ⟨rg 12000, [z1 12000]⟩ ⟨rg 12000, [z1 12000]⟩ nf m1 m2 [x] [x] (i : Int) = some (some ⟨rg 12000, [y]⟩, some ⟨rg 12000, [y]⟩, m2, true)
  | 0, i, _, _, _, _, h => absurd h (Nat.not_lt_zero _)
  | nf + 1, i, m1, x, hx, hi, hn => by
    unfold XT law10zlaidL1B
    by_cases h : i < l.length
    · have step : ∀ b : List UInt8, b.length = 16 → ∃ y, Xv 12000 y ∧ YV l ⟨rg 12000, [z1 12000]⟩ ⟨rg 12000, [z1 12000]⟩ m1 m2 [x] [x] (i : Int) (XT p l ⟨rg 12000, [z1 12000]⟩ ⟨rg 12000, [z1 12000]⟩ nf) b = some (some ⟨rg 12000, [y]⟩, some ⟨rg 12000, [y]⟩, m2, true) := by
        intro b hb
        unfold YV
        obtain ⟨k, hk, hk2⟩ := pick_eq l[i].At 750 (by omega) (by omega)
        have ha : (u64 (wi (16 * (k : Int)))).toNat = 16 * k := by
          rw [wi_in (by omega) (by omega)]
          simp only [u64, UInt64.toNat_ofNat']
          omega
        have hle : (u64 (wi (16 * (k : Int)))).toNat + b.length ≤ (12000 : UInt64).toNat := by
          rw [ha, hb]; simp only [UInt64.reduceToNat]; omega
        rw [oS (ix_get h), oS (show KB l[i].At 750 = some (k : Int) from hk), oS (write1_eq hx _ _ hle), oS (rwrite1 hx _ _ hle), ZH (by omega)]
        exact laidL p l hl m2 nf (i + 1) m1 _ (wrF_ok hx hle) (by omega) (by omega)
      rw [bP (by simp only [len]; omega), oS (ix_get h), oS (refBytesD _)]
      cases p with
      | false => rw [brF]; exact step _ rfl
      | true => rw [brT, oS (ix_get h), oS (refBytesP _)]; exact step _ rfl
    · rw [bN (by simp only [len]; omega)]
      exact ⟨x, hx, rfl⟩
theorem laid_eq {p : Bool} {n : Int} (h : laidOk p n = true) (l : List dumbwaiterlaw10_Spot) (hl : l.length ≤ 1000) : ∃ r x, Kt r p n ∧ Xv 12000 x ∧ KM n p l = some (some ⟨rg 12000, [x]⟩, some ⟨rg 12000, [x]⟩, r, true) := by
  obtain ⟨r, u, h1, h2⟩ := laid_ring h
  have h12 : (12000 : UInt64).toNat = 12000 := rfl
  obtain ⟨y, hy, hz⟩ := laidL p l hl r fuel 0 (Rings.mk false 0 0 0 0) (z1 12000) (z1_ok (by omega) (by omega)) (by omega) (by rw [fuelS]; omega)
  refine ⟨r, y, h2, hy, ?_⟩
  unfold KM
  rw [oS h1, oS (show gmem_New [Region.mk 0 12000] = some (some ⟨rg 12000, [z1 12000]⟩, 0) from new1_eq (by omega) (by omega))]
  dsimp only [onO]
  rw [oS (show ref_New02 [Region.mk 0 12000] = some (some ⟨rg 12000, [z1 12000]⟩, 0) from rnew1 (by omega) (by omega))]
  dsimp only [onO]
  rw [nE rfl, nE rfl, nE rfl]
  exact hz
/-! what is refused -/
theorem wrefuse {N : UInt64} {x : List UInt8} (hx : Xv N x) {r : Rings} {p : Bool} {n : Int} (h : Kt r p n) : KF ⟨rg N, [x]⟩ r p = some 0 := by
  unfold KF
  rw [oS (read_eqM ⟨rg N, [x]⟩ (flat_mem hx) 0 0 (by omega)), if_neg (by omega), if_pos rfl, nE rfl, oS h.2.2.2.1, nE rfl, h.1, bneI, brF]
/-! what is taken -/
def lookF (N : Nat) (l : List Seg) : List Seg × Int := if l = [] ∨ errS l ≠ 0 then ([], 4) else if inF N l then (l, 0) else ([], 5)
theorem look_eq {N : UInt64} {x : List UInt8} (hx : Xv N x) (l : List Seg) : walk_looked ⟨rg N, [x]⟩ l = some (lookF N.toNat l) := by
  unfold walk_looked lookF
  by_cases h1 : l = []
  · subst h1; rw [bE (show len ([] : List Seg) = 0 from rfl), if_pos (Or.inl rfl)]
  · have h0 : ¬ len l = 0 := by
      simp only [len]
      have := List.length_pos_iff.2 h1; omega
    rw [bF h0, oS (segCheck l)]
    by_cases h2 : errS l = 0
    · have hno : ¬ (l = [] ∨ errS l ≠ 0) := by
        rintro (q | q)
        · exact h1 q
        · exact q h2
      rw [nE h2, oS (segIn_eq _ (flat_mem hx) l), inE1, if_pos h2, if_neg hno]
      by_cases h3 : inF N.toNat l
      · rw [if_pos h3, if_pos h3, nE rfl]
      · rw [if_neg h3, if_neg h3, nF (by decide)]
    · rw [nF h2, if_pos (Or.inr h2)]
def splR (N : Nat) (x : List UInt8) (r : Rings) (head : Int) (t : Bool) : List Seg × Int := if (splW N x r head t).1 ≠ 0 then ([], (splW N x r head t).1) else lookF N (splW N x r head t).2.2
theorem wSplit_eq {N : UInt64} {x : List UInt8} (hx : Xv N x) {r : Rings} {n : Int} (h : Kt r false n) (h1 : 0 ≤ n) (h2 : n ≤ 32768) (head : Int) (t : Bool) : Yf ⟨rg N, [x]⟩ r head t = some (splR N.toNat x r head t) := by
  unfold Yf splR
  rw [oS (wrefuse hx h), nE rfl, oS (wsplit_eq hx r head t (by rw [h.2.1]; exact h1) (by rw [h.2.1]; exact h2))]
  generalize splW N.toNat x r head t = w
  dsimp only
  by_cases q : w.1 = 0
  · rw [nE q, oS (look_eq hx _), if_neg (by simpa using q)]
  · rw [nF q, if_pos q]
theorem wReads_eq {N : UInt64} {x : List UInt8} (hx : Xv N x) {r : Rings} {n : Int} (h : Kt r false n) (h1 : 0 ≤ n) (h2 : n ≤ 32768) (head : Int) (t : Bool) : walk_Reads ⟨rg N, [x]⟩ r head t = some (((splW N.toNat x r head t).2.1 : Nat) : Int) := by
  unfold walk_Reads
  rw [oS (wrefuse hx h), nE rfl, oS (wsplit_eq hx r head t (by rw [h.2.1]; exact h1) (by rw [h.2.1]; exact h2))]
end Go.Proofs.Ytlofegfaphijpaa

end

section
namespace Go.Proofs.Ytlofegfaphijpaa
end Go.Proofs.Ytlofegfaphijpaa

end

section
namespace Go.Proofs.Ytlofegfaphijpaa
def mkd (f : UInt16) (w u : Bool) : UInt16 := (f &&& 32639) ||| (if w then 128 else 0) ||| (if w == u then 32768 else 0)
theorem mark_eq (f : UInt16) (w u : Bool) : Kw f w u = some (mkd f w u) := by
  have e : f &&& ~~~32896 = f &&& 32639 := rfl
  cases w <;> cases u <;> simp [Kw, desc_MarkJ1, br, mkd, e]
end Go.Proofs.Ytlofegfaphijpaa

end

section
namespace Go.Proofs.Ytlofegfaphijpaa
/-! positions -/
def szOk (n : Int) : Prop := 1 ≤ n ∧ n ≤ 32768
def posOk (p : Pos) (n : Int) : Prop := szOk n ∧ 0 ≤ p.At ∧ p.At < n
instance (n : Int) : Decidable (szOk n) := by unfold szOk; exact inferInstance
instance (p : Pos) (n : Int) : Decidable (posOk p n) := by unfold posOk; exact inferInstance
theorem isSize_eq (n : Int) : Kc n = some (decide (szOk n)) := by
  unfold Kc szOk
  by_cases h : n ≥ 1
  · rw [bP h]; exact congrArg some (decide_eq_decide.2 ⟨fun q => ⟨h, q⟩, fun q => q.2⟩)
  · rw [bN h]; exact congrArg some (decide_eq_false (fun q => h q.1)).symm
theorem pcheck_eq (p : Pos) (n : Int) : Yo p n = some (if posOk p n then 0 else 2) := by
  unfold Yo
  rw [oS (isSize_eq n)]
  by_cases h1 : szOk n
  · rw [decide_eq_true h1, notT, brF]
    by_cases h2 : p.At < 0
    · rw [bP h2, if_neg (fun q => by have := q.2.1; omega)]
    · rw [bN h2]
      by_cases h3 : p.At ≥ n
      · rw [bP h3, if_neg (fun q => by have := q.2.2; omega)]
      · rw [bN h3, if_pos ⟨h1, by omega, by omega⟩]
  · rw [decide_eq_false h1, notF, brT, if_neg (fun q => h1 q.1)]
def goP (n : Int) (p : Pos) : Pos := if p.At + 1 ≥ n then ⟨p.At + 1 - n, !p.Wrap⟩ else ⟨p.At + 1, p.Wrap⟩
theorem go_eq {p : Pos} {n : Int} (h : posOk p n) : KW p 1 n = some (goP n p, 0) := by
  have h' := h
  obtain ⟨⟨h1, h2⟩, h3, h4⟩ := h'
  have w1 : wi (p.At + 1) = p.At + 1 := wi_in (by omega) (by omega)
  unfold KW goP
  rw [oS (pcheck_eq p n), if_pos h, nE rfl, bN (by decide), bN (by omega), w1]
  by_cases h5 : p.At + 1 ≥ n
  · rw [bP h5, if_pos h5, wi_in (by omega) (by omega)]
  · rw [bN h5, if_neg h5]
theorem goP_ok {p : Pos} {n : Int} (h : posOk p n) : posOk (goP n p) n := by
  obtain ⟨⟨h1, h2⟩, h3, h4⟩ := h
  unfold goP
  split
  · exact ⟨⟨h1, h2⟩, by dsimp only; omega, by dsimp only; omega⟩
  · exact ⟨⟨h1, h2⟩, by dsimp only; omega, by dsimp only; omega⟩
def posN (n : Int) (p : Pos) : Nat → Pos
  | 0 => p
  | i + 1 => goP n (posN n p i)
theorem posN_ok {p : Pos} {n : Int} (h : posOk p n) : ∀ i, posOk (posN n p i) n
  | 0 => h
  | i + 1 => goP_ok (posN_ok h i)
/-! packed chains -/
theorem pchainL (l : List Seg) (of : Int → Option build_packed) (y : Nat → build_packed) (hl : l.length ≤ 1000) (ho : ∀ i, i < l.length → of (i : Int) = some (y i)) : ∀ (nf i : Nat) (out : List build_packed), i ≤ l.length → l.length - i < nf → out.length = i →
    ZB l of nf out (i : Int) = some (out ++ genL (fun j => ⟨⟨(sgS l j).At, (sgS l j).Len, u16 (y j).id, mkd (flgS (sgS l j).Write (decide (j + 1 < l.length))) (y j).wrap false⟩, (y j).id, (y j).wrap⟩) i (l.length - i))
  | 0, i, out, _, h, _ => absurd h (Nat.not_lt_zero _)
  | nf + 1, i, out, hi, hn, hlo => by
    unfold ZB Xb
    by_cases h : i < l.length
    · have hw : decide (wi ((i : Int) + 1) < len l) = decide (i + 1 < l.length) := by
        rw [ZH (by omega)]; simp only [len]; exact decide_eq_decide.2 (by omega)
      have hm := pmade_eq (y i) (sgS l i) (decide (i + 1 < l.length))
      rw [oS (mark_eq _ _ _)] at hm
      rw [bP (by simp only [len]; omega), oS (ixD (Seg.mk 0 0 false) h), oS (ho i h), hw]
      refine (oS hm).trans ?_
      rw [cFits (by simp; omega), ZH (by omega)]
      rw [pchainL l of y hl ho nf (i + 1) _ (by omega) (by omega) (by simp [hlo]), show l.length - i = (l.length - (i + 1)) + 1 by omega, genL, List.append_assoc]
      rfl
    · rw [bN (by simp only [len]; omega), show l.length - i = 0 by omega]; simp [genL]
theorem pchain_ex (l : List Seg) (of : Int → Option build_packed) (y : Nat → build_packed) (hl : l.length ≤ 1000) (ho : ∀ i, i < l.length → of (i : Int) = some (y i)) :
    ∃ C, Zi l of = some C ∧ C.length = l.length ∧ ∀ i (h : i < C.length), C[i].Packed = ⟨(sgS l i).At, (sgS l i).Len, u16 (y i).id, mkd (flgS (sgS l i).Write (decide (i + 1 < l.length))) (y i).wrap false⟩ := by
  have he : Zi l of = some (genL (fun j => build_packed.mk ⟨(sgS l j).At, (sgS l j).Len, u16 (y j).id, mkd (flgS (sgS l j).Write (decide (j + 1 < l.length))) (y j).wrap false⟩ (y j).id (y j).wrap) 0 l.length) := by
    unfold Zi
    rw [cDb (by simp only [len]; omega)]
    exact pchainL l of y hl ho fuel 0 [] (by omega) (by rw [fuelS]; omega) rfl
  refine ⟨_, he, ZY .., fun i h => ?_⟩
  rw [ZY] at h
  have hg := Kh (fun j => build_packed.mk ⟨(sgS l j).At, (sgS l j).Len, u16 (y j).id, mkd (flgS (sgS l j).Write (decide (j + 1 < l.length))) (y j).wrap false⟩ (y j).id (y j).wrap) l.length 0 i h
  obtain ⟨hz, hz2⟩ := List.getElem?_eq_some_iff.1 hg
  rw [hz2, Nat.zero_add]
def putP (p : Pos) (size id : Int) (l : List Seg) (i : Nat) : PutPacked := ⟨(posN size p i).At, ⟨(sgS l i).At, (sgS l i).Len, u16 id, mkd (flgS (sgS l i).Write (decide (i + 1 < l.length))) (posN size p i).Wrap false⟩⟩
def packedF (p : Pos) (size id : Int) (l : List Seg) : List PutPacked × Int :=
  if errB l ≠ 0 then ([], errB l) else if ¬ posOk p size ∨ id < 0 ∨ id ≥ size ∨ (l.length : Int) > size then ([], 2) else (genL (putP p size id l) 0 l.length, 0)
theorem packedL8 (M : List Pos) (C : List build_packed) (f : Nat → PutPacked) (hl : C.length ≤ 1000) (hi : M.length = C.length) (hf : ∀ i (h : i < C.length), f i = PutPacked.mk (M[i]'(by omega)).At C[i].Packed) : ∀ (nf i : Nat) (out : List PutPacked), i ≤ C.length → C.length - i < nf → out.length = i →
    YI M C nf out C (i : Int) = some (out ++ genL f i (C.length - i), 0)
  | 0, i, out, _, h, _ => absurd h (Nat.not_lt_zero _)
  | nf + 1, i, out, hi', hn, hlo => by
    unfold YI Jk
    by_cases h : i < C.length
    · rw [bP (by simp only [len]; omega), oS (XK (getq h)), oS (XK (getq (by omega))), cFits (by simp; omega), ZH (by omega)]
      rw [packedL8 M C f hl hi hf nf (i + 1) _ (by omega) (by omega) (by simp [hlo]), show C.length - i = (C.length - (i + 1)) + 1 by omega, genL, List.append_assoc, hf i h]
      rfl
    · rw [bN (by simp only [len]; omega), show C.length - i = 0 by omega]; simp [genL]
theorem packedL7 (p : Pos) (size id : Int) (l : List Seg) (hp : posOk p size) (hl : l.length ≤ 1000) : ∀ (nf i : Nat), i ≤ l.length → l.length - i < nf →
    YJ size l nf (posN size p i) id (genL (posN size p) 0 i) (i : Int) = some (genL (putP p size id l) 0 l.length, 0)
  | 0, i, _, h => absurd h (Nat.not_lt_zero _)
  | nf + 1, i, hi, hn => by
    unfold YJ Jl
    by_cases h : i < l.length
    · rw [bP (by simp only [len]; omega), cFits (by rw [ZY]; simp; omega), oS (go_eq (posN_ok hp i)), ZH (by omega)]
      have := packedL7 p size id l hp hl nf (i + 1) (by omega) (by omega)
      rw [genL_snoc, Nat.zero_add] at this
      exact this
    · have hil : i = l.length := by omega
      subst hil
      obtain ⟨C, hc, hCl, hCi⟩ := pchain_ex l (fun x => ZM x id (genL (posN size p) 0 l.length)) (fun i => build_packed.mk (Packed.mk 0 0 0 0) id (posN size p i).Wrap) hl (fun i hi => by
        have hg := Kh (posN size p) l.length 0 i hi
        rw [Nat.zero_add] at hg
        unfold ZM
        rw [oS (XK hg)])
      rw [bN (by simp only [len]; omega), oS hc]
      have := packedL8 (genL (posN size p) 0 l.length) C (putP p size id l) (by omega) (by rw [ZY, hCl]) (fun i h => by
        have hg := Kh (posN size p) l.length 0 i (by omega)
        obtain ⟨_, hg2⟩ := List.getElem?_eq_some_iff.1 hg
        rw [hCi i h, hg2, Nat.zero_add]; rfl) fuel 0 [] (by omega) (by rw [fuelS]; omega) rfl
      rw [show C.length - 0 = l.length by omega] at this
      exact this
theorem packed_eqB (p : Pos) (size id : Int) (l : List Seg) (hl : l.length ≤ 1000) : build_Packed p size id l = some (packedF p size id l) := by
  unfold build_Packed packedF
  rw [oS (buffer_eq l), oS (pcheck_eq p size)]
  have hw : ∀ k : Option (List PutPacked × Int), (ob (Zy true) fun w => ob (Zs [some (errB l), w]) fun f => br (f != 0) (some (([] : List PutPacked), f)) k) = some ([], if errB l ≠ 0 then errB l else 2) := by
    intro k
    rw [oS (wrong_eq _), oS (first2_eq _ _)]
    by_cases he : errB l = 0
    · simp only [he, ne_eq, not_true_eq_false, if_false]; rfl
    · rw [if_pos he, nF he, if_pos he]
  have hfin : (([] : List PutPacked), if errB l ≠ 0 then errB l else 2) = (if errB l ≠ 0 then (([] : List PutPacked), errB l) else ([], 2)) := by split <;> rfl
  by_cases h1 : posOk p size
  · rw [if_pos h1, nE rfl]
    by_cases h2 : id < 0
    · rw [bP h2, hw, hfin, if_pos (show ¬ posOk p size ∨ id < 0 ∨ id ≥ size ∨ (l.length : Int) > size from Or.inr (Or.inl h2))]
    · rw [bN h2]
      by_cases h3 : id ≥ size
      · rw [bP h3, hw, hfin, if_pos (show ¬ posOk p size ∨ id < 0 ∨ id ≥ size ∨ (l.length : Int) > size from Or.inr (Or.inr (Or.inl h3)))]
      · rw [bN h3]
        by_cases h4 : (l.length : Int) > size
        · rw [decide_eq_true (show len l > size from h4), hw, hfin, if_pos (show ¬ posOk p size ∨ id < 0 ∨ id ≥ size ∨ (l.length : Int) > size from Or.inr (Or.inr (Or.inr h4)))]
        · rw [decide_eq_false (show ¬ len l > size from h4), oS (wrong_eq _), oS (first2_eq _ _), if_neg (show ¬ (¬ posOk p size ∨ id < 0 ∨ id ≥ size ∨ (l.length : Int) > size) by
            rintro (q | q | q | q)
            · exact q h1
            · exact h2 q
            · exact h3 q
            · exact h4 q)]
          by_cases he : errB l = 0
          · simp only [he, ne_eq, not_true_eq_false, if_false]
            rw [if_neg (by decide), nE rfl]
            exact packedL7 p size id l h1 hl fuel 0 (by omega) (by rw [fuelS]; omega)
          · rw [if_pos he, if_pos he, nF he]
  · rw [if_neg h1, nF (by decide), hw, hfin, if_pos (show ¬ posOk p size ∨ id < 0 ∨ id ≥ size ∨ (l.length : Int) > size from Or.inl h1)]
/-! tables -/
def idsN (n : Nat) : List Int := genL (fun i => (i : Int)) 0 n
theorem idsN_get {n i : Nat} (h : i < n) : (idsN n).getD i 0 = (i : Int) := by
  have := Kh (fun i => (i : Int)) n 0 i h
  unfold idsN
  rw [List.getD_eq_getElem?_getD, this]; simp
def tabS (l : List Seg) : List Desc := genL (dS (idsN l.length) l) 0 l.length
def tabF (l : List Seg) : List UInt8 × Int := if errB l ≠ 0 then ([], errB l) else ((tabS l).flatMap bsD, 0)
theorem dS_ids {l : List Seg} {i : Nat} : dS (idsN l.length) l i = ⟨(sgS l i).At, (sgS l i).Len, flgS (sgS l i).Write (decide (i + 1 < l.length)), if i + 1 < l.length then u16 ((i + 1 : Nat) : Int) else 0⟩ := by
  unfold dS
  by_cases h : i + 1 < l.length
  · rw [if_pos h, if_pos h, idsN_get h]
  · rw [if_neg h, if_neg h]
theorem stabL (C : List build_split) (f : Nat → Desc) (hl : C.length ≤ 1000) (hf : ∀ i (h : i < C.length), f i = C[i].Desc) : ∀ (nf i : Nat), i ≤ C.length → C.length - i < nf →
    Xr C nf (genL f 0 i) C (i : Int) = some ((genL f 0 C.length).flatMap bsD, 0)
  | 0, i, _, h => absurd h (Nat.not_lt_zero _)
  | nf + 1, i, hi, hn => by
    unfold Xr YA
    by_cases h : i < C.length
    · rw [bP (by simp only [len]; omega), oS (XK (getq h)), cFits (by rw [ZY]; simp; omega), ZH (by omega)]
      have := stabL C f hl hf nf (i + 1) (by omega) (by omega)
      rw [genL_snoc, Nat.zero_add, hf i h] at this
      exact this
    · have : i = C.length := by omega
      subst this
      rw [bN (by simp only [len]; omega), oS (tableD _ (by rw [ZY]; omega))]
theorem stab_eq (l : List Seg) : YD l = some (tabF l) := by
  unfold YD tabF
  rw [oS (buffer_eq l), oS (first1_eq _)]
  by_cases he : errB l = 0
  · have h64 := (XL.1 he).1.1
    rw [nE he, if_neg (by simp [he])]
    obtain ⟨C, hc, hCl, hCi⟩ := schain_ex l (fun x => Xq x) (fun i => build_split.mk (Desc.mk 0 0 0 0) ((i + 1 : Nat) : Int)) (by omega) (fun i hi => by
      unfold Xq
      rw [ZH (by omega)])
    rw [oS hc]
    have := stabL C (dS (idsN l.length) l) (by omega) (fun i h => by rw [hCi i h, dS_ids]) fuel 0 (by omega) (by rw [fuelS]; omega)
    rw [hCl] at this
    exact this
  · rw [nF he, if_pos he]
def ptS (l : List Seg) (i : Nat) : Packed := ⟨(sgS l i).At, (sgS l i).Len, 0, if (sgS l i).Write = true then 2 else 0⟩
def ptabF (l : List Seg) : List UInt8 × Int := if errB l ≠ 0 then ([], errB l) else ((genL (ptS l) 0 l.length).flatMap bsP, 0)
theorem Jm (d : Packed) : (bsP d).length = 16 := rfl
theorem ptabL (l : List Seg) (hl : l.length ≤ 1000) : ∀ (nf i : Nat) (out : List UInt8), i ≤ l.length → l.length - i < nf → out.length = 16 * i →
    Zm l nf out (i : Int) = some (out ++ (genL (ptS l) i (l.length - i)).flatMap bsP, 0)
  | 0, i, out, _, h, _ => absurd h (Nat.not_lt_zero _)
  | nf + 1, i, out, hi, hn, ho => by
    unfold Zm Ye
    by_cases h : i < l.length
    · have ih := ptabL l hl nf (i + 1) (out ++ bsP (ptS l i)) (by omega) (by omega) (by rw [List.length_append, Jm]; omega)
      have hJ : ∀ d, d = ptS l i → Zz (i : Int) (Zm l nf) out d = some (out ++ (genL (ptS l) i (l.length - i)).flatMap bsP, 0) := by
        intro d hd
        unfold Zz
        rw [oS (bytesP d), cFits (by rw [Jm]; omega), ZH (by omega), hd, ih, show l.length - i = (l.length - (i + 1)) + 1 by omega, genL, List.append_assoc]
        rfl
      rw [bP (by simp only [len]; omega), oS (ixD (Seg.mk 0 0 false) h)]
      show br (sgS l i).Write (Zz (i : Int) (Zm l nf) out (Packed.mk (sgS l i).At (sgS l i).Len 0 2)) (Zz (i : Int) (Zm l nf) out (Packed.mk (sgS l i).At (sgS l i).Len 0 0)) = _
      cases hw : (sgS l i).Write with
      | true => rw [brT, hJ _ (by unfold ptS; rw [hw]; rfl)]
      | false => rw [brF, hJ _ (by unfold ptS; rw [hw]; rfl)]
    · rw [bN (by simp only [len]; omega), show l.length - i = 0 by omega]; simp [genL]
theorem ptab_eq (l : List Seg) : Yk l = some (ptabF l) := by
  unfold Yk ptabF
  rw [oS (buffer_eq l), oS (first1_eq _)]
  by_cases he : errB l = 0
  · rw [nE he, if_neg (by simp [he])]
    exact ptabL l (by have := (XL.1 he).1.1; omega) fuel 0 [] (by omega) (by rw [fuelS]; have := (XL.1 he).1.1; omega) rfl
  · rw [nF he, if_pos he]
/-! one descriptor of a table -/
def many (n : Int) : Prop := 1 ≤ n ∧ n ≤ 64
instance (n : Int) : Decidable (many n) := by unfold many; exact inferInstance
theorem many_eq (n : Int) : build_many n = some (decide (many n)) := by
  unfold build_many many
  by_cases h : n ≥ 1
  · rw [bP h]; exact congrArg some (decide_eq_decide.2 ⟨fun q => ⟨h, q⟩, fun q => q.2⟩)
  · rw [bN h]; exact congrArg some (decide_eq_false (fun q => h q.1)).symm
def zP : Put := ⟨0, ⟨0, 0, 0, 0⟩⟩
def zPP : PutPacked := ⟨0, ⟨0, 0, 0, 0⟩⟩
def oneS (id : Int) (a : UInt64) (n : Int) : Put × Int := if (0 ≤ id ∧ id < 32768) ∧ many n then (⟨id, ⟨a, u32 (wi (16 * n)), 4, 0⟩⟩, 0) else (zP, 2)
theorem one_eqB (id : Int) (a : UInt64) (n : Int) : Kx id a n = some (oneS id a n) := by
  unfold Kx oneS
  rw [oS (isID_eq id)]
  unfold idR
  by_cases h1 : 0 ≤ id
  · by_cases h2 : id < 32768
    · rw [decide_eq_true h1, decide_eq_true h2, show (!(true && true)) = false from rfl, brF, oS (many_eq n), oS (wrong_eq _), oS (first1_eq _)]
      by_cases h3 : many n
      · rw [decide_eq_true h3, notT, if_neg (by decide), nE rfl, if_pos ⟨⟨h1, h2⟩, h3⟩]
      · rw [decide_eq_false h3, notF, if_pos rfl, nF (by decide), if_neg (fun q => h3 q.2)]; rfl
    · rw [decide_eq_true h1, decide_eq_false h2, show (!(true && false)) = true from rfl, brT, oS (wrong_eq _), oS (first1_eq _), if_pos rfl, nF (by decide), if_neg (fun q => h2 q.1.2)]; rfl
  · rw [decide_eq_false h1, Bool.false_and, notF, brT, oS (wrong_eq _), oS (first1_eq _), if_pos rfl, nF (by decide), if_neg (fun q => h1 q.1.1)]; rfl
def oneP (p : Pos) (size id : Int) (a : UInt64) (n : Int) : PutPacked × Int := if posOk p size ∧ 0 ≤ id ∧ id < size ∧ many n then (⟨p.At, ⟨a, u32 (wi (16 * n)), u16 id, mkd 4 p.Wrap false⟩⟩, 0) else (zPP, 2)
theorem onep_eqB (p : Pos) (size id : Int) (a : UInt64) (n : Int) : YY p size id a n = some (oneP p size id a n) := by
  unfold YY oneP
  rw [oS (pcheck_eq p size)]
  have hw : ∀ k : Option (PutPacked × Int), (ob (Zy true) fun w => ob (Zs [w]) fun f => br (f != 0) (some (PutPacked.mk 0 (Packed.mk 0 0 0 0), f)) k) = some (zPP, 2) := by
    intro k
    rw [oS (wrong_eq _), oS (first1_eq _), if_pos rfl, nF (by decide)]; rfl
  by_cases h1 : posOk p size
  · rw [if_pos h1, nE rfl]
    by_cases h2 : id < 0
    · rw [bP h2, hw, if_neg (fun q => by have := q.2.1; omega)]
    · rw [bN h2]
      by_cases h3 : id ≥ size
      · rw [bP h3, hw, if_neg (fun q => by have := q.2.2.1; omega)]
      · rw [bN h3, oS (many_eq n), oS (wrong_eq _), oS (first1_eq _)]
        by_cases h4 : many n
        · rw [decide_eq_true h4, notT, if_neg (by decide), nE rfl, oS (mark_eq _ _ _), if_pos ⟨h1, by omega, by omega, h4⟩]
        · rw [decide_eq_false h4, notF, if_pos rfl, nF (by decide), if_neg (fun q => h4 q.2.2.2)]; rfl
  · rw [if_neg h1, nF (by decide), hw, if_neg (fun q => h1 q.1)]
/-! how many -/
def needF (l : List Seg) (t : Bool) : Int := if errB l = 0 then (if t = true then 1 else (l.length : Int)) else 0
theorem needs_eqB (l : List Seg) (t : Bool) : build_Needs l t = some (needF l t) := by
  unfold build_Needs needF errB
  rw [oS (segCheck l)]
  by_cases h : errS l = 0
  · rw [nE h, if_pos h]
    by_cases h0 : l.length = 0
    · rw [if_pos h0, bE (by simp [len, h0]), if_neg (by decide)]
    · rw [if_neg h0, bF (by simp only [len]; omega), if_pos rfl]
      cases t <;> rfl
  · rw [nF h, if_neg h, if_neg h]
end Go.Proofs.Ytlofegfaphijpaa

end

section
namespace Go.Proofs.Ytlofegfaphijpaa
theorem flat16_len {α : Type} (g : α → List UInt8) (hg : ∀ x, (g x).length = 16) : ∀ L : List α, (L.flatMap g).length = 16 * L.length
  | [] => rfl
  | x :: L => by rw [List.flatMap_cons, List.length_append, hg, flat16_len g hg L, List.length_cons]; omega
end Go.Proofs.Ytlofegfaphijpaa

end

section
namespace Go.Proofs.Ytlofegfaphijpaa
theorem remi_natB (a m : Nat) : remi (a : Int) (m : Int) = ((a % m : Nat) : Int) := by
  unfold remi; rw [Int.tmod_eq_emod_of_nonneg (by omega)]; rfl
theorem flat16_at {α : Type} (g : α → List UInt8) (hg : ∀ x, (g x).length = 16) : ∀ (L : List α) (i : Nat) (h : i < L.length), ((L.flatMap g).drop (16 * i)).take 16 = g L[i]
  | [], _, h => absurd h (Nat.not_lt_zero _)
  | x :: L, 0, _ => by
    rw [List.flatMap_cons, Nat.mul_zero, List.drop_zero]; exact List.take_left' (hg x)
  | x :: L, i + 1, h => by
    rw [List.flatMap_cons, show 16 * (i + 1) = 16 + 16 * i by omega, ← List.drop_drop, List.drop_left' (hg x)]
    exact flat16_at g hg L i (by simpa using h)
theorem flagsS (w m : Bool) : (flgS w m &&& 2 != 0) = w ∧ (flgS w m &&& 1 != 0) = m ∧ (flgS w m &&& 4 == 0) = true := by cases w <;> cases m <;> decide
theorem posN_at (k sz : Nat) (w : Bool) (hk : k < sz) : ∀ i, i ≤ sz → posN (sz : Int) ⟨(k : Int), w⟩ i = if k + i < sz then ⟨((k + i : Nat) : Int), w⟩ else ⟨((k + i - sz : Nat) : Int), !w⟩
  | 0, _ => by rw [if_pos (by omega)]; rfl
  | i + 1, h => by
    rw [posN, posN_at k sz w hk i (by omega)]
    by_cases h1 : k + i < sz
    · rw [if_pos h1]
      unfold goP
      dsimp only
      by_cases h2 : k + (i + 1) < sz
      · rw [if_pos h2, if_neg (by omega)]
        exact congrArg (fun t => Pos.mk t w) (by omega)
      · rw [if_neg h2, if_pos (by omega)]
        exact congrArg (fun t => Pos.mk t (!w)) (by omega)
    · rw [if_neg h1]
      unfold goP
      dsimp only
      rw [if_neg (show ¬ k + (i + 1) < sz by omega), if_neg (by omega)]
      exact congrArg (fun t => Pos.mk t (!w)) (by omega)
end Go.Proofs.Ytlofegfaphijpaa

end

section
namespace Go.Proofs.Ytlofegfaphijpaa
def pOf (b : List UInt8) : Packed := match Xl b with | some r => r.1 | none => default
theorem pOf_eq {b : List UInt8} (h : b.length = 16) : Xl b = some (pOf b, 0) ∧ ref_ReadPacked03 b = some (pOf b, 0) := by
  obtain ⟨b0, b1, b2, b3, b4, b5, b6, b7, b8, b9, b10, b11, b12, b13, b14, b15, rfl⟩ := list16 h
  have h1 := readP b0 b1 b2 b3 b4 b5 b6 b7 b8 b9 b10 b11 b12 b13 b14 b15
  have h2 := refReadP b0 b1 b2 b3 b4 b5 b6 b7 b8 b9 b10 b11 b12 b13 b14 b15
  have e : pOf [b0, b1, b2, b3, b4, b5, b6, b7, b8, b9, b10, b11, b12, b13, b14, b15] = ⟨wrd b0 b1 b2 b3 b4 b5 b6 b7, (wrd b8 b9 b10 b11 0 0 0 0).toUInt32, (wrd b12 b13 0 0 0 0 0 0).toUInt16, (wrd b14 b15 0 0 0 0 0 0).toUInt16⟩ := by
    unfold pOf; rw [h1]
  rw [e]; exact ⟨h1, h2⟩
def pAt (x : List UInt8) (a : Nat) : Packed := pOf (rdF x a 16)
theorem pAt_bs {x : List UInt8} {a : Nat} {d : Packed} (h : rdF x a 16 = bsP d) : pAt x a = d := by
  unfold pAt pOf; rw [h, read_bytesP]
def mkP (d : Packed) : Seg := ⟨d.Addr, d.Len, d.Flags &&& 2 != 0⟩
def wiF (x : List UInt8) (a : UInt64) : Nat → Nat → List Seg → Int × List Seg
  | 0, _, l => (0, l)
  | f + 1, i, l => if (pAt x (plK a i)).Flags &&& 4 ≠ 0 then (4, l) else wiF x a f (i + 1) (l ++ [mkP (pAt x (plK a i))])
def wthF (N : Nat) (x : List UInt8) (a : UInt64) (c : UInt32) (l : List Seg) : Int × List Seg := if entE N a c ≠ 0 then (entE N a c, l) else wiF x a (c / 16).toNat 0 l
def pkF (N : Nat) (x : List UInt8) (r : Rings) (tb : Bool) : Nat → Pos → Int → Nat → List Seg → Int × Int × Nat × List Seg
  | 0, _, id, c, l => (4, id, c, l)
  | f + 1, p, id, c, l =>
    if ¬ plK r.Desc p.At + 16 ≤ N then (5, id, c, l)
    else if (pAt x (plK r.Desc p.At)).Flags &&& 4 ≠ 0 then
      (if tb = false ∨ c ≠ 0 ∨ (pAt x (plK r.Desc p.At)).Flags &&& 1 ≠ 0 then (4, i16 (pAt x (plK r.Desc p.At)).ID, c + 1, l)
       else ((wthF N x (pAt x (plK r.Desc p.At)).Addr (pAt x (plK r.Desc p.At)).Len l).1, i16 (pAt x (plK r.Desc p.At)).ID, c + 1, (wthF N x (pAt x (plK r.Desc p.At)).Addr (pAt x (plK r.Desc p.At)).Len l).2))
    else if (pAt x (plK r.Desc p.At)).Flags &&& 1 = 0 then (0, i16 (pAt x (plK r.Desc p.At)).ID, c + 1, l ++ [mkP (pAt x (plK r.Desc p.At))])
    else pkF N x r tb f (goP r.Size p) (i16 (pAt x (plK r.Desc p.At)).ID) (c + 1) (l ++ [mkP (pAt x (plK r.Desc p.At))])
def finP (N : Nat) (size : Int) (w : Int × Int × Nat × List Seg) : Taken × Int :=
  if w.1 ≠ 0 then (⟨0, 0, []⟩, w.1) else if w.2.1 ≥ size then (⟨0, 0, []⟩, 4) else if (lookF N w.2.2.2).2 ≠ 0 then (⟨0, 0, []⟩, (lookF N w.2.2.2).2) else (⟨w.2.1, (w.2.2.1 : Nat), (lookF N w.2.2.2).1⟩, 0)
/-! places of a table are in the memory -/
theorem ent_in {N : Nat} {a : UInt64} {c : UInt32} (h : entE N a c = 0) : a.toNat + c.toNat ≤ N ∧ 16 * (c / 16).toNat = c.toNat := by
  unfold entE at h
  by_cases q : c = 0 ∨ c % 16 ≠ 0 ∨ c / 16 > 64
  · rw [if_pos q] at h; cases h
  · rw [if_neg q] at h
    by_cases z : a.toNat + c.toNat ≤ N
    · refine ⟨z, ?_⟩
      have : c % 16 = 0 := Classical.byContradiction fun e => q (Or.inr (Or.inl e))
      have e2 := congrArg UInt32.toNat this
      rw [UInt32.toNat_mod] at e2
      rw [UInt32.toNat_div]
      simp only [UInt32.reduceToNat] at e2 ⊢
      omega
    · rw [if_neg z] at h; cases h
theorem plK_in {a : UInt64} {N i k : Nat} (hN : N ≤ 1048576) (h : a.toNat + 16 * k ≤ N) (hi : i < k) : plK a (i : Int) = a.toNat + 16 * i ∧ plK a (i : Int) + 16 ≤ N := by
  have : plK a (i : Int) = a.toNat + 16 * i := by
    unfold plK u64
    rw [UInt64.toNat_add, UInt64.toNat_mul, UInt64.toNat_ofNat']
    simp only [UInt64.reduceToNat]
    omega
  omega
/-! the program's table -/
theorem withinL {N : UInt64} {x : List UInt8} (hx : Xv N x) (a : UInt64) (k : Nat) (hk : k ≤ 64) (ha : a.toNat + 16 * k ≤ N.toNat) : ∀ (nf i : Nat) (l : List Seg), i ≤ k → k - i < nf → l.length + k ≤ 1000 + i → ∃ l', Yr ⟨rg N, [x]⟩ a ((k : Int), 0) nf l 0 (i : Int) = some (l', (wiF x a (k - i) i l).1) ∧ ((wiF x a (k - i) i l).1 = 0 → l' = (wiF x a (k - i) i l).2)
  | 0, i, _, _, h, _ => absurd h (Nat.not_lt_zero _)
  | nf + 1, i, l, hi, hn, hl => by
    unfold Yr Kp
    by_cases c : i < k
    · obtain ⟨_, h2⟩ := plK_in hx.2.1 ha c
      have hd := pOf_eq (rdF_len16 (x := x) (a := plK a (i : Int)) (by rw [hx.2.2]; exact h2))
      have hr := mread hx (a + 16 * u64 (i : Int))
      rw [if_pos (show (a + 16 * u64 (i : Int)).toNat + 16 ≤ N.toNat from h2)] at hr
      rw [bP (by dsimp only; omega), oS hr]
      dsimp only
      rw [show rdF x (a + 16 * u64 (i : Int)).toNat 16 = rdF x (plK a (i : Int)) 16 from rfl, oS hd.1, show k - i = k - (i + 1) + 1 by omega, wiF]
      unfold pAt
      generalize pOf (rdF x (plK a (i : Int)) 16) = d
      dsimp only
      by_cases h4 : d.Flags &&& 4 = 0
      · rw [nE h4, if_neg (by simp [h4]), oS (show Kr d.Addr d.Len d.Flags = some (mkP d) from rfl), cFits (by simp; omega), ZH (by omega)]
        exact withinL hx a k hk ha nf (i + 1) (l ++ [mkP d]) (by omega) (by omega) (by rw [List.length_append, List.length_singleton]; omega)
      · rw [nF h4, if_pos h4]
        exact ⟨[], rfl, fun q => absurd (show (4 : Int) = 0 from q) (by decide)⟩
    · rw [bN (by dsimp only; omega), show k - i = 0 by omega]
      exact ⟨l, rfl, fun _ => rfl⟩
theorem within_eq {N : UInt64} {x : List UInt8} (hx : Xv N x) (a : UInt64) (c : UInt32) : ∃ l', walk_within ⟨rg N, [x]⟩ a c = some (l', (wthF N.toNat x a c []).1) ∧ ((wthF N.toNat x a c []).1 = 0 → l' = (wthF N.toNat x a c []).2) := by
  unfold walk_within wthF
  rw [oS (ent_eq hx a c)]
  by_cases h : entE N.toNat a c = 0
  · have h64 := ent_le h
    obtain ⟨h1, h2⟩ := ent_in h
    rw [if_pos h, if_neg (by simpa using h)]
    have := withinL hx a (c / 16).toNat h64 (by omega) fuel 0 [] (by omega) (by rw [fuelS]; omega) (by simp; omega)
    exact this
  · rw [if_neg h, if_pos h]
    refine ⟨[], ?_, fun q => absurd q h⟩
    dsimp only
    rw [fuelS]
    unfold Yr Kp
    rw [bN (by dsimp only; omega)]
/-! the program's chain -/
theorem packL {N : UInt64} {x : List UInt8} (hx : Xv N x) (r : Rings) (size : Nat) (hr : r.Size = (size : Int)) (hs : size ≤ 32768) (tb : Bool) : ∀ (nf f : Nat) (p : Pos) (id : Int) (c : Nat) (l : List Seg), f < nf → c + f = size → posOk p r.Size → l.length ≤ c → (c = 0 → l = []) →
    ∃ l', Ys ⟨rg N, [x]⟩ tb nf r p id (c : Int) l = some (⟨(pkF N.toNat x r tb f p id c l).2.1, (((pkF N.toNat x r tb f p id c l).2.2.1 : Nat) : Int), l'⟩, (pkF N.toNat x r tb f p id c l).1) ∧ ((pkF N.toNat x r tb f p id c l).1 = 0 → l' = (pkF N.toNat x r tb f p id c l).2.2.2)
  | 0, f, _, _, _, _, h, _, _, _, _ => absurd h (Nat.not_lt_zero _)
  | nf + 1, 0, p, id, c, l, _, hc, _, _, _ => by
    unfold Ys Kq pkF
    rw [bN (by omega)]
    exact ⟨l, rfl, fun q => absurd (show (4 : Int) = 0 from q) (by decide)⟩
  | nf + 1, f + 1, p, id, c, l, hf, hc, hp, hl, hl0 => by
    unfold Ys Kq pkF
    rw [bP (by omega), oS (mread hx _)]
    by_cases h3 : plK r.Desc p.At + 16 ≤ N.toNat
    · have hd := pOf_eq (rdF_len16 (x := x) (a := plK r.Desc p.At) (by rw [hx.2.2]; exact h3))
      rw [if_pos (show (r.Desc + 16 * u64 p.At).toNat + 16 ≤ N.toNat from h3), if_neg (by simpa using h3), nE rfl]
      dsimp only
      rw [show rdF x (r.Desc + 16 * u64 p.At).toNat 16 = rdF x (plK r.Desc p.At) 16 from rfl, oS hd.1]
      unfold pAt
      generalize pOf (rdF x (plK r.Desc p.At) 16) = d
      dsimp only
      rw [oS (go_eq hp)]
      by_cases h4 : d.Flags &&& 4 = 0
      · rw [nE h4, if_neg (by simp [h4]), oS (show Kr d.Addr d.Len d.Flags = some (mkP d) from rfl), cFits (by simp; omega), ZH (by omega)]
        by_cases h5 : d.Flags &&& 1 = 0
        · rw [bE h5, if_pos h5]; exact ⟨_, rfl, fun _ => rfl⟩
        · rw [bF h5, if_neg h5]
          exact packL hx r size hr hs tb nf f (goP r.Size p) (i16 d.ID) (c + 1) (l ++ [mkP d]) (by omega) (by omega) (goP_ok hp) (by rw [List.length_append, List.length_singleton]; omega) (by omega)
      · rw [nF h4, if_pos h4, ZH (by omega)]
        cases tb with
        | false => rw [notF, brT, if_pos (Or.inl rfl)]; exact ⟨_, rfl, fun q => absurd (show (4 : Int) = 0 from q) (by decide)⟩
        | true =>
          rw [notT, brF]
          by_cases h6 : c = 0
          · rw [bN (by omega)]
            by_cases h5 : d.Flags &&& 1 = 0
            · obtain ⟨l', e1, e2⟩ := within_eq hx d.Addr d.Len
              have hno : ¬ (true = false ∨ c ≠ 0 ∨ d.Flags &&& 1 ≠ 0) := by
                rintro (q | q | q)
                · cases q
                · exact q h6
                · exact q h5
              rw [nE h5, if_neg hno, oS e1, hl0 h6]
              exact ⟨l', rfl, e2⟩
            · rw [nF h5, if_pos (Or.inr (Or.inr h5))]; exact ⟨_, rfl, fun q => absurd (show (4 : Int) = 0 from q) (by decide)⟩
          · rw [bP (by omega), if_pos (Or.inr (Or.inl h6))]; exact ⟨_, rfl, fun q => absurd (show (4 : Int) = 0 from q) (by decide)⟩
    · rw [if_neg (show ¬ (r.Desc + 16 * u64 p.At).toNat + 16 ≤ N.toNat from h3), if_pos (by simpa using h3), nF (by decide)]
      exact ⟨l, rfl, fun q => absurd (show (5 : Int) = 0 from q) (by decide)⟩
def pakW (N : Nat) (x : List UInt8) (r : Rings) (p : Pos) (tb : Bool) : Int × Int × Nat × List Seg := pkF N x r tb r.Size.toNat p 0 0 []
def pakR (N : Nat) (x : List UInt8) (r : Rings) (p : Pos) (tb : Bool) : Taken × Int := if posOk p r.Size then finP N r.Size (pakW N x r p tb) else (⟨0, 0, []⟩, 2)
theorem wPacked_eq {N : UInt64} {x : List UInt8} (hx : Xv N x) {r : Rings} {n : Int} (h : Kt r true n) (h1 : 0 ≤ n) (h2 : n ≤ 32768) (p : Pos) (t : Bool) : YR ⟨rg N, [x]⟩ r p t = some (pakR N.toNat x r p t) := by
  unfold YR pakR
  rw [oS (wrefuse hx h), bE rfl, oS (pcheck_eq p r.Size)]
  by_cases hp : posOk p r.Size
  · rw [if_pos hp, if_pos hp, nE rfl]
    unfold Yv walk_packed
    obtain ⟨s, hs⟩ : ∃ s : Nat, r.Size = (s : Int) := ⟨r.Size.toNat, by have := h.2.1; omega⟩
    obtain ⟨l', e1, e2⟩ := packL hx r s hs (by have := h.2.1; omega) t fuel s p 0 0 [] (by rw [fuelS]; have := h.2.1; omega) (by omega) hp (by simp) (fun _ => rfl)
    rw [show ((0 : Nat) : Int) = 0 from rfl] at e1
    unfold finP pakW
    rw [show r.Size.toNat = s by omega, nE rfl, oS e1]
    generalize pkF N.toNat x r t s p 0 0 [] = w at *
    dsimp only
    by_cases q1 : w.1 = 0
    · rw [bE q1, if_neg (by simpa using q1), e2 q1]
      by_cases q2 : w.2.1 ≥ r.Size
      · rw [bP q2, if_pos q2]; unfold Yu Yt; rw [bF (by decide), nF (by decide)]
      · rw [bN q2, if_neg q2]
        unfold Yu Yt
        rw [bE q1, oS (look_eq hx _)]
        by_cases q3 : (lookF N.toNat w.2.2.2).2 = 0
        · rw [nE q3, if_neg (by simpa using q3)]
        · rw [nF q3, if_pos q3]
    · rw [bF q1, if_pos q1]
  · rw [if_neg hp, if_neg hp, nF (by decide)]
    unfold Yv; rw [nF (by decide)]
end Go.Proofs.Ytlofegfaphijpaa

end

section
namespace Go.Proofs.Ytlofegfaphijpaa
theorem taken_eq (a : Taken) (h : a.Segs.length ≤ 64) : Jd a a = some true := by
  unfold Jd
  rw [bE rfl, bE rfl, oS (ksame_eq _ _ (by omega)), beqI]
end Go.Proofs.Ytlofegfaphijpaa

end

section
namespace Go.Proofs.Ytlofegfaphijpaa
theorem genL_mem {α : Type} (f : Nat → α) (x : α) : ∀ (k i : Nat), x ∈ genL f i k ↔ ∃ j, i ≤ j ∧ j < i + k ∧ f j = x
  | 0, i => by
    constructor
    · intro h; cases h
    · rintro ⟨j, h1, h2, _⟩; omega
  | k + 1, i => by
    rw [genL, List.mem_cons, genL_mem f x k (i + 1)]
    constructor
    · rintro (h | ⟨j, h1, h2, h3⟩)
      · exact ⟨i, by omega, by omega, h.symm⟩
      · exact ⟨j, by omega, by omega, h3⟩
    · rintro ⟨j, h1, h2, h3⟩
      by_cases q : j = i
      · left; rw [← h3, q]
      · right; exact ⟨j, by omega, by omega, h3⟩
theorem has_mem {k : Int} {l : List Int} : l.contains k = true ↔ k ∈ l := by simp
theorem rdF_off {x xs : List UInt8} {a b n : Nat} (h : a + xs.length ≤ x.length) (q : b + n ≤ a ∨ a + xs.length ≤ b) : rdF (wrF x a xs) b n = rdF x b n := by
  unfold rdF wrF
  rcases q with q | q
  · apply List.ext_getElem?
    intro i
    by_cases hi : i < n
    · rw [List.getElem?_take_of_lt hi, List.getElem?_take_of_lt hi, List.getElem?_drop, List.getElem?_drop, List.append_assoc, List.getElem?_append_left (by rw [List.length_take]; omega), List.getElem?_take_of_lt (by omega)]
    · rw [List.getElem?_eq_none (by rw [List.length_take]; omega), List.getElem?_eq_none (by rw [List.length_take]; omega)]
  · have e : (x.take a ++ xs).length = a + xs.length := by rw [List.length_append, List.length_take]; omega
    rw [List.drop_append, e, List.drop_eq_nil_of_le (by rw [e]; exact q), List.nil_append, List.drop_drop]
    congr 2; omega
theorem rdF_on {x xs : List UInt8} {a : Nat} (h : a + xs.length ≤ x.length) : rdF (wrF x a xs) a xs.length = xs := by
  unfold rdF wrF
  rw [List.append_assoc, List.drop_append, List.length_take, List.drop_eq_nil_of_le (by rw [List.length_take]; omega), List.nil_append, show a - min a x.length = 0 by omega, List.drop_zero, List.take_left]
theorem dAt_bs {x : List UInt8} {a : Nat} {d : Desc} (h : rdF x a 16 = bsD d) : dAt x a = d := by
  unfold dAt dOf; rw [h, read_bytesD]
def apart (W : Nat → Nat) (m : Nat) : Prop := ∀ i j, i < j → j < m → W i ≠ W j
def seenN (W : Nat → Nat) (i : Nat) : List Int := genL (fun j => (W j : Int)) 0 i
theorem seenN_snoc (W : Nat → Nat) (i : Nat) : seenN W i ++ [(W i : Int)] = seenN W (i + 1) := by
  unfold seenN; rw [genL_snoc, Nat.zero_add]
theorem seenN_not {W : Nat → Nat} {m i : Nat} (h : apart W m) (hi : i < m) : (seenN W i).contains (W i : Int) = false := by
  cases e : (seenN W i).contains (W i : Int) with
  | false => rfl
  | true =>
    obtain ⟨j, _, h2, h3⟩ := (genL_mem _ _ _ _).1 (has_mem.1 e)
    exact absurd (by omega) (h j i (by omega) hi)
structure layW (N : Nat) (x : List UInt8) (a : UInt64) (size : Int) (W : Nat → Nat) (D : Nat → Desc) (m : Nat) : Prop where
  ap : apart W m
  rng : ∀ i, i < m → (W i : Int) < size
  mem : ∀ i, i < m → plK a (W i) + 16 ≤ N
  at_ : ∀ i, i < m → dAt x (plK a (W i)) = D i
  noT : ∀ i, i < m → (D i).Flags &&& 4 = 0
  nxt : ∀ i, i + 1 < m → ¬ (D i).Flags &&& 1 = 0 ∧ i16 (D i).Next = (W (i + 1) : Int)
theorem chain_run {N : Nat} {x : List UInt8} {a : UInt64} {size : Int} {W : Nat → Nat} {D : Nat → Desc} {m : Nat} (h : layW N x a size W D m) (tb : Desc → Nat → List Seg → Int × Nat × List Seg) : ∀ (c i f n : Nat) (l : List Seg), i + c + 1 = m →
    chF N x a size tb (f + (c + 1)) (W i : Int) (seenN W i) n l = if (D (m - 1)).Flags &&& 1 = 0 then (0, n + (c + 1), l ++ genL (fun j => mkS (D j)) i (c + 1)) else chF N x a size tb f (i16 (D (m - 1)).Next) (seenN W m) (n + (c + 1)) (l ++ genL (fun j => mkS (D j)) i (c + 1))
  | 0, i, f, n, l, hc => by
    rw [Nat.zero_add, chF, if_neg (by
      rintro (q | q | q)
      · rw [seenN_not h.ap (by omega)] at q; cases q
      · omega
      · have := h.rng i (by omega); omega), if_neg (by simpa using h.mem i (by omega)), h.at_ i (by omega), if_neg (by simp [h.noT i (by omega)])]
    rw [show m - 1 = i by omega]
    by_cases q : (D i).Flags &&& 1 = 0
    · rw [if_pos q, if_pos q]; rfl
    · rw [if_neg q, if_neg q, seenN_snoc, show i + 1 = m by omega]; rfl
  | c + 1, i, f, n, l, hc => by
    rw [show f + (c + 1 + 1) = f + (c + 1) + 1 by omega, chF, if_neg (by
      rintro (q | q | q)
      · rw [seenN_not h.ap (by omega)] at q; cases q
      · omega
      · have := h.rng i (by omega); omega), if_neg (by simpa using h.mem i (by omega)), h.at_ i (by omega), if_neg (by simp [h.noT i (by omega)])]
    have hx := h.nxt i (by omega)
    rw [if_neg hx.1, hx.2, seenN_snoc, chain_run h tb c (i + 1) f (n + 1) _ (by omega), genL]
    by_cases q : (D (m - 1)).Flags &&& 1 = 0
    · rw [if_pos q, if_pos q, List.append_assoc, show n + 1 + (c + 1) = n + (c + 1 + 1) by omega]; rfl
    · rw [if_neg q, if_neg q, List.append_assoc, show n + 1 + (c + 1) = n + (c + 1 + 1) by omega]; rfl
theorem chain_all {N : Nat} {x : List UInt8} {a : UInt64} {size : Int} {W : Nat → Nat} {D : Nat → Desc} {m : Nat} (h : layW N x a size W D m) (hm : 0 < m) (tb : Desc → Nat → List Seg → Int × Nat × List Seg) (f n : Nat) (hf : m ≤ f) (l : List Seg) :
    chF N x a size tb f (W 0 : Int) [] n l = if (D (m - 1)).Flags &&& 1 = 0 then (0, n + m, l ++ genL (fun j => mkS (D j)) 0 m) else chF N x a size tb (f - m) (i16 (D (m - 1)).Next) (seenN W m) (n + m) (l ++ genL (fun j => mkS (D j)) 0 m) := by
  have := chain_run h tb (m - 1) 0 (f - m) n l (by omega)
  rw [show m - 1 + 1 = m by omega, show f - m + m = f by omega] at this
  exact this
end Go.Proofs.Ytlofegfaphijpaa

end

section
namespace Go.Proofs.Ytlofegfaphijpaa
theorem i16u16 {n : Nat} (h : n < 32768) : i16 (u16 (n : Int)) = (n : Int) := by
  unfold i16 u16
  simp only [UInt16.toNat_ofNat']
  omega
theorem plk0 {n : Nat} (h : n < 100000) : plK 0 (n : Int) = 16 * n := by
  unfold plK u64
  rw [UInt64.zero_add, UInt64.toNat_mul, UInt64.toNat_ofNat']
  simp only [UInt64.reduceToNat]
  omega
theorem at0 {n : Nat} (h : n < 100000) : ((0 : UInt64) + 16 * u64 (n : Int)).toNat = 16 * n := plk0 h
end Go.Proofs.Ytlofegfaphijpaa

end

section
namespace Go.Proofs.Ytlofegfaphijpaa
/-! numbers -/
theorem flagsPw (w m r : Bool) : (mkd (flgS w m) r false &&& 2 != 0) = w ∧ (mkd (flgS w m) r false &&& 1 != 0) = m ∧ (mkd (flgS w m) r false &&& 4 == 0) = true := by
  cases w <;> cases m <;> cases r <;> exact ⟨by decide, by decide, by decide⟩
def idW (f0 i : Nat) : Nat := (f0 + i * 11) % 64
def idB (f0 i : Nat) : Int := ((idW f0 i : Nat) : Int)
theorem idW_lt (f0 i : Nat) : idW f0 i < 64 := Nat.mod_lt _ (by decide)
theorem idW_apart (f0 : Nat) {m : Nat} (hm : m ≤ 64) : apart (idW f0) m := by
  intro i j hij hj q
  unfold idW at q
  omega
theorem idB_has (f0 x : Nat) : ∀ (k i : Nat), i + k ≤ x → x < 64 → (genL (idB f0) i k).contains (idB f0 x) = false
  | 0, _, _, _ => rfl
  | k + 1, i, h, h2 => by
    simp only [genL, List.contains_cons, idB_has f0 x k (i + 1) (by omega) h2, Bool.or_false]
    refine beq_false_of_ne ?_
    unfold idB idW; omega
theorem idB_ap (f0 : Nat) : ∀ (k i : Nat), i + k ≤ 64 → apR (genL (idB f0) 0 i) (genL (idB f0) i k) = true
  | 0, _, _ => rfl
  | k + 1, i, h => by
    rw [genL, apR, idB_has f0 i i 0 (by omega) (by omega)]
    have := idB_ap f0 k (i + 1) (by omega)
    rw [genL_snoc, Nat.zero_add] at this
    rw [this]
    have := idW_lt f0 i
    unfold idR idB
    rw [decide_eq_true (by omega), decide_eq_true (by omega)]; rfl
def idsB (f0 m : Nat) : List Int := genL (idB f0) 0 m
theorem idsB_get {f0 m i : Nat} (h : i < m) : (idsB f0 m).getD i 0 = ((idW f0 i : Nat) : Int) := by
  have := Kh (idB f0) m 0 i h
  unfold idsB
  rw [List.getD_eq_getElem?_getD, this, Nat.zero_add]; rfl
theorem idsB_ix {f0 m : Nat} (h : 0 < m) : ix (idsB f0 m) (0 : Int) = some ((idW f0 0 : Nat) : Int) := by
  have := Kh (idB f0) m 0 0 h
  exact XK (i := 0) this
/-! segments -/
theorem gen_sg (l : List Seg) : genL (sgS l) 0 l.length = l := by
  apply List.ext_getElem?
  intro i
  by_cases h : i < l.length
  · rw [Kh _ _ _ _ h, Nat.zero_add, getq h]
    unfold sgS
    simp [h]
  · rw [List.getElem?_eq_none (by rw [ZY]; omega), List.getElem?_eq_none (by omega)]
theorem mkS_dS (ids : List Int) (l : List Seg) (i : Nat) : mkS (dS ids l i) = sgS l i := by
  unfold mkS dS
  dsimp only
  rw [(flagsS _ _).1]
theorem look_full {N : Nat} {l : List Seg} (he : errB l = 0) (hi : inF N l) : lookF N l = (l, 0) := by
  obtain ⟨h1, h2⟩ := XL.1 he
  unfold lookF
  rw [if_neg (by
    rintro (q | q)
    · exact h2 q
    · exact q (errS_zero.2 h1)), if_pos hi]
theorem fl0 {f : UInt16} {b : Bool} (h : (f != 0) = b) : f = 0 ↔ b = false := by
  rw [← h]; simp
/-! parts of what is written -/
theorem rdF_in {x xs : List UInt8} {a i n : Nat} (h : a + xs.length ≤ x.length) (q : i + n ≤ xs.length) : rdF (wrF x a xs) (a + i) n = (xs.drop i).take n := by
  unfold rdF wrF
  have e : (x.take a).length = a := by rw [List.length_take]; omega
  rw [List.append_assoc, ← List.drop_drop, List.drop_left' e, List.drop_append_of_le_length (by omega), List.take_append_of_le_length (by rw [List.length_drop]; omega)]
/-! a chain of descriptors that was built -/
theorem lay_split {N : Nat} {x : List UInt8} {a : UInt64} {size : Int} {l : List Seg} {ids : List Int} {W : Nat → Nat} (hap : apart W l.length) (hr : ∀ i, i < l.length → (W i : Int) < size) (hm : ∀ i, i < l.length → plK a (W i) + 16 ≤ N) (h64 : ∀ i, i < l.length → W i < 1000)
    (hids : ∀ i, i + 1 < l.length → ids.getD (i + 1) 0 = (W (i + 1) : Int)) (hd : ∀ i, i < l.length → rdF x (plK a (W i)) 16 = bsD (dS ids l i)) : layW N x a size W (dS ids l) l.length where
  ap := hap
  rng := hr
  mem := hm
  at_ := fun i hi => dAt_bs (hd i hi)
  noT := fun i _ => by
    have := (flagsS (sgS l i).Write (decide (i + 1 < l.length))).2.2
    unfold dS
    simpa using this
  nxt := fun i hi => by
    have h1 := (flagsS (sgS l i).Write (decide (i + 1 < l.length))).2.1
    have := h64 (i + 1) hi
    unfold dS
    dsimp only
    rw [if_pos hi, hids i hi]
    refine ⟨fun q => ?_, i16u16 (by omega)⟩
    rw [decide_eq_true hi] at h1 q
    rw [q] at h1
    exact absurd h1 (by decide)
theorem chain_full {N : Nat} {x : List UInt8} {a : UInt64} {size : Int} {l : List Seg} {ids : List Int} {W : Nat → Nat} (h : layW N x a size W (dS ids l) l.length) (h0 : 0 < l.length) (tb : Desc → Nat → List Seg → Int × Nat × List Seg) (f n : Nat) (hf : l.length ≤ f) : chF N x a size tb f (W 0 : Int) [] n [] = (0, n + l.length, l) := by
  rw [chain_all h h0 tb f n hf []]
  have h1 := (flagsS (sgS l (l.length - 1)).Write (decide (l.length - 1 + 1 < l.length))).2.1
  rw [decide_eq_false (show ¬ l.length - 1 + 1 < l.length by omega)] at h1
  rw [if_pos (by
    unfold dS
    dsimp only
    rw [decide_eq_false (show ¬ l.length - 1 + 1 < l.length by omega)]
    exact (fl0 h1).2 rfl), show (fun j => mkS (dS ids l j)) = sgS l from funext fun j => mkS_dS ids l j, gen_sg]; rfl
theorem plT {i : Nat} (h : i < 64) : plK 2800 (i : Int) = 2800 + 16 * i := by
  unfold plK u64
  rw [UInt64.toNat_add, UInt64.toNat_mul, UInt64.toNat_ofNat']
  simp only [UInt64.reduceToNat]
  omega
theorem ent_tab : ∀ m : Nat, m < 65 → 1 ≤ m → entE 12000 2800 (u32 ((16 * m : Nat) : Int)) = 0 ∧ ((u32 ((16 * m : Nat) : Int)) / 16).toNat = m := by decide +kernel
def oneD (m : Nat) : Desc := ⟨2800, u32 ((16 * m : Nat) : Int), 4, 0⟩
theorem split_tab {x : List UInt8} (l : List Seg) (he : errB l = 0) (r : Rings) (hr : Kt r false 64) (w : Nat) (hw : w < 64) (ht : ∀ i, i < l.length → rdF x (2800 + 16 * i) 16 = bsD (dS (idsN l.length) l i)) (ho : rdF x (16 * w) 16 = bsD (oneD l.length)) :
    splW 12000 x r (w : Int) true = (0, 1 + l.length, l) ∧ splW 12000 x r (w : Int) false = (4, 1, []) := by
  obtain ⟨hg, hne⟩ := XL.1 he
  have h64 := hg.1
  have h0 : 0 < l.length := List.length_pos_iff.2 hne
  obtain ⟨e1, e2⟩ := ent_tab l.length (by omega) h0
  have hat : dAt x (plK 0 (w : Int)) = oneD l.length := by rw [plk0 (by omega)]; exact dAt_bs ho
  have hno : ¬ (([] : List Int).contains (w : Int) = true ∨ (w : Int) < 0 ∨ (w : Int) ≥ 64) := by
    rintro (q | q | q)
    · cases q
    · omega
    · omega
  have hpl : ¬ ¬ plK 0 (w : Int) + 16 ≤ 12000 := by rw [plk0 (by omega)]; omega
  have step : ∀ t, splW 12000 x r (w : Int) t = tabT 12000 x t (oneD l.length) 1 [] := by
    intro t
    unfold splW
    rw [hr.2.2.1, hr.2.1, show (64 : Int).toNat + 1 = 64 + 1 from rfl, chF, if_neg hno, if_neg hpl, hat, if_pos (show (oneD l.length).Flags &&& 4 ≠ 0 from (by decide : (4 : UInt16) &&& 4 ≠ 0))]
  refine ⟨(step true).trans ?_, (step false).trans ?_⟩
  · unfold tabT
    rw [if_neg (by
      rintro (q | q)
      · cases q
      · exact absurd (show (4 : UInt16) &&& 1 = 0 by decide) q), if_neg (show ¬ entE 12000 (oneD l.length).Addr (oneD l.length).Len ≠ 0 from fun q => q e1)]
    have hL : layW 12000 x 2800 (l.length : Int) (fun i => i) (dS (idsN l.length) l) l.length := lay_split (fun i j h _ => by omega) (fun i h => by omega) (fun i h => by
      rw [plT (by omega)]; omega) (fun i h => by omega) (fun i h => idsN_get h) (fun i h => by
      rw [plT (by omega)]; exact ht i h)
    have hc := chain_full hL h0 noT l.length.succ 1 (by omega)
    show chF 12000 x 2800 (i32 (u32 ((16 * l.length : Nat) : Int) / 16)) noT (u32 ((16 * l.length : Nat) : Int) / 16).toNat.succ 0 [] 1 [] = _
    rw [show i32 (u32 ((16 * l.length : Nat) : Int) / 16) = (((u32 ((16 * l.length : Nat) : Int) / 16).toNat : Nat) : Int) from rfl, e2]
    exact hc
  · unfold tabT; rw [if_pos (Or.inl rfl)]
/-! packed ones -/
theorem mkP_putP (p : Pos) (size id : Int) (l : List Seg) (i : Nat) : mkP (putP p size id l i).Desc = sgS l i := by
  unfold mkP putP
  dsimp only
  rw [(flagsPw _ _ _).1]
theorem mkP_ptS (l : List Seg) (i : Nat) : mkP (ptS l i) = sgS l i := by
  unfold mkP ptS
  dsimp only
  cases h : (sgS l i).Write with
  | true =>
    rw [if_pos rfl, show ((2 : UInt16) &&& 2 != 0) = true by decide]
    cases hs : sgS l i; rw [hs] at h; subst h; rfl
  | false =>
    rw [if_neg (by decide), show ((0 : UInt16) &&& 2 != 0) = false by decide]
    cases hs : sgS l i; rw [hs] at h; subst h; rfl
theorem pk_run {x : List UInt8} {r : Rings} (hr : Kt r true 64) (tb : Bool) (k2 k3 : Nat) (hk2 : k2 < 64) (hk3 : k3 < 64) (w : Bool) (l : List Seg) (h64 : l.length ≤ 64) (hd : ∀ i, i < l.length → rdF x (16 * ((k2 + i) % 64)) 16 = bsP (putP ⟨(k2 : Int), w⟩ 64 (k3 : Int) l i).Desc) : ∀ (c i f : Nat) (id0 : Int) (l0 : List Seg), i + c + 1 = l.length →
    pkF 12000 x r tb (f + (c + 1)) (posN 64 ⟨(k2 : Int), w⟩ i) id0 i l0 = (0, (k3 : Int), l.length, l0 ++ genL (sgS l) i (c + 1)) := by
  have hat : ∀ i, i < l.length → (posN 64 ⟨(k2 : Int), w⟩ i).At = (((k2 + i) % 64 : Nat) : Int) := by
    intro i hi
    have := posN_at k2 64 w hk2 i (by omega)
    rw [show ((64 : Nat) : Int) = 64 from rfl] at this
    rw [this]
    by_cases q : k2 + i < 64
    · rw [if_pos q]
      dsimp only
      rw [Nat.mod_eq_of_lt q]
    · rw [if_neg q]
      dsimp only
      rw [Nat.mod_eq_sub_mod (by omega), Nat.mod_eq_of_lt (by omega)]
  have hpl : ∀ i, i < l.length → plK r.Desc (posN 64 ⟨(k2 : Int), w⟩ i).At = 16 * ((k2 + i) % 64) := by
    intro i hi
    rw [hr.2.2.1, hat i hi, plk0 (by omega)]
  have hD : ∀ i, i < l.length → pAt x (plK r.Desc (posN 64 ⟨(k2 : Int), w⟩ i).At) = (putP ⟨(k2 : Int), w⟩ 64 (k3 : Int) l i).Desc := by
    intro i hi
    rw [hpl i hi]; exact pAt_bs (hd i hi)
  have h4 : ∀ i, i < l.length → ¬ (putP ⟨(k2 : Int), w⟩ 64 (k3 : Int) l i).Desc.Flags &&& 4 ≠ 0 := by
    intro i hi
    have := (flagsPw (sgS l i).Write (decide (i + 1 < l.length)) (posN 64 ⟨(k2 : Int), w⟩ i).Wrap).2.2
    unfold putP
    simpa using this
  have hid : ∀ i, i16 (putP ⟨(k2 : Int), w⟩ 64 (k3 : Int) l i).Desc.ID = (k3 : Int) := fun i => i16u16 (by omega)
  intro c
  induction c with
  | zero =>
    intro i f id0 l0 hc
    have h1 := (flagsPw (sgS l i).Write (decide (i + 1 < l.length)) (posN 64 ⟨(k2 : Int), w⟩ i).Wrap).2.1
    rw [decide_eq_false (show ¬ i + 1 < l.length by omega)] at h1
    rw [Nat.zero_add, pkF, if_neg (by rw [hpl i (by omega)]; omega), hD i (by omega), if_neg (h4 i (by omega)), if_pos (by
      unfold putP
      dsimp only
      rw [decide_eq_false (show ¬ i + 1 < l.length by omega)]
      exact (fl0 h1).2 rfl), hid, mkP_putP, show i + 1 = l.length by omega]; rfl
  | succ c ih =>
    intro i f id0 l0 hc
    have h1 := (flagsPw (sgS l i).Write (decide (i + 1 < l.length)) (posN 64 ⟨(k2 : Int), w⟩ i).Wrap).2.1
    rw [decide_eq_true (show i + 1 < l.length by omega)] at h1
    rw [show f + (c + 1 + 1) = f + (c + 1) + 1 by omega, pkF, if_neg (by rw [hpl i (by omega)]; omega), hD i (by omega), if_neg (h4 i (by omega)), if_neg (by
      unfold putP
      dsimp only
      rw [decide_eq_true (show i + 1 < l.length by omega)]
      exact fun q => absurd ((fl0 h1).1 q) (by decide)), hid, mkP_putP, hr.2.1, show goP 64 (posN 64 ⟨(k2 : Int), w⟩ i) = posN 64 ⟨(k2 : Int), w⟩ (i + 1) from rfl, ih (i + 1) f _ _ (by omega), genL, List.append_assoc]; rfl
theorem pk_chain {x : List UInt8} {r : Rings} (hr : Kt r true 64) (tb : Bool) (k2 k3 : Nat) (hk2 : k2 < 64) (hk3 : k3 < 64) (w : Bool) (l : List Seg) (he : errB l = 0) (hi : inF 12000 l) (hd : ∀ i, i < l.length → rdF x (16 * ((k2 + i) % 64)) 16 = bsP (putP ⟨(k2 : Int), w⟩ 64 (k3 : Int) l i).Desc) :
    pakR 12000 x r ⟨(k2 : Int), w⟩ tb = (⟨(k3 : Int), (l.length : Int), l⟩, 0) := by
  obtain ⟨hg, hne⟩ := XL.1 he
  have h64 := hg.1
  have h0 : 0 < l.length := List.length_pos_iff.2 hne
  have h1 := pk_run hr tb k2 k3 hk2 hk3 w l h64 hd (l.length - 1) 0 (64 - l.length) 0 [] (by omega)
  rw [show 64 - l.length + (l.length - 1 + 1) = 64 by omega, show l.length - 1 + 1 = l.length by omega, List.nil_append, gen_sg] at h1
  unfold pakR pakW
  rw [hr.2.1, if_pos ⟨⟨by decide, by decide⟩, by dsimp only; omega, by dsimp only; omega⟩]
  rw [show (64 : Int).toNat = 64 from rfl]
  rw [show posN 64 ⟨(k2 : Int), w⟩ 0 = ⟨(k2 : Int), w⟩ from rfl] at h1
  rw [h1]
  unfold finP
  dsimp only
  rw [if_neg (by decide), if_neg (by omega), look_full he hi, if_neg (show ¬ (0 : Int) ≠ 0 by decide)]
theorem wi_run {x : List UInt8} (a : UInt64) (l : List Seg) (h : ∀ j, j < l.length → pAt x (plK a (j : Int)) = ptS l j) : ∀ (c i : Nat) (l0 : List Seg), i + c = l.length → wiF x a c i l0 = (0, l0 ++ genL (sgS l) i c)
  | 0, i, l0, _ => by simp [wiF, genL]
  | c + 1, i, l0, hc => by
    rw [wiF, h i (by omega), if_neg (by
      unfold ptS
      dsimp only
      cases (sgS l i).Write <;> decide), mkP_ptS, wi_run a l h c (i + 1) _ (by omega), genL, List.append_assoc]; rfl
def onePk (m k3 : Nat) (w : Bool) : Packed := ⟨2800, u32 ((16 * m : Nat) : Int), u16 (k3 : Int), mkd 4 w false⟩
theorem mkd4 (w : Bool) : mkd 4 w false &&& 4 ≠ 0 ∧ mkd 4 w false &&& 1 = 0 := by cases w <;> decide
theorem pk_tab {x : List UInt8} {r : Rings} (hr : Kt r true 64) (k2 k3 : Nat) (hk2 : k2 < 64) (hk3 : k3 < 64) (w : Bool) (l : List Seg) (he : errB l = 0) (hi : inF 12000 l) (ht : ∀ i, i < l.length → rdF x (2800 + 16 * i) 16 = bsP (ptS l i)) (ho : rdF x (16 * k2) 16 = bsP (onePk l.length k3 w)) :
    pakR 12000 x r ⟨(k2 : Int), w⟩ true = (⟨(k3 : Int), 1, l⟩, 0) ∧ pakR 12000 x r ⟨(k2 : Int), w⟩ false = (⟨0, 0, []⟩, 4) := by
  obtain ⟨hg, hne⟩ := XL.1 he
  have h64 := hg.1
  have h0 : 0 < l.length := List.length_pos_iff.2 hne
  obtain ⟨e1, e2⟩ := ent_tab l.length (by omega) h0
  have hat : pAt x (plK 0 (k2 : Int)) = onePk l.length k3 w := by rw [plk0 (by omega)]; exact pAt_bs ho
  have hpl : ¬ ¬ plK 0 (k2 : Int) + 16 ≤ 12000 := by rw [plk0 (by omega)]; omega
  have hp : posOk ⟨(k2 : Int), w⟩ 64 := ⟨⟨by decide, by decide⟩, by dsimp only; omega, by dsimp only; omega⟩
  have hwi : wthF 12000 x 2800 (u32 ((16 * l.length : Nat) : Int)) [] = (0, l) := by
    unfold wthF
    rw [if_neg (show ¬ entE 12000 2800 (u32 ((16 * l.length : Nat) : Int)) ≠ 0 from fun q => q e1), e2, wi_run 2800 l (fun j hj => by
      rw [plT (by omega)]; exact pAt_bs (ht j hj)) l.length 0 [] (by omega), gen_sg]; rfl
  unfold pakR pakW
  rw [hr.2.1, if_pos hp, if_pos hp, show (64 : Int).toNat = 63 + 1 from rfl]
  have step : ∀ t, pkF 12000 x r t (63 + 1) ⟨(k2 : Int), w⟩ 0 0 [] = if t = false then (4, (k3 : Int), 1, []) else (0, (k3 : Int), 1, l) := by
    intro t
    rw [pkF, hr.2.2.1]
    dsimp only
    rw [if_neg hpl, hat, if_pos (show (onePk l.length k3 w).Flags &&& 4 ≠ 0 from (mkd4 w).1), show i16 (onePk l.length k3 w).ID = (k3 : Int) from i16u16 (by omega)]
    cases t with
    | false => rw [if_pos (Or.inl rfl), if_pos rfl]
    | true =>
      rw [if_neg (by
        rintro (q | q | q)
        · cases q
        · exact q rfl
        · exact q (mkd4 w).2), if_neg (by decide), show (onePk l.length k3 w).Addr = 2800 from rfl, show (onePk l.length k3 w).Len = u32 ((16 * l.length : Nat) : Int) from rfl, hwi]
  rw [step true, step false, if_neg (by decide), if_pos rfl]
  unfold finP
  dsimp only
  rw [if_neg (by decide), if_neg (by omega), look_full he hi, if_neg (show ¬ (0 : Int) ≠ 0 by decide), if_pos (by decide)]
  exact ⟨rfl, rfl⟩
/-! the law -/
theorem w1 {x xs : List UInt8} (hx : Xv 12000 x) (a : UInt64) (h : a.toNat + xs.length ≤ 12000) : Zq ⟨rg 12000, [x]⟩ a xs = some (0, [wrF x a.toNat xs]) ∧ Xv 12000 (wrF x a.toNat xs) :=
  ⟨write1_eq hx a xs (show a.toNat + xs.length ≤ (12000 : UInt64).toNat from h), wrF_ok hx (show a.toNat + xs.length ≤ (12000 : UInt64).toNat from h)⟩
theorem wPk {x : List UInt8} (hx : Xv 12000 x) {r : Rings} (h : Kt r true 64) (p : Pos) (t : Bool) : YR ⟨rg 12000, [x]⟩ r p t = some (pakR 12000 x r p t) := wPacked_eq hx h (by decide) (by decide) p t
theorem wSp {x : List UInt8} (hx : Xv 12000 x) {r : Rings} (h : Kt r false 64) (k : Int) (t : Bool) : Yf ⟨rg 12000, [x]⟩ r k t = some (splR 12000 x r k t) := wSplit_eq hx h (by decide) (by decide) k t
theorem wRd {x : List UInt8} (hx : Xv 12000 x) {r : Rings} (h : Kt r false 64) (k : Int) (t : Bool) : walk_Reads ⟨rg 12000, [x]⟩ r k t = some (((splW 12000 x r k t).2.1 : Nat) : Int) := wReads_eq hx h (by decide) (by decide) k t
theorem tkn (a b : Taken) (h : a = b) (h64 : b.Segs.length ≤ 64) : Jd a b = some true := by subst h; exact taken_eq a h64
theorem back_fin4 (l : List Seg) (he : errB l = 0) (hi : inF 12000 l) (x0 : List (List UInt8)) (k2 k3 : Nat) (hk2 : k2 < 64) (hk3 : k3 < 64) (w : Bool) (r : Rings) (hr : Kt r true 64) (x : List UInt8) (hx : Xv 12000 x) (hd : ∀ i, i < l.length → rdF x (16 * ((k2 + i) % 64)) 16 = bsP (putP ⟨(k2 : Int), w⟩ 64 (k3 : Int) l i).Desc) (P : List PutPacked) (hP : P.length = l.length) :
    ZT l ⟨rg 12000, x0⟩ (k3 : Int) 1 r [x] ⟨(k2 : Int), w⟩ P (l.length : Int) = some true := by
  obtain ⟨hg, hne⟩ := XL.1 he
  have h64 := hg.1
  have h0 : 0 < l.length := List.length_pos_iff.2 hne
  have hT : ptabF l = ((genL (ptS l) 0 l.length).flatMap bsP, 0) := by unfold ptabF; rw [if_neg (by simp [he])]
  have hbl : ((genL (ptS l) 0 l.length).flatMap bsP).length = 16 * l.length := by rw [flat16_len bsP Jm, ZY]
  have hone : oneP ⟨(k2 : Int), w⟩ 64 (k3 : Int) 2800 (len l) = (⟨(k2 : Int), onePk l.length k3 w⟩, 0) := by
    unfold oneP onePk
    rw [if_pos ⟨⟨⟨by decide, by decide⟩, by dsimp only; omega, by dsimp only; omega⟩, by omega, by omega, by unfold many; simp only [len]; omega⟩]
    simp only [len]
    rw [wi_in (by omega) (by omega), show 16 * (l.length : Int) = ((16 * l.length : Nat) : Int) by omega]
  have h28 : (2800 : UInt64).toNat = 2800 := rfl
  obtain ⟨a1, a2⟩ := w1 hx 2800 (xs := (genL (ptS l) 0 l.length).flatMap bsP) (by rw [hbl, h28]; omega)
  rw [h28] at a1 a2
  obtain ⟨b1, b2⟩ := w1 a2 (0 + 16 * u64 (k2 : Int)) (xs := bsP (onePk l.length k3 w)) (by rw [at0 (by omega), Jm]; omega)
  have hxl : x.length = 12000 := hx.2.2
  have hyl : (wrF x 2800 ((genL (ptS l) 0 l.length).flatMap bsP)).length = 12000 := a2.2.2
  rw [at0 (by omega)] at b1 b2
  have ht : ∀ i, i < l.length → rdF (wrF (wrF x 2800 ((genL (ptS l) 0 l.length).flatMap bsP)) (16 * k2) (bsP (onePk l.length k3 w))) (2800 + 16 * i) 16 = bsP (ptS l i) := by
    intro i hi2
    rw [rdF_off (by rw [hyl, Jm]; omega) (by rw [Jm]; omega), rdF_in (by rw [hbl, hxl]; omega) (by rw [hbl]; omega), flat16_at bsP Jm _ i (by rw [ZY]; exact hi2)]
    have := Kh (ptS l) l.length 0 i hi2
    obtain ⟨_, q⟩ := List.getElem?_eq_some_iff.1 this
    rw [q, Nat.zero_add]
  have ho : rdF (wrF (wrF x 2800 ((genL (ptS l) 0 l.length).flatMap bsP)) (16 * k2) (bsP (onePk l.length k3 w))) (16 * k2) 16 = bsP (onePk l.length k3 w) := by
    have := rdF_on (x := wrF x 2800 ((genL (ptS l) 0 l.length).flatMap bsP)) (xs := bsP (onePk l.length k3 w)) (a := 16 * k2) (by rw [hyl, Jm]; omega)
    rw [Jm] at this; exact this
  obtain ⟨c1, c2⟩ := pk_tab hr k2 k3 hk2 hk3 w l he hi ht ho
  have c0 := pk_chain (x := x) hr false k2 k3 hk2 hk3 w l he hi hd
  unfold ZT XI
  rw [bN (by simp only [len]; omega), oS (wPk hx hr _ _), oS (ptab_eq l), oS (onep_eqB _ _ _ _ _), hT, hone, oS a1]
  dsimp only
  rw [oS (refBytesP _), hr.2.2.1, oS b1]
  dsimp only
  rw [oS (wPk b2 hr _ _), oS (wPk b2 hr _ _), c0, c1, c2]
  dsimp only
  rw [cE rfl, cE rfl, cE rfl, oS (show Jd ⟨(k3 : Int), (l.length : Int), l⟩ ⟨(k3 : Int), len l, l⟩ = some true from tkn _ _ rfl h64), chkT, oS (show Jd ⟨(k3 : Int), 1, l⟩ ⟨(k3 : Int), 1, l⟩ = some true from tkn _ _ rfl h64), chkT]
theorem backL4 (l : List Seg) (he : errB l = 0) (hi : inF 12000 l) (x0 : List (List UInt8)) (k2 k3 : Nat) (hk2 : k2 < 64) (hk3 : k3 < 64) (w : Bool) (r : Rings) (hr : Kt r true 64) : ∀ (nf i : Nat) (x : List UInt8), Xv 12000 x → i ≤ l.length → l.length - i < nf → (∀ j, j < i → rdF x (16 * ((k2 + j) % 64)) 16 = bsP (putP ⟨(k2 : Int), w⟩ 64 (k3 : Int) l j).Desc) →
    ZT l ⟨rg 12000, x0⟩ (k3 : Int) nf r [x] ⟨(k2 : Int), w⟩ (genL (putP ⟨(k2 : Int), w⟩ 64 (k3 : Int) l) 0 l.length) (i : Int) = some true
  | 0, i, _, _, _, h, _ => absurd h (Nat.not_lt_zero _)
  | nf + 1, i, x, hx, hi', hn, hd => by
    have h64 := (XL.1 he).1.1
    by_cases c : i < l.length
    · have hP : ix (genL (putP ⟨(k2 : Int), w⟩ 64 (k3 : Int) l) 0 l.length) (i : Int) = some (putP ⟨(k2 : Int), w⟩ 64 (k3 : Int) l i) := by
        have := Kh (putP ⟨(k2 : Int), w⟩ 64 (k3 : Int) l) l.length 0 i c
        rw [Nat.zero_add] at this
        exact XK this
      have hat : (putP ⟨(k2 : Int), w⟩ 64 (k3 : Int) l i).At = (((k2 + i) % 64 : Nat) : Int) := by
        have := posN_at k2 64 w hk2 i (by omega)
        rw [show ((64 : Nat) : Int) = 64 from rfl] at this
        unfold putP
        rw [this]
        by_cases q : k2 + i < 64
        · rw [if_pos q]
          dsimp only
          rw [Nat.mod_eq_of_lt q]
        · rw [if_neg q]
          dsimp only
          rw [Nat.mod_eq_sub_mod (by omega), Nat.mod_eq_of_lt (by omega)]
      obtain ⟨b1, b2⟩ := w1 hx (0 + 16 * u64 (((k2 + i) % 64 : Nat) : Int)) (xs := bsP (putP ⟨(k2 : Int), w⟩ 64 (k3 : Int) l i).Desc) (by rw [at0 (by omega), Jm]; omega)
      rw [at0 (by omega)] at b1 b2
      have hxl : x.length = 12000 := hx.2.2
      unfold ZT XI
      rw [bP (by simp only [len, ZY]; omega), oS hP, oS hP, oS (refBytesP _), hr.2.2.1, hat, oS b1, ZH (by omega)]
      refine backL4 l he hi x0 k2 k3 hk2 hk3 w r hr nf (i + 1) _ b2 (by omega) (by omega) (fun j hj => ?_)
      by_cases e : j = i
      · rw [e]
        have := rdF_on (x := x) (xs := bsP (putP ⟨(k2 : Int), w⟩ 64 (k3 : Int) l i).Desc) (a := 16 * ((k2 + i) % 64)) (by rw [hxl, Jm]; omega)
        rw [Jm] at this; exact this
      · rw [rdF_off (by rw [hxl, Jm]; omega) (by rw [Jm]; omega)]
        exact hd j (by omega)
    · have e : i = l.length := by omega
      subst e
      have := back_fin4 l he hi x0 k2 k3 hk2 hk3 w r hr x hx hd (genL (putP ⟨(k2 : Int), w⟩ 64 (k3 : Int) l) 0 l.length) (ZY ..)
      unfold ZT XI at this ⊢
      rw [bN (by simp only [len, ZY]; omega)] at this ⊢
      exact this
theorem back_fin3 (l : List Seg) (he : errB l = 0) (hi : inF 12000 l) (id atp3 : Int) (w : Bool) (x0 : List (List UInt8)) (f0 : Nat) (r : Rings) (hr : Kt r false 64) (x : List UInt8) (hx : Xv 12000 x) (hd : ∀ i, i < l.length → rdF x (16 * idW f0 i) 16 = bsD (dS (idsB f0 l.length) l i)) (P : List Put) (hP : P.length = l.length) :
    ZU l id atp3 w ⟨rg 12000, x0⟩ 1 r [x] (idsB f0 l.length) P (l.length : Int) = some true := by
  obtain ⟨hg, hne⟩ := XL.1 he
  have h64 := hg.1
  have h0 : 0 < l.length := List.length_pos_iff.2 hne
  have hw0 := idW_lt f0 0
  have hT : tabF l = ((tabS l).flatMap bsD, 0) := by unfold tabF; rw [if_neg (by simp [he])]
  have hbl : ((tabS l).flatMap bsD).length = 16 * l.length := by rw [flat16_len bsD Jn]; unfold tabS; rw [ZY]
  have hone : oneS ((idW f0 0 : Nat) : Int) 2800 (len l) = (⟨((idW f0 0 : Nat) : Int), oneD l.length⟩, 0) := by
    unfold oneS oneD
    rw [if_pos ⟨⟨by omega, by omega⟩, by unfold many; simp only [len]; omega⟩]
    simp only [len]
    rw [wi_in (by omega) (by omega), show 16 * (l.length : Int) = ((16 * l.length : Nat) : Int) by omega]
  have h28 : (2800 : UInt64).toNat = 2800 := rfl
  obtain ⟨a1, a2⟩ := w1 hx 2800 (xs := (tabS l).flatMap bsD) (by rw [hbl, h28]; omega)
  rw [h28] at a1 a2
  obtain ⟨b1, b2⟩ := w1 a2 (0 + 16 * u64 ((idW f0 0 : Nat) : Int)) (xs := bsD (oneD l.length)) (by rw [at0 (by omega), Jn]; omega)
  have hxl : x.length = 12000 := hx.2.2
  have hyl : (wrF x 2800 ((tabS l).flatMap bsD)).length = 12000 := a2.2.2
  rw [at0 (by omega)] at b1 b2
  have ht : ∀ i, i < l.length → rdF (wrF (wrF x 2800 ((tabS l).flatMap bsD)) (16 * idW f0 0) (bsD (oneD l.length))) (2800 + 16 * i) 16 = bsD (dS (idsN l.length) l i) := by
    intro i hi2
    rw [rdF_off (by rw [hyl, Jn]; omega) (by rw [Jn]; omega), rdF_in (by rw [hbl, hxl]; omega) (by rw [hbl]; omega), flat16_at bsD Jn _ i (by unfold tabS; rw [ZY]; exact hi2)]
    have := Kh (dS (idsN l.length) l) l.length 0 i hi2
    obtain ⟨_, q⟩ := List.getElem?_eq_some_iff.1 this
    unfold tabS
    rw [q, Nat.zero_add]
  have ho : rdF (wrF (wrF x 2800 ((tabS l).flatMap bsD)) (16 * idW f0 0) (bsD (oneD l.length))) (16 * idW f0 0) 16 = bsD (oneD l.length) := by
    have := rdF_on (x := wrF x 2800 ((tabS l).flatMap bsD)) (xs := bsD (oneD l.length)) (a := 16 * idW f0 0) (by rw [hyl, Jn]; omega)
    rw [Jn] at this; exact this
  obtain ⟨c1, c2⟩ := split_tab l he r hr (idW f0 0) hw0 ht ho
  have hL : layW 12000 x 0 64 (idW f0) (dS (idsB f0 l.length) l) l.length := lay_split (idW_apart f0 h64) (fun i _ => by have := idW_lt f0 i; omega) (fun i _ => by
    have := idW_lt f0 i
    rw [plk0 (by omega)]; omega) (fun i _ => by have := idW_lt f0 i; omega) (fun i h => idsB_get h) (fun i h => by
    have := idW_lt f0 i
    rw [plk0 (by omega)]; exact hd i h)
  have c0 : splW 12000 x r ((idW f0 0 : Nat) : Int) false = (0, l.length, l) := by
    have := chain_full hL h0 (tabT 12000 x false) 65 0 (by omega)
    unfold splW
    rw [hr.2.2.1, hr.2.1, show (64 : Int).toNat + 1 = 65 from rfl, this, Nat.zero_add]
  have r0 : splR 12000 x r ((idW f0 0 : Nat) : Int) false = (l, 0) := by
    unfold splR; rw [c0]
    dsimp only
    rw [if_neg (by decide), look_full he hi]
  have r1 : splR 12000 (wrF (wrF x 2800 ((tabS l).flatMap bsD)) (16 * idW f0 0) (bsD (oneD l.length))) r ((idW f0 0 : Nat) : Int) true = (l, 0) := by
    unfold splR; rw [c1]
    dsimp only
    rw [if_neg (by decide), look_full he hi]
  have r2 : splR 12000 (wrF (wrF x 2800 ((tabS l).flatMap bsD)) (16 * idW f0 0) (bsD (oneD l.length))) r ((idW f0 0 : Nat) : Int) false = ([], 4) := by
    unfold splR; rw [c2]
    dsimp only
    rw [if_pos (by decide)]
  obtain ⟨q2, z, hq2, hz, e2⟩ := laid_eq (laid_packed 64 (by decide) (by decide)) [] (by simp)
  obtain ⟨k2, hk2, hk2b⟩ := pick_eq atp3 64 (by decide) (by decide)
  obtain ⟨k3, hk3, hk3b⟩ := pick_eq id 64 (by decide) (by decide)
  have hpk : packedF ⟨(k2 : Int), w⟩ 64 (k3 : Int) l = (genL (putP ⟨(k2 : Int), w⟩ 64 (k3 : Int) l) 0 l.length, 0) := by
    unfold packedF
    rw [if_neg (by simp [he]), if_neg (by
      rintro (q | q | q | q)
      · exact q ⟨⟨by decide, by decide⟩, by dsimp only; omega, by dsimp only; omega⟩
      · omega
      · omega
      · omega)]
  unfold ZU XJ
  rw [bN (by simp only [len]; omega), oS (idsB_ix h0), oS (wSp hx hr _ _), oS (stab_eq l), oS (idsB_ix h0), oS (one_eqB _ _ _), hT, hone, oS a1]
  dsimp only
  rw [oS (refBytesD _), hr.2.2.1, oS b1]
  dsimp only
  rw [oS (idsB_ix h0), oS (wSp b2 hr _ _), oS (idsB_ix h0), oS (wSp b2 hr _ _), r0, r1, r2]
  dsimp only
  rw [cnE rfl, oS (ksame_eq _ _ (by omega)), beqI, notT, notF, chkT, cnE rfl, oS (ksame_eq _ _ (by omega)), beqI, notT, notF, chkT, cnE rfl, oS (idsB_ix h0), oS (wRd b2 hr _ _), c1]
  dsimp only
  rw [cnE (by simp only [len]; rw [wi_in (by omega) (by omega)]; omega), oS (show KM 64 true [] = _ from e2)]
  dsimp only [onO]
  rw [oS (show KB atp3 64 = some (k2 : Int) from hk2), oS (show KB id 64 = some (k3 : Int) from hk3), oS (packed_eqB _ _ _ l (by omega)), hpk, notT, notF, chkT, cnE rfl]
  exact backL4 l he hi [z] k2 k3 hk2b hk3b w q2 hq2 fuel 0 z hz (by omega) (by rw [fuelS]; omega) (fun j hj => absurd hj (Nat.not_lt_zero _))
theorem backL3 (l : List Seg) (he : errB l = 0) (hi : inF 12000 l) (id atp3 : Int) (w : Bool) (x0 : List (List UInt8)) (f0 : Nat) (r : Rings) (hr : Kt r false 64) : ∀ (nf i : Nat) (x : List UInt8), Xv 12000 x → i ≤ l.length → l.length - i < nf → (∀ j, j < i → rdF x (16 * idW f0 j) 16 = bsD (dS (idsB f0 l.length) l j)) →
    ZU l id atp3 w ⟨rg 12000, x0⟩ nf r [x] (idsB f0 l.length) (genL (putS (idsB f0 l.length) l) 0 l.length) (i : Int) = some true
  | 0, i, _, _, _, h, _ => absurd h (Nat.not_lt_zero _)
  | nf + 1, i, x, hx, hi', hn, hd => by
    have h64 := (XL.1 he).1.1
    by_cases c : i < l.length
    · have hP : ix (genL (putS (idsB f0 l.length) l) 0 l.length) (i : Int) = some (putS (idsB f0 l.length) l i) := by
        have := Kh (putS (idsB f0 l.length) l) l.length 0 i c
        rw [Nat.zero_add] at this
        exact XK this
      have hat : (putS (idsB f0 l.length) l i).At = ((idW f0 i : Nat) : Int) := idsB_get c
      have hwi := idW_lt f0 i
      obtain ⟨b1, b2⟩ := w1 hx (0 + 16 * u64 ((idW f0 i : Nat) : Int)) (xs := bsD (dS (idsB f0 l.length) l i)) (by rw [at0 (by omega), Jn]; omega)
      rw [at0 (by omega)] at b1 b2
      have hxl : x.length = 12000 := hx.2.2
      unfold ZU XJ
      rw [bP (by simp only [len, ZY]; omega), oS hP, oS hP, oS (refBytesD _), hr.2.2.1, hat, show (putS (idsB f0 l.length) l i).Desc = dS (idsB f0 l.length) l i from rfl, oS b1, ZH (by omega)]
      refine backL3 l he hi id atp3 w x0 f0 r hr nf (i + 1) _ b2 (by omega) (by omega) (fun j hj => ?_)
      by_cases e : j = i
      · rw [e]
        have := rdF_on (x := x) (xs := bsD (dS (idsB f0 l.length) l i)) (a := 16 * idW f0 i) (by rw [hxl, Jn]; omega)
        rw [Jn] at this; exact this
      · rw [rdF_off (by rw [hxl, Jn]; omega) (by
          have := idW_apart f0 h64 j i (by omega) c
          rw [Jn]; omega)]
        exact hd j (by omega)
    · have e : i = l.length := by omega
      subst e
      have := back_fin3 l he hi id atp3 w x0 f0 r hr x hx hd (genL (putS (idsB f0 l.length) l) 0 l.length) (ZY ..)
      unfold ZU XJ at this ⊢
      rw [bN (by simp only [len, ZY]; omega)] at this ⊢
      exact this
theorem backL2 (l : List Seg) (he : errB l = 0) (hi : inF 12000 l) (first id atp3 : Int) (w : Bool) (x : List UInt8) (hx : Xv 12000 x) (f0 : Nat) (hf : KB first 64 = some (f0 : Int)) (hf2 : f0 < 64) (r : Rings) (hr : Kt r false 64) : ∀ (nf i : Nat), i ≤ l.length → l.length - i < nf →
    XQ l first id atp3 w ⟨rg 12000, [x]⟩ nf r (idsB f0 i) (i : Int) = some true
  | 0, i, _, h => absurd h (Nat.not_lt_zero _)
  | nf + 1, i, hi', hn => by
    have h64 := (XL.1 he).1.1
    unfold XQ Kf
    by_cases c : i < l.length
    · have w1 : wi ((i : Int) * 11) = ((i * 11 : Nat) : Int) := by rw [wi_in (by omega) (by omega)]; omega
      have w2 : wi ((f0 : Int) + ((i * 11 : Nat) : Int)) = ((f0 + i * 11 : Nat) : Int) := by rw [wi_in (by omega) (by omega)]; omega
      have hr2 : remi ((f0 + i * 11 : Nat) : Int) 64 = idB f0 i := remi_natB (f0 + i * 11) 64
      have hs : idsB f0 i ++ [idB f0 i] = idsB f0 (i + 1) := by unfold idsB; rw [genL_snoc, Nat.zero_add]
      rw [bP (by simp only [len]; omega), oS hf, w1, w2, hr2, cFits (by unfold idsB; rw [ZY]; simp; omega), ZH (by omega), hs]
      exact backL2 l he hi first id atp3 w x hx f0 hf hf2 r hr nf (i + 1) (by omega) (by omega)
    · have e : i = l.length := by omega
      subst e
      have hap := idB_ap f0 l.length 0 (by omega)
      rw [show genL (idB f0) 0 0 = [] from rfl] at hap
      have hsp : splitF (idsB f0 l.length) l = (genL (putS (idsB f0 l.length) l) 0 l.length, 0) := by
        unfold splitF
        rw [if_neg (by simp [he]), if_neg (show ¬ ((idsB f0 l.length).length ≠ l.length ∨ apR [] (idsB f0 l.length) = false) by
          rintro (q | q)
          · exact q (ZY ..)
          · unfold idsB at q; rw [hap] at q; cases q)]
      rw [bN (by simp only [len]; omega), oS (split_eqB _ l (by unfold idsB; rw [ZY]; omega)), hsp]
      exact backL3 l he hi id atp3 w [x] f0 r hr fuel 0 x hx (by omega) (by rw [fuelS]; omega) (fun j hj => absurd hj (Nat.not_lt_zero _))
theorem seg_in {s : Seg} (h1 : ¬ s.At > 12000) (h2 : ¬ s.At + s.Len.toUInt64 > 12000) : s.At.toNat + s.Len.toNat ≤ 12000 := by
  have a : ¬ (12000 : UInt64) < s.At := h1
  have b : ¬ (12000 : UInt64) < s.At + s.Len.toUInt64 := h2
  rw [UInt64.lt_iff_toNat_lt] at a b
  rw [UInt64.toNat_add, UInt32.toNat_toUInt64] at b
  have := s.Len.toNat_lt
  simp only [UInt64.reduceToNat] at a b
  omega
theorem backL1 (l : List Seg) (he : errB l = 0) (first id atp3 : Int) (w : Bool) : ∀ (nf i : Nat), i ≤ l.length → l.length - i < nf → (∀ s ∈ l.take i, s.At.toNat + s.Len.toNat ≤ 12000) →
    XR l first id atp3 w nf (i : Int) = some true
  | 0, i, _, h, _ => absurd h (Nat.not_lt_zero _)
  | nf + 1, i, hi', hn, hs => by
    have h64 := (XL.1 he).1.1
    unfold XR Kg
    by_cases c : i < l.length
    · have hx := XK (getq c)
      rw [bP (by simp only [len]; omega), oS hx]
      by_cases q1 : l[i].At < 4000
      · rw [bP q1]
      rw [bN q1, oS hx]
      by_cases q2 : l[i].At > 12000
      · rw [bP q2]
      rw [bN q2, oS hx, oS hx]
      by_cases q3 : l[i].At + l[i].Len.toUInt64 > 12000
      · rw [bP q3]
      rw [bN q3, ZH (by omega)]
      refine backL1 l he first id atp3 w nf (i + 1) (by omega) (by omega) (fun s hs2 => ?_)
      rw [List.take_succ_eq_append_getElem c, List.mem_append, List.mem_singleton] at hs2
      rcases hs2 with z | z
      · exact hs s z
      · rw [z]; exact seg_in q2 q3
    · obtain ⟨r, x, hr, hx, e⟩ := laid_eq (laid_split 6 (by decide)) [] (by simp)
      obtain ⟨f0, hf, hf2⟩ := pick_eq first 64 (by decide) (by decide)
      rw [bN (by simp only [len]; omega), oS (show KM 64 false [] = _ from e)]
      dsimp only [onO]
      rw [notT, notF, chkT]
      exact backL2 l he (fun s hs2 => hs s (by rw [List.take_of_length_le (by omega)]; exact hs2)) first id atp3 w x hx f0 hf hf2 r hr fuel 0 (by omega) (by rw [fuelS]; omega)
theorem t_law10zWalkBack (l : List Seg) (first id atp3 : Int) (wrap : Bool) : law10zWalkBack l first id atp3 wrap = some true := by
  unfold law10zWalkBack
  rw [oS lives10, notT, notF, chkT]
  by_cases h1 : len l > 100
  · rw [bP h1]
  rw [bN h1, oS (needs_eqB l true)]
  by_cases he : errB l = 0
  · have hnd : needF l true = 1 := by unfold needF; rw [if_pos he]; rfl
    rw [hnd, bF (by decide)]
    exact backL1 l he first id atp3 wrap fuel 0 (by omega) (by rw [fuelS]; have := (XL.1 he).1.1; omega) (fun s hs => by cases hs)
  · have hnd : needF l true = 0 := by unfold needF; rw [if_neg he]
    rw [hnd, bE rfl]
end Go.Proofs.Ytlofegfaphijpaa

end

/- A request that is laid down. No condition. -/
import Derived.Test.YtkmjpgfbcklopaaPuCuts
import Derived.Test.YtkmjpgfbcklopaaPuBlkBytes
namespace Go.Proofs.Ytkmjpgfbcklopaa
theorem n32' {n : Nat} (h : n ≤ 4000000000) : (UInt32.ofNat n).toNat = n := by rw [UInt32.toNat_ofNat']; omega
theorem n64' {n : Nat} (h : n ≤ 4000000000) : (UInt64.ofNat n).toNat = n := by rw [UInt64.toNat_ofNat']; omega
theorem cD' {P : Prop} [Decidable P] {ρ : Type} {k : Option ρ} (h : P) : chk (decide P) k = k := by rw [decide_eq_true h]; rfl
/-- how many bytes a request takes, its answer with it -/
def sizeQ (r : Req) : Nat := (reqB r).length + r.Room.toNat + 1
theorem size_eq (r : Req) (hd : r.Data.length ≤ 6000) (hr : r.Room ≤ 6000) : blkdrv_Size r = some (if okQ r then ((sizeQ r : Nat) : Int) else 0, if okQ r then 0 else 2) := by
  unfold blkdrv_Size
  rw [oS (blkBytes_eq r (by omega))]
  by_cases h : okQ r
  · have hl := reqB_len r
    obtain ⟨h1, h2, h3⟩ := h
    have h : okQ r := ⟨h1, h2, h3⟩
    simp only [if_pos h]
    rw [nE rfl]
    have e : wi (wi (len (reqB r) + r.Room) + 1) = ((sizeQ r : Nat) : Int) := by
      unfold sizeQ
      simp only [len]
      rw [wi_in (by rw [wi_in (by omega) (by omega)]; omega) (by rw [wi_in (by omega) (by omega)]; omega), wi_in (by omega) (by omega)]; omega
    rw [e]
  · simp only [if_neg h]
    rw [nF (by decide)]
/-- the buffer of a request, in two -/
def twoS (a n m : Nat) : List Seg := [⟨UInt64.ofNat a, UInt32.ofNat n, false⟩, ⟨UInt64.ofNat (a + n), UInt32.ofNat m, true⟩]
theorem two_good {a n m : Nat} (h1 : 0 < n) (h2 : 0 < m) (h : a + n + m ≤ 100000) : goodS (twoS a n m) := by
  have e1 := n32' (n := n) (by omega)
  have e2 := n32' (n := m) (by omega)
  have e3 := n64' (n := a) (by omega)
  have e4 := n64' (n := a + n) (by omega)
  refine ⟨by simp [twoS], ?_, ?_⟩
  · unfold twoS okS okS okS
    simp only [e1, e2, e3, e4, Bool.and_true, Bool.and_eq_true, decide_eq_true_eq]
    exact ⟨⟨by omega, by omega, fun q => by cases q⟩, by omega, by omega, fun _ => trivial⟩
  · simp only [twoS, sumS, e1, e2]; omega
theorem lay_bad {m : gmem_Mem} (a : UInt64) (r : Req) (cuts : List Int) (hd : r.Data.length ≤ 6000) (h : ¬ okQ r) : blkdrv_Lay m a r cuts = some ([], 2, m.b) := by
  unfold blkdrv_Lay
  rw [oS (blkBytes_eq r (by omega)), if_neg h, nF (by decide)]
theorem lay_far {x : List UInt8} (hx : flatOk 16384 x) (a : UInt64) (r : Req) (cuts : List Int) (hd : r.Data.length ≤ 6000) (hr : r.Room ≤ 6000) (h : okQ r) (hf : 16384 < a.toNat + sizeQ r) : blkdrv_Lay ⟨rg 16384, [x]⟩ a r cuts = some ([], 5, [x]) := by
  obtain ⟨h1, h2, h3⟩ := h
  have h : okQ r := ⟨h1, h2, h3⟩
  have hl := reqB_len r
  have e1 : u64 r.Room = UInt64.ofNat r.Room.toNat := by
    have : r.Room = ((r.Room.toNat : Nat) : Int) := by omega
    rw [this, u64_of]; rfl
  have e2 : u64 (len (reqB r)) + u64 r.Room + 1 = UInt64.ofNat (sizeQ r) := by
    rw [show len (reqB r) = (((reqB r).length : Nat) : Int) from rfl, u64_of, e1, ← UInt64.ofNat_add]
    unfold sizeQ; rw [UInt64.ofNat_add _ 1]; rfl
  have hsz : sizeQ r ≤ 100000 := by unfold sizeQ; omega
  unfold blkdrv_Lay
  rw [oS (blkBytes_eq r (by omega)), if_pos h, nE rfl]
  dsimp only
  rw [e2, oS (has_eq _ (flat_mem hx) _ _), find1, n64' (by omega), if_neg (by rintro ⟨_, q⟩; have : (16384 : UInt64).toNat = 16384 := rfl; omega)]
  rw [show (!(none : Option Nat).isSome) = true from rfl, brT]
  rfl
theorem lay_ok {x : List UInt8} (hx : flatOk 16384 x) (a : Nat) (r : Req) (cuts : List Int) (hd : r.Data.length ≤ 6000) (hr : r.Room ≤ 6000) (h : okQ r) (hf : a + sizeQ r ≤ 16384) (hc : cuts.length ≤ 1000000) :
    blkdrv_Lay ⟨rg 16384, [x]⟩ (UInt64.ofNat a) r cuts = some (cutQ (twoS a (reqB r).length (r.Room.toNat + 1)) cuts, 0, [wrF x a (reqB r ++ List.replicate (r.Room.toNat + 1) 0)]) := by
  obtain ⟨h1, h2, h3⟩ := h
  have h : okQ r := ⟨h1, h2, h3⟩
  have hl := reqB_len r
  have e1 : u64 r.Room = UInt64.ofNat r.Room.toNat := by
    have : r.Room = ((r.Room.toNat : Nat) : Int) := by omega
    rw [this, u64_of]; rfl
  have e3 : u64 (len (reqB r)) = UInt64.ofNat (reqB r).length := u64_of _
  have e2 : u64 (len (reqB r)) + u64 r.Room + 1 = UInt64.ofNat (sizeQ r) := by
    rw [e3, e1, ← UInt64.ofNat_add]
    unfold sizeQ; rw [UInt64.ofNat_add _ 1]; rfl
  have hsz : sizeQ r = (reqB r).length + r.Room.toNat + 1 := rfl
  have e4 : wi (r.Room + 1) = ((r.Room.toNat + 1 : Nat) : Int) := by rw [wi_in (by omega) (by omega)]; omega
  have e5 : (u64 (len (reqB r))).toUInt32 = UInt32.ofNat (reqB r).length := by rw [e3, to32 _ (by omega)]
  have hg := two_good (a := a) (n := (reqB r).length) (m := r.Room.toNat + 1) (by omega) (by omega) (by omega)
  have hcut := bcut_eq (twoS a (reqB r).length (r.Room.toNat + 1)) cuts hc
  rw [if_pos hg] at hcut
  unfold blkdrv_Lay
  rw [oS (blkBytes_eq r (by omega)), if_pos h, nE rfl]
  dsimp only
  rw [e2, oS (has_eq _ (flat_mem hx) _ _), find1, n64' (by omega), n64' (by omega), if_pos ⟨by omega, hf⟩]
  rw [show (!(some 0 : Option Nat).isSome) = false from rfl, brF, e5, e3, e4, u32_of, ← UInt64.ofNat_add]
  refine Eq.trans (oS hcut) ?_
  have hw := write1_eq hx (UInt64.ofNat a) (reqB r ++ List.replicate (r.Room.toNat + 1) 0) (by rw [n64' (by omega), List.length_append, List.length_replicate]; show _ ≤ 16384; omega)
  rw [n64' (by omega)] at hw
  have hlay : blkdrv_Lay_1 0 ⟨rg 16384, [x]⟩ (UInt64.ofNat a) (reqB r) r = some [wrF x a (reqB r ++ List.replicate (r.Room.toNat + 1) 0)] := by
    unfold blkdrv_Lay_1
    rw [bE rfl, e4, cD' (by omega), Int.toNat_natCast, oS hw]
  rw [oS hlay]
end Go.Proofs.Ytkmjpgfbcklopaa

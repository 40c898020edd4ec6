/- Bytes given into buffers side by side, in plain words. No condition. -/
import Derived.Test.YtdaijemhibbgeaaPuFlat
namespace Go.Proofs.Ytdaijemhibbgeaa
theorem cD {P : Prop} [Decidable P] {ρ : Type} {k : Option ρ} (h : P) : chk (decide P) k = k := by rw [decide_eq_true h]; rfl
theorem n32 {n : Nat} (h : n ≤ 4000000000) : (UInt32.ofNat n).toNat = n := by rw [UInt32.toNat_ofNat']; omega
end Go.Proofs.Ytdaijemhibbgeaa

/- Buffers side by side: how they are made, taken apart. No condition. -/
import Derived.Test.YtdaijemhibbgeaaPuCons
namespace Go.Proofs.Ytdaijemhibbgeaa
def asI (l : List Nat) : List Int := l.map fun n : Nat => (n : Int)
theorem asI_len (l : List Nat) : (asI l).length = l.length := by simp [asI]
theorem asI_get {l : List Nat} {i : Nat} (h : i < l.length) : ix (asI l) (i : Int) = some ((l[i] : Nat) : Int) := ix_nat (by simp [asI, getq h])
theorem sumL_app : ∀ a b : List Nat, sumL (a ++ b) = sumL a + sumL b
  | [], b => by simp [sumL]
  | x :: a, b => by rw [List.cons_append, sumL_c, sumL_c, sumL_app a b]; omega
theorem okL_sum : ∀ l : List Nat, okL l → sumL l ≤ 700 * l.length
  | [], _ => Nat.le_refl _
  | n :: l, h => by
    obtain ⟨h1, h2⟩ := okL_c h
    have := okL_sum l h2
    rw [sumL_c, List.length_cons]; omega
theorem rooms_take : ∀ (a k : Nat) (l : List Nat), (roomsF a l).take k = roomsF a (l.take k)
  | a, 0, l => by simp [roomsF]
  | a, k + 1, [] => by simp [roomsF]
  | a, k + 1, n :: l => by simp only [roomsF, List.take_succ_cons, rooms_take (a + n) k l]
theorem sum_split (k : Nat) (l : List Nat) : sumL (l.take k) + sumL (l.drop k) = sumL l := by
  rw [← sumL_app, List.take_append_drop]
theorem okL_take {l : List Nat} (h : okL l) (k : Nat) : okL (l.take k) := fun n hn => h n (List.mem_of_mem_take hn)
end Go.Proofs.Ytdaijemhibbgeaa

/- The functions do what the plain words say: each is walked once. No statement of the seat is proved here; no condition. -/
import Derived.Test.YtjfdamiilndgeaaWa3
namespace Go.Proofs.Ytjfdamiilndgeaa
attribute [local irreducible] sub
theorem ws_sectors_Store_Image {sp0 : sectors_Store} {b_sp0 : Nat} {vsp01 : Value} {mb_sp0 : Nat} {r : ((List UInt8) × sectors_Store)} (h : sectors_Store_Image sp0 = some r) :
  Ctr Try.prog 17 #[.pointer (some ⟨b_sp0, 0, none⟩)] [(cellsR b_sp0 71 [vsp01, .map (some mb_sp0)]), (rowS secS vsp01 sp0.l), (mapR mb_sp0 .i64 (fun x : Int => x) vSec sp0.fresh)] []
   (fun rv own shr => ∃ (w1 : Value), ∃ (w2 : Value), rv = w1 ∧ own = [(cellsR b_sp0 71 [w2, .map (some mb_sp0)]), (rowS secS w2 r.2.l), (mapR mb_sp0 .i64 (fun x : Int => x) vSec r.2.fresh)] ∧ shr = [Fact.sl u8S w1 r.1]) :=
 Ctr.sh (w_sectors_Store_Image h) (by rintro w1 _ _ ⟨_, w2, rfl, rfl, rfl⟩; exact ⟨[(cellsR b_sp0 71 [w2, .map (some mb_sp0)]), (rowS secS w2 r.2.l), (mapR mb_sp0 .i64 (fun x : Int => x) vSec r.2.fresh)], _, _, _, _, rfl, w1, w2, rfl, rfl, rfl⟩)
end Go.Proofs.Ytjfdamiilndgeaa

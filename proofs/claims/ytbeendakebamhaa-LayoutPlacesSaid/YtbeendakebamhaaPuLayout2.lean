/- Rings in plain words: places, how they are laid out. No condition. -/
import Derived.Test.YtbeendakebamhaaPuLayout
import Derived.Test.YtbeendakebamhaaPuGmem
namespace Go.Proofs.Ytbeendakebamhaa
theorem spans_eq {r : Rings} (h : szB r.Packed r.Size = true) : layout_spans r = some ⟨⟨r.Desc, UInt64.ofNat (lenX r.Size)⟩, ⟨r.Driver, UInt64.ofNat (lenY r.Packed r.Size)⟩, ⟨r.Device, UInt64.ofNat (lenZ r.Packed r.Size)⟩⟩ := by
  unfold layout_spans; rw [oS (parts_eq r)]; unfold prS; rw [if_pos h]
end Go.Proofs.Ytbeendakebamhaa

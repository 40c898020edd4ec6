/- The law DescRounds in plain words: it answers true. No condition. -/
import Derived.Test.YtihcimjfabdafaaPuDesc
namespace Go.Proofs.Ytihcimjfabdafaa
/-- what Mark makes -/
def mkd (f : UInt16) (w u : Bool) : UInt16 := (f &&& 32639) ||| (if w then 128 else 0) ||| (if w == u then 32768 else 0)
theorem mark_eq (f : UInt16) (w u : Bool) : desc_Mark f w u = some (mkd f w u) := by
  have e : f &&& ~~~32896 = f &&& 32639 := rfl
  cases w <;> cases u <;> simp [desc_Mark, desc_MarkJ1, br, mkd, e]
end Go.Proofs.Ytihcimjfabdafaa

/- The law FrameNames in plain words: it answers true. No condition. -/
import Derived.Test.YtgpggnhifkkfbaaPuSum
namespace Go.Proofs.Ytgpggnhifkkfbaa
theorem t_law23zFrameNames : law23zFrameNames = some true := by decide +kernel
end Go.Proofs.Ytgpggnhifkkfbaa

/- BorderOthers: at every map the objects that do not border, and the tags, make no difference to Segments and Check. There is no condition. -/
import Derived.Test.YtfophhmfbofjiaaGreatP6x04
namespace Go.Proofs.YtfophhmfbofjiaaGreat
theorem borderOthersHolds : Rows.BorderOthersSaid := borderOthers.over (fun _ h0 => Go.Gp.Gb.law_others h0)
end Go.Proofs.YtfophhmfbofjiaaGreat

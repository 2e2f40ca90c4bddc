/- BorderFreeMatchesReference: at every map and every segment the program's Free and the reference's Free give the same answer. There is no condition. -/
import Derived.Test.YtfophhmfbofjiaaGreatP4x05
namespace Go.Proofs.YtfophhmfbofjiaaGreat
theorem borderFreeMatchesReferenceHolds : Rows.BorderFreeMatchesReferenceSaid := borderFreeMatchesReference.over fun _ _ h0 h1 => Go.Gp.Gb.law_free h0 h1
end Go.Proofs.YtfophhmfbofjiaaGreat

/- BorderMatchesReference: at every map the program's Segments and Check give what the reference's give. There is no condition. -/
import Derived.Test.YtfophhmfbofjiaaGreatP3x05
namespace Go.Proofs.YtfophhmfbofjiaaGreat
theorem borderMatchesReferenceHolds : Rows.BorderMatchesReferenceSaid := borderMatchesReference.over fun _ h0 => Go.Gp.Gb.law_match h0
end Go.Proofs.YtfophhmfbofjiaaGreat

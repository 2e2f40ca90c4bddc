/- BorderShared: at every map, a copy of one of its ways or areas under a new Id adds no segment, is an owner just where the object is one, and adds no crossing where there was none. There is no condition. -/
import Derived.Test.YtfophhmfbofjiaaGreatP8x04
namespace Go.Proofs.YtfophhmfbofjiaaGreat
theorem borderSharedHolds : Rows.BorderSharedSaid := borderShared.over fun _ _ _ h0 h1 h2 => Go.Gp.Gb.law_shared h0 h1 h2
end Go.Proofs.YtfophhmfbofjiaaGreat

import Derived.Test.YthlchdnbokhclaaGreatQw
import Derived.Test.YthlchdnbokhclaaGreatQm1
set_option linter.all false
namespace Go.Proofs.YthlchdnbokhclaaGreat
theorem basinHeights_holds : Rows.BasinHeightsSaid := basinHeights.over Go.Proofs.YthlchdnbokhclaaGreat.Ql.basinHeights_pure
end Go.Proofs.YthlchdnbokhclaaGreat

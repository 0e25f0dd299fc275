import Derived.Test.YthlchdnbokhclaaGreatQw
import Derived.Test.YthlchdnbokhclaaGreatQm1
set_option linter.all false
namespace Go.Proofs.YthlchdnbokhclaaGreat
theorem basinNarrower_holds : Rows.BasinNarrowerSaid := basinNarrower.over Go.Proofs.YthlchdnbokhclaaGreat.Ql.basinNarrower_pure
end Go.Proofs.YthlchdnbokhclaaGreat

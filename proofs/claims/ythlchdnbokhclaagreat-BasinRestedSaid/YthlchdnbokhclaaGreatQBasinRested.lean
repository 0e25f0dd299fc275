import Derived.Test.YthlchdnbokhclaaGreatQw
import Derived.Test.YthlchdnbokhclaaGreatQm1
set_option linter.all false
namespace Go.Proofs.YthlchdnbokhclaaGreat
theorem basinRested_holds : Rows.BasinRestedSaid := basinRested.over Go.Proofs.YthlchdnbokhclaaGreat.Ql.basinRested_pure
end Go.Proofs.YthlchdnbokhclaaGreat

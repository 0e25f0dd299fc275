import Derived.Test.YthlchdnbokhclaaGreatQw
import Derived.Test.YthlchdnbokhclaaGreatQm1
set_option linter.all false
namespace Go.Proofs.YthlchdnbokhclaaGreat
theorem basinCheckSpec_holds : Rows.BasinCheckSpecSaid := basinCheckSpec.over Go.Proofs.YthlchdnbokhclaaGreat.Ql.basinCheckSpec_pure
end Go.Proofs.YthlchdnbokhclaaGreat

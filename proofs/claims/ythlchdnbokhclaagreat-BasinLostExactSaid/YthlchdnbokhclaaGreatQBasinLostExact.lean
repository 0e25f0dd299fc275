import Derived.Test.YthlchdnbokhclaaGreatQw
import Derived.Test.YthlchdnbokhclaaGreatQm1
set_option linter.all false
namespace Go.Proofs.YthlchdnbokhclaaGreat
theorem basinLostExact_holds : Rows.BasinLostExactSaid := basinLostExact.over Go.Proofs.YthlchdnbokhclaaGreat.Ql.basinLostExact_pure
end Go.Proofs.YthlchdnbokhclaaGreat

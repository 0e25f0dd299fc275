import Derived.Test.YthlchdnbokhclaaGreatQw
import Derived.Test.YthlchdnbokhclaaGreatQm1
set_option linter.all false
namespace Go.Proofs.YthlchdnbokhclaaGreat
theorem basinExact_holds : Rows.BasinExactSaid := basinExact.over Go.Proofs.YthlchdnbokhclaaGreat.Ql.basinExact_pure
end Go.Proofs.YthlchdnbokhclaaGreat

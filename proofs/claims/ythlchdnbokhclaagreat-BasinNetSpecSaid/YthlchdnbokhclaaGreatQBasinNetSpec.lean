import Derived.Test.YthlchdnbokhclaaGreatQw
import Derived.Test.YthlchdnbokhclaaGreatQm1
set_option linter.all false
namespace Go.Proofs.YthlchdnbokhclaaGreat
theorem basinNetSpec_holds : Rows.BasinNetSpecSaid := basinNetSpec.over Go.Proofs.YthlchdnbokhclaaGreat.Ql.basinNetSpec_pure
end Go.Proofs.YthlchdnbokhclaaGreat

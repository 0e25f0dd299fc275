import Derived.Test.YthlchdnbokhclaaGreatQw
import Derived.Test.YthlchdnbokhclaaGreatQm1
set_option linter.all false
namespace Go.Proofs.YthlchdnbokhclaaGreat
theorem basinFields_holds : Rows.BasinFieldsSaid := basinFields.over Go.Proofs.YthlchdnbokhclaaGreat.Ql.basinFields_pure
end Go.Proofs.YthlchdnbokhclaaGreat

import Derived.Test.YthlchdnbokhclaaGreatQw
import Derived.Test.YthlchdnbokhclaaGreatQm1
set_option linter.all false
namespace Go.Proofs.YthlchdnbokhclaaGreat
theorem basinOrder_holds : Rows.BasinOrderSaid := basinOrder.over Go.Proofs.YthlchdnbokhclaaGreat.Ql.basinOrder_pure
end Go.Proofs.YthlchdnbokhclaaGreat

import Derived.Test.YthlchdnbokhclaaGreatQw
import Derived.Test.YthlchdnbokhclaaGreatQm1
set_option linter.all false
namespace Go.Proofs.YthlchdnbokhclaaGreat
theorem basinAccused_holds : Rows.BasinAccusedSaid := basinAccused.over Go.Proofs.YthlchdnbokhclaaGreat.Ql.basinAccused_pure
end Go.Proofs.YthlchdnbokhclaaGreat

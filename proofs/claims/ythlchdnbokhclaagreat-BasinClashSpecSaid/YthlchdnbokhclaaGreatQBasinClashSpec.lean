import Derived.Test.YthlchdnbokhclaaGreatQw
import Derived.Test.YthlchdnbokhclaaGreatQm1
set_option linter.all false
namespace Go.Proofs.YthlchdnbokhclaaGreat
theorem basinClashSpec_holds : Rows.BasinClashSpecSaid := basinClashSpec.over Go.Proofs.YthlchdnbokhclaaGreat.Ql.basinClashSpec_pure
end Go.Proofs.YthlchdnbokhclaaGreat

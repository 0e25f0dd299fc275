import Derived.Test.YthlchdnbokhclaaGreatQw
import Derived.Test.YthlchdnbokhclaaGreatQm1
set_option linter.all false
namespace Go.Proofs.YthlchdnbokhclaaGreat
theorem basinRestsSpec_holds : Rows.BasinRestsSpecSaid := basinRestsSpec.over Go.Proofs.YthlchdnbokhclaaGreat.Ql.basinRestsSpec_pure
end Go.Proofs.YthlchdnbokhclaaGreat

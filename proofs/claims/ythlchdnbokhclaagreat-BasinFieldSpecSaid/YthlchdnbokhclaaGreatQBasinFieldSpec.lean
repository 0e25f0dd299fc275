import Derived.Test.YthlchdnbokhclaaGreatQw
import Derived.Test.YthlchdnbokhclaaGreatQm1
set_option linter.all false
namespace Go.Proofs.YthlchdnbokhclaaGreat
theorem basinFieldSpec_holds : Rows.BasinFieldSpecSaid := basinFieldSpec.over Go.Proofs.YthlchdnbokhclaaGreat.Ql.basinFieldSpec_pure
end Go.Proofs.YthlchdnbokhclaaGreat

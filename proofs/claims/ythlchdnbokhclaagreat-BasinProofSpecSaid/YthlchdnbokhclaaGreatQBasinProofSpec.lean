import Derived.Test.YthlchdnbokhclaaGreatQw
import Derived.Test.YthlchdnbokhclaaGreatQm1
set_option linter.all false
namespace Go.Proofs.YthlchdnbokhclaaGreat
theorem basinProofSpec_holds : Rows.BasinProofSpecSaid := basinProofSpec.over Go.Proofs.YthlchdnbokhclaaGreat.Ql.basinProofSpec_pure
end Go.Proofs.YthlchdnbokhclaaGreat

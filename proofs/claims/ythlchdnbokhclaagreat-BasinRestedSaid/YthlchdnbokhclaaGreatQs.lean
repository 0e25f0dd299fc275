import Derived.Test.YthlchdnbokhclaaGreatQt
import Derived.KernelRfl
set_option linter.all false
namespace Go.Proofs.YthlchdnbokhclaaGreat.Ql
set_option maxRecDepth 100000
theorem sane_ok:f21 4611686018427387904=some true:=by kernel_rfl
end Go.Proofs.YthlchdnbokhclaaGreat.Ql

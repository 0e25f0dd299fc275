import Derived.Test.YthlchdnbokhclaaGreatQr
import Derived.Test.YthlchdnbokhclaaGreatRows
import Derived.ProofKit
set_option linter.all false
namespace Go.Proofs.YthlchdnbokhclaaGreat.Ql
open Go Go.Proofs
set_option maxRecDepth 100000
theorem p_laid:laidOutB Tryz.prog=true:=by kernel_rfl
theorem p_maps:mapsRowed Tryz.prog=true:=by kernel_rfl
theorem p_stops:Tryz.prog.stops=[]:=by kernel_rfl
theorem p_knobs:Tryz.prog.stopKnobs=[]:=by kernel_rfl
theorem p_plain:Tryz.prog.plainKeys=false:=by kernel_rfl
theorem p_heard:Tryz.prog.stopsHeard=true:=by kernel_rfl
theorem p_may:Tryz.prog.mayEnter=true:=by kernel_rfl
theorem p_lifts:Tryz.prog.liftsFinal=false:=by kernel_rfl
theorem p_make (c:OpenClaim) (h:c.make=Go.Proofs.YthlchdnbokhclaaGreat.Rows.basinNetSpecRow.make):(Tryz.prog.make==some c.make)=true:=by
  rw [h]; kernel_rfl
end Go.Proofs.YthlchdnbokhclaaGreat.Ql

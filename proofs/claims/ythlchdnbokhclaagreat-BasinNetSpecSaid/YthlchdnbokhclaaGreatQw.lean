import Derived.Test.YthlchdnbokhclaaGreatQr
import Derived.Test.YthlchdnbokhclaaGreatQf
import Derived.Test.YthlchdnbokhclaaGreatQg7
import Derived.Test.YthlchdnbokhclaaGreatRows
import Derived.WalkKit
import Derived.ProofKit
import Derived.OpenShut
import Derived.ShutString
import Derived.ChangeOld
import Derived.Below
import Derived.SizedLaws
import Derived.Carry
set_option linter.all false
namespace Go.Proofs.YthlchdnbokhclaaGreat.basinNetSpec
open Go.ChangeShapes Go.WideShapes Go.ChangeAt Go.RowKit
open Go.Proofs.YthlchdnbokhclaaGreat.Ql (Rdr)
theorem own : ownKnob Tryz.prog.godebug = none := by kernel_rfl
theorem laidOut : laidOutB Tryz.prog = true := by kernel_rfl
def Pure : Prop := ∀ (a0 : Ql.Scene), Ql.wf30 a0 → ∃ k, Ql.f3 k a0 = some true
set_option maxRecDepth 100000 in
theorem lifted (pure : Pure) (os : Os) (started : os.Started) (H : Type) (enc : TypeId × Value → H) :
    ReturnsInHanded {} Tryz.checked os 3 .any (Rows.basinNetSpecSpec.pre6 enc Tryz.prog Tryz.f3 Rows.basinNetSpecRow.domain false) (Rows.basinNetSpecSpec.post enc Tryz.prog Tryz.f3 false true false false) := by
  refine returnsInHanded_of_change_sized (C := Tryz.checked) own started (by kernel_rfl) Tryz.func3
    (ChangeSpec.witness6 (enc := enc) (C := Tryz.checked) false ⟨#[], #[.agg #[.slice none 0 0, .slice none 0 0, .int .i64 0, .int .i64 0, .int .i64 0, .slice none 0 0, .slice none 0 0, .slice none 0 0]], []⟩ 12 (by kernel_rfl) (by kernel_rfl) (by kernel_rfl) (by kernel_rfl)) ?_
  intro W base args ds gs before hval0 hW hcnd hsz0 _
  have hval : ∀ (j : Nat) t v, Tryz.f3.params[j]? = some t → args[j]? = some v → Value.okWide Tryz.prog W .any base t v := hval0
  have hW' := hW
  obtain ⟨p, q, hA0, hV, rfl, hfz, hnd⟩ := hW
  have hA : DataW.TrodAll enc Tryz.prog W 0 (fun _ => true) true Tryz.f3.params.toList args.toList ds p := hA0
  rw [Tryz.params3] at hA hval
  obtain ⟨v0, vs0, d0, ds0, p0, q0, hargs, rfl, rfl, h0, r0⟩ := trodAll_cons hA
  obtain ⟨rfl, rfl, rfl⟩ := trodAll_nil r0
  obtain rfl : args = #[v0] := by cases args; simp_all
  obtain ⟨rfl, rfl⟩ := trodVars_none hV
  have lt0 : ∀ x ∈ p0, x.block < W.heap.size := by obtain ⟨m, hm⟩ := h0; exact DataW.trod_lt m _ _ _ hm
  have k0 := h0
  obtain ⟨fuel0, t0⟩ := h0
  obtain ⟨a0, w0, i0⟩ := Ql.rd_30 enc W _ fuel0 _ _ t0
  have o0 : ∃ cs, v0 = .agg cs := by have := (hval 0 30 v0 rfl rfl); unfold Value.okWide at this; rw [Tryz.underlying30] at this; obtain ⟨cs, e, _⟩ := this; exact ⟨cs, e⟩
  obtain ⟨cs0, rfl⟩ := o0
  have R0 : Ql.R W (fun b => False ∨ Ql.owned (fun _ => none) b) (fun _ => none) (.agg (Ql.Scene.cl a0)) (.agg cs0) := by simp only [Ql.R]; exact ⟨cs0, rfl, Ql.Rv_of_RIv _ _ (Ql.RIv_mono Ql.keeps0 _ _ i0)⟩
  obtain ⟨K, hK⟩ := pure a0 w0
  have hc := Ql.f3_ok hK
  refine (hc (fun _ => False) W (fun _ => none) _ (fun _ h => h.elim) Ql.Objs.none0 ?_).mono fun e W' he => ?_
  · simp only [Ql.Rv]
    exact ⟨_, _, rfl, R0, rfl⟩
  obtain ⟨v, κ', rfl, hF, _, hR, _⟩ := he
  have bel : Below W.heap.size W W' := ⟨hF.os, hF.tape, hF.output, hF.size, fun k hk => hF.block k hk (fun ⟨i, l, e, _⟩ => by cases e)⟩
  have hv : v = .bool true := by simpa only [Ql.R] using hR
  subst hv
  exact ⟨_, rfl, _, _, _, [], _, [], hW', trodAll_mk1 (shut_bool Tryz.underlying4 _), (trodAll_cons_mk (Below.trod laidOut (by kernel_rfl) (of_decide_eq_true (by kernel_rfl)) k0 bel lt0) trodAll_mk0), rfl, bel.frame _, fun h => by cases h⟩
set_option maxRecDepth 100000
theorem named : Tryz.pinned.checked.prog.funcNamed Rows.basinNetSpecRow.func = some 3 := by kernel_rfl
theorem j0 : Rows.basinNetSpecRow.wf (OpenSpec.ofChange Rows.basinNetSpecSpec) = true := by kernel_rfl
theorem j1 : (Tryz.f3.params.all (Tryz.prog.readableRec ·) && namedTie Tryz.prog Rows.basinNetSpecRow.named Rows.basinNetSpecSpec.vars && (Rows.basinNetSpecRow.stops == []) && (Rows.basinNetSpecRow.knobs == [])) = true := by kernel_rfl
theorem j2 : (Rows.basinNetSpecRow.inPlace == Tryz.prog.inPlace 3) = true := by kernel_rfl
theorem j3 : (Rows.basinNetSpecRow.unfollowed == Tryz.prog.unfollowed 3) = true := by kernel_rfl
theorem j4 : (Rows.basinNetSpecRow.recurses == Tryz.prog.recurses 3) = true := by kernel_rfl
theorem j5 : (Rows.basinNetSpecRow.named == Tryz.prog.varsNamed 3) = true := by kernel_rfl
theorem j6 : ((Rows.basinNetSpecRow.maps == (Tryz.f3.params.toList ++ Rows.basinNetSpecSpec.plain.varTypes Tryz.prog).any (Tryz.prog.mapsRec ·)) && (Rows.basinNetSpecRow.ifaces == (Tryz.f3.params.toList ++ Rows.basinNetSpecSpec.plain.varTypes Tryz.prog).any (Tryz.prog.ifacesRec ·)) && (Rows.basinNetSpecRow.mapsOut == Tryz.prog.mapsAmong Tryz.f3.resultTypes.toList) && (Rows.basinNetSpecRow.loops == (Tryz.f3.params.toList ++ Rows.basinNetSpecSpec.plain.varTypes Tryz.prog).any (Tryz.prog.loopsFrom ·)) && (Rows.basinNetSpecRow.wideKeys == (Tryz.f3.params.toList ++ Rows.basinNetSpecSpec.plain.varTypes Tryz.prog ++ Tryz.f3.resultTypes.toList).any (Tryz.prog.wideKeysFrom ·))) = true := by kernel_rfl
theorem j7 : (Rows.basinNetSpecSpec.vars.all (Tryz.prog.varReadable ·) && Tryz.f3.resultTypes.all (fun t => Tryz.prog.readableRec t && decide (t < Tryz.prog.types.size)) && (Rows.basinNetSpecRow.ifacesOut == Tryz.f3.resultTypes.toList.any (Tryz.prog.ifacesRec ·)) && (Rows.basinNetSpecRow.loopsOut == Tryz.f3.resultTypes.toList.any (Tryz.prog.loopsFrom ·))) = true := by kernel_rfl
theorem j8 : (!Rows.basinNetSpecRow.plainKeys && Rows.basinNetSpecRow.shortTexts.isNone && !Rows.basinNetSpecRow.lifted && (Rows.basinNetSpecRow.pinned == Rows.basinNetSpecRow.pinnedBy)) = true := by kernel_rfl
theorem j9 : Rows.basinNetSpecRow.domain.isEmpty = true := by kernel_rfl
theorem j10 : (Rows.basinNetSpecRow.kinds == []) = true := by kernel_rfl
theorem j11 : ((Rows.basinNetSpecRow.veiled == (Tryz.f3.params.toList ++ Rows.basinNetSpecSpec.plain.varTypes Tryz.prog ++ Tryz.f3.resultTypes.toList).any (Tryz.prog.veiledRec ·)) && Rows.basinNetSpecRow.veiledFits Tryz.prog Tryz.f3.params.toList (Tryz.f3.params.toList ++ Rows.basinNetSpecSpec.plain.varTypes Tryz.prog ++ Tryz.f3.resultTypes.toList)) = true := by kernel_rfl
theorem closed : joinedFacts Tryz.prog 3 Tryz.f3 Rows.basinNetSpecSpec Rows.basinNetSpecRow = true := Ql.joined Ql.p_laid Ql.p_maps Ql.p_stops Ql.p_knobs Ql.p_plain Ql.p_heard Ql.p_may Ql.p_lifts (Ql.p_make _ rfl) j0 j1 j2 j3 j4 j5 j6 j7 j8 j9 j10 j11
theorem instanced : Tryz.f3.isInstance Tryz.pinned.checked.prog Rows.basinNetSpecRow.origin Rows.basinNetSpecRow.targs := of_decide_eq_true (by kernel_rfl)
theorem wrapped : Tryz.f3.isWrapper Tryz.pinned.checked.prog Rows.basinNetSpecRow.wrapper Rows.basinNetSpecRow.mainSum := by unfold Func.isWrapper; first | (rw [if_pos (by decide +kernel)]; kernel_rfl) | (rw [if_neg (by decide +kernel)]; exact ⟨rfl, rfl⟩)
theorem over (pure : Pure) : Rows.basinNetSpecRow.holds Tryz.pinned (OpenSpec.ofChange Rows.basinNetSpecSpec) :=
  OpenClaim.holds_of_wide 3 Tryz.f3 rfl rfl rfl rfl rfl rfl rfl ⟨rfl, rfl, rfl, rfl, rfl⟩ rfl rfl rfl rfl rfl named Tryz.func3 closed
    instanced wrapped (fun os started H enc _ => lifted pure os started H enc)
end Go.Proofs.YthlchdnbokhclaaGreat.basinNetSpec

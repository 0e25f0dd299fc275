import Derived.Test.YthlchdnbokhclaaGreatQr
import Derived.Test.YthlchdnbokhclaaGreatQf
import Derived.Test.YthlchdnbokhclaaGreatQh
import Derived.Test.YthlchdnbokhclaaGreatRows
import Derived.WalkKit
import Derived.ProofKit
import Derived.OpenShut
import Derived.ShutString
import Derived.ChangeOld
import Derived.Below
import Derived.SizedLaws
import Derived.Carry
set_option linter.all false
namespace Go.Proofs.YthlchdnbokhclaaGreat.basinAccused
open Go.ChangeShapes Go.WideShapes Go.ChangeAt Go.RowKit
open Go.Proofs.YthlchdnbokhclaaGreat.Ql (Rdr)
theorem own:ownKnob Tryz.prog.godebug=none:=by kernel_rfl
theorem laidOut:laidOutB Tryz.prog=true:=by kernel_rfl
def Pure:Prop:=∀ (a0:Ql.Scene),Ql.wf30 a0→∃ k,Ql.f16 k a0=some true
set_option maxRecDepth 100000 in
theorem lifted (pure:Pure) (os:Os) (started:os.Started) (H:Type) (enc:TypeId × Value→H) :
    ReturnsInHanded {} Tryz.checked os 16 .any (Rows.basinAccusedSpec.pre6 enc Tryz.prog Tryz.f16 Rows.basinAccusedRow.domain false) (Rows.basinAccusedSpec.post enc Tryz.prog Tryz.f16 false true false false):=by
  refine returnsInHanded_of_change_sized (C:=Tryz.checked) own started (by kernel_rfl) Tryz.func16
    (ChangeSpec.witness6 (enc:=enc) (C:=Tryz.checked) false ⟨#[],#[.agg #[.slice none 0 0,.slice none 0 0,.int .i64 0,.int .i64 0,.int .i64 0,.slice none 0 0,.slice none 0 0,.slice none 0 0]],[]⟩ 12 (by kernel_rfl) (by kernel_rfl) (by kernel_rfl) (by kernel_rfl)) ?_
  intro W base args ds gs before hval0 hW hcnd hsz0 _
  have hval:∀ (j:Nat) t v,Tryz.f16.params[j]?=some t→args[j]?=some v→Value.okWide Tryz.prog W .any base t v:=hval0
  have hW':=hW
  obtain⟨p,q,hA0,hV,rfl,hfz,hnd⟩:=hW
  have hA:DataW.TrodAll enc Tryz.prog W 0 (fun _=>true) true Tryz.f16.params.toList args.toList ds p:=hA0
  rw [Tryz.params16] at hA hval
  obtain⟨v0,vs0,d0,ds0,p0,q0,hargs,rfl,rfl,h0,r0⟩:=trodAll_cons hA
  obtain⟨rfl,rfl,rfl⟩:=trodAll_nil r0
  obtain rfl:args=#[v0]:=by cases args; simp_all
  obtain⟨rfl,rfl⟩:=trodVars_none hV
  have lt0:∀ x∈p0,x.block < W.heap.size:=by obtain⟨m,hm⟩:=h0; exact DataW.trod_lt m _ _ _ hm
  have k0:=h0
  obtain⟨fuel0,t0⟩:=h0
  obtain⟨a0,w0,i0⟩:=Ql.rd_30 enc W _ fuel0 _ _ t0
  have o0:∃ cs,v0=.agg cs:=by have:=(hval 0 30 v0 rfl rfl); unfold Value.okWide at this; rw [Tryz.underlying30] at this; obtain⟨cs,e,_⟩:=this; exact⟨cs,e⟩
  obtain⟨cs0,rfl⟩:=o0
  have R0:Ql.R W (fun b=>False∨Ql.owned (fun _=>none) b) (fun _=>none) (.agg (Ql.Scene.cl a0)) (.agg cs0):=by simp only [Ql.R]; exact⟨cs0,rfl,Ql.Rv_of_RIv _ _ (Ql.RIv_mono Ql.keeps0 _ _ i0)⟩
  obtain⟨K,hK⟩:=pure a0 w0
  have hc:=Ql.f16_ok hK
  refine(hc (fun _=>False) W (fun _=>none) _ (fun _ h=>h.elim) Ql.Objs.none0 ?_).mono fun e W' he=>?_
  · simp only [Ql.Rv]
    exact⟨_,_,rfl,R0,rfl⟩
  obtain⟨v,κ',rfl,hF,_,hR,_⟩:=he
  have bel:Below W.heap.size W W':=⟨hF.os,hF.tape,hF.output,hF.size,fun k hk=>hF.block k hk (fun⟨i,l,e,_⟩=>by cases e)⟩
  have hv:v=.bool true:=by simpa only [Ql.R] using hR
  subst hv
  exact⟨_,rfl,_,_,_,[],_,[],hW',trodAll_mk1 (shut_bool Tryz.underlying4 _),(trodAll_cons_mk (Below.trod laidOut (by kernel_rfl) (of_decide_eq_true (by kernel_rfl)) k0 bel lt0) trodAll_mk0),rfl,bel.frame _,fun h=>by cases h⟩
set_option maxRecDepth 100000
theorem named:Tryz.pinned.checked.prog.funcNamed Rows.basinAccusedRow.func=some 16:=by kernel_rfl
theorem j0:Rows.basinAccusedRow.wf (OpenSpec.ofChange Rows.basinAccusedSpec)=true:=by kernel_rfl
theorem j1:(Tryz.f16.params.all (Tryz.prog.readableRec ·)&&namedTie Tryz.prog Rows.basinAccusedRow.named Rows.basinAccusedSpec.vars&&(Rows.basinAccusedRow.stops==[])&&(Rows.basinAccusedRow.knobs==[]))=true:=by kernel_rfl
theorem j2:(Rows.basinAccusedRow.inPlace==Tryz.prog.inPlace 16)=true:=by kernel_rfl
theorem j3:(Rows.basinAccusedRow.unfollowed==Tryz.prog.unfollowed 16)=true:=by kernel_rfl
theorem j4:(Rows.basinAccusedRow.recurses==Tryz.prog.recurses 16)=true:=by kernel_rfl
theorem j5:(Rows.basinAccusedRow.named==Tryz.prog.varsNamed 16)=true:=by kernel_rfl
theorem j6:((Rows.basinAccusedRow.maps==(Tryz.f16.params.toList++Rows.basinAccusedSpec.plain.varTypes Tryz.prog).any (Tryz.prog.mapsRec ·))&&(Rows.basinAccusedRow.ifaces==(Tryz.f16.params.toList++Rows.basinAccusedSpec.plain.varTypes Tryz.prog).any (Tryz.prog.ifacesRec ·))&&(Rows.basinAccusedRow.mapsOut==Tryz.prog.mapsAmong Tryz.f16.resultTypes.toList)&&(Rows.basinAccusedRow.loops==(Tryz.f16.params.toList++Rows.basinAccusedSpec.plain.varTypes Tryz.prog).any (Tryz.prog.loopsFrom ·))&&(Rows.basinAccusedRow.wideKeys==(Tryz.f16.params.toList++Rows.basinAccusedSpec.plain.varTypes Tryz.prog++Tryz.f16.resultTypes.toList).any (Tryz.prog.wideKeysFrom ·)))=true:=by kernel_rfl
theorem j7:(Rows.basinAccusedSpec.vars.all (Tryz.prog.varReadable ·)&&Tryz.f16.resultTypes.all (fun t=>Tryz.prog.readableRec t&&decide (t < Tryz.prog.types.size))&&(Rows.basinAccusedRow.ifacesOut==Tryz.f16.resultTypes.toList.any (Tryz.prog.ifacesRec ·))&&(Rows.basinAccusedRow.loopsOut==Tryz.f16.resultTypes.toList.any (Tryz.prog.loopsFrom ·)))=true:=by kernel_rfl
theorem j8:(!Rows.basinAccusedRow.plainKeys&&Rows.basinAccusedRow.shortTexts.isNone&&!Rows.basinAccusedRow.lifted&&(Rows.basinAccusedRow.pinned==Rows.basinAccusedRow.pinnedBy))=true:=by kernel_rfl
theorem j9:Rows.basinAccusedRow.domain.isEmpty=true:=by kernel_rfl
theorem j10:(Rows.basinAccusedRow.kinds==[])=true:=by kernel_rfl
theorem j11:((Rows.basinAccusedRow.veiled==(Tryz.f16.params.toList++Rows.basinAccusedSpec.plain.varTypes Tryz.prog++Tryz.f16.resultTypes.toList).any (Tryz.prog.veiledRec ·))&&Rows.basinAccusedRow.veiledFits Tryz.prog Tryz.f16.params.toList (Tryz.f16.params.toList++Rows.basinAccusedSpec.plain.varTypes Tryz.prog++Tryz.f16.resultTypes.toList))=true:=by kernel_rfl
theorem closed:joinedFacts Tryz.prog 16 Tryz.f16 Rows.basinAccusedSpec Rows.basinAccusedRow=true:=Ql.joined Ql.p_laid Ql.p_maps Ql.p_stops Ql.p_knobs Ql.p_plain Ql.p_heard Ql.p_may Ql.p_lifts (Ql.p_make _ rfl) j0 j1 j2 j3 j4 j5 j6 j7 j8 j9 j10 j11
theorem instanced:Tryz.f16.isInstance Tryz.pinned.checked.prog Rows.basinAccusedRow.origin Rows.basinAccusedRow.targs:=of_decide_eq_true (by kernel_rfl)
theorem wrapped:Tryz.f16.isWrapper Tryz.pinned.checked.prog Rows.basinAccusedRow.wrapper Rows.basinAccusedRow.mainSum:=by unfold Func.isWrapper; first | (rw [if_pos (by decide +kernel)]; kernel_rfl) | (rw [if_neg (by decide +kernel)]; exact⟨rfl,rfl⟩)
theorem over (pure:Pure):Rows.basinAccusedRow.holds Tryz.pinned (OpenSpec.ofChange Rows.basinAccusedSpec):=
  OpenClaim.holds_of_wide 16 Tryz.f16 rfl rfl rfl rfl rfl rfl rfl ⟨rfl,rfl,rfl,rfl,rfl⟩ rfl rfl rfl rfl rfl named Tryz.func16 closed
    instanced wrapped (fun os started H enc _=>lifted pure os started H enc)
end Go.Proofs.YthlchdnbokhclaaGreat.basinAccused

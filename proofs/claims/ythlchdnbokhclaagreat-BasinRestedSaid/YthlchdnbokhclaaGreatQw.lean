import Derived.Test.YthlchdnbokhclaaGreatQr
import Derived.Test.YthlchdnbokhclaaGreatQf
import Derived.Test.YthlchdnbokhclaaGreatQh
import Derived.Test.YthlchdnbokhclaaGreatRows
import Derived.WalkKit
import Derived.ProofKit
import Derived.OpenShut
import Derived.ShutString
import Derived.ChangeOld
import Derived.Below
import Derived.SizedLaws
import Derived.Carry
set_option linter.all false
namespace Go.Proofs.YthlchdnbokhclaaGreat.basinRested
open Go.ChangeShapes Go.WideShapes Go.ChangeAt Go.RowKit
open Go.Proofs.YthlchdnbokhclaaGreat.Ql (Rdr)
theorem own:ownKnob Tryz.prog.godebug=none:=by kernel_rfl
theorem laidOut:laidOutB Tryz.prog=true:=by kernel_rfl
def Pure:Prop:=∀ (a0:Ql.Scene) (a1:List Int) (a2:Int) (a3:Int),Ql.wf30 a0→Ql.wf26 a1→Ql.wf3 a2→Ql.wf3 a3→∃ k,Ql.f14 k a0 a1 a2 a3=some true
set_option maxRecDepth 100000 in
theorem lifted (pure:Pure) (os:Os) (started:os.Started) (H:Type) (enc:TypeId × Value→H) :
    ReturnsInHanded {} Tryz.checked os 14 .any (Rows.basinRestedSpec.pre6 enc Tryz.prog Tryz.f14 Rows.basinRestedRow.domain false) (Rows.basinRestedSpec.post enc Tryz.prog Tryz.f14 false true false false):=by
  refine returnsInHanded_of_change_sized (C:=Tryz.checked) own started (by kernel_rfl) Tryz.func14
    (ChangeSpec.witness6 (enc:=enc) (C:=Tryz.checked) false ⟨#[],#[.agg #[.slice none 0 0,.slice none 0 0,.int .i64 0,.int .i64 0,.int .i64 0,.slice none 0 0,.slice none 0 0,.slice none 0 0],.slice none 0 0,.int .i64 0,.int .i64 0],[]⟩ 12 (by kernel_rfl) (by kernel_rfl) (by kernel_rfl) (by kernel_rfl)) ?_
  intro W base args ds gs before hval0 hW hcnd hsz0 _
  have hval:∀ (j:Nat) t v,Tryz.f14.params[j]?=some t→args[j]?=some v→Value.okWide Tryz.prog W .any base t v:=hval0
  have hW':=hW
  obtain⟨p,q,hA0,hV,rfl,hfz,hnd⟩:=hW
  have hA:DataW.TrodAll enc Tryz.prog W 0 (fun _=>true) true Tryz.f14.params.toList args.toList ds p:=hA0
  rw [Tryz.params14] at hA hval
  obtain⟨v0,vs0,d0,ds0,p0,q0,hargs,rfl,rfl,h0,r0⟩:=trodAll_cons hA
  obtain⟨v1,vs1,d1,ds1,p1,q1,rfl,rfl,rfl,h1,r1⟩:=trodAll_cons r0
  obtain⟨v2,vs2,d2,ds2,p2,q2,rfl,rfl,rfl,h2,r2⟩:=trodAll_cons r1
  obtain⟨v3,vs3,d3,ds3,p3,q3,rfl,rfl,rfl,h3,r3⟩:=trodAll_cons r2
  obtain⟨rfl,rfl,rfl⟩:=trodAll_nil r3
  obtain rfl:args=#[v0,v1,v2,v3]:=by cases args; simp_all
  obtain⟨rfl,rfl⟩:=trodVars_none hV
  have lt0:∀ x∈p0,x.block < W.heap.size:=by obtain⟨m,hm⟩:=h0; exact DataW.trod_lt m _ _ _ hm
  have k0:=h0
  obtain⟨fuel0,t0⟩:=h0
  obtain⟨a0,w0,i0⟩:=Ql.rd_30 enc W _ fuel0 _ _ t0
  have o0:∃ cs,v0=.agg cs:=by have:=(hval 0 30 v0 rfl rfl); unfold Value.okWide at this; rw [Tryz.underlying30] at this; obtain⟨cs,e,_⟩:=this; exact⟨cs,e⟩
  obtain⟨cs0,rfl⟩:=o0
  have R0:Ql.R W (fun b=>False∨Ql.owned (fun _=>none) b) (fun _=>none) (.agg (Ql.Scene.cl a0)) (.agg cs0):=by simp only [Ql.R]; exact⟨cs0,rfl,Ql.Rv_of_RIv _ _ (Ql.RIv_mono Ql.keeps0 _ _ i0)⟩
  have lt1:∀ x∈p1,x.block < W.heap.size:=by obtain⟨m,hm⟩:=h1; exact DataW.trod_lt m _ _ _ hm
  have k1:=h1
  obtain⟨fuel1,t1⟩:=h1
  obtain⟨a1,w1,i1⟩:=Ql.rd_26 enc W _ fuel1 _ _ t1
  obtain⟨x1,l1,c1,rfl⟩:=okWide_slice Tryz.underlying26 (hval 1 26 v1 rfl rfl)
  have R1:Ql.R W (fun b=>False∨Ql.owned (fun _=>none) b) (fun _=>none) (.lst 1 (a1.map Ql.icl)) _:=Ql.R_of_RI _ _ (Ql.RI_one (Ql.RIv_mono Ql.keeps0 _ _ i1))
  have lt2:∀ x∈p2,x.block < W.heap.size:=by obtain⟨m,hm⟩:=h2; exact DataW.trod_lt m _ _ _ hm
  have k2:=h2
  obtain⟨fuel2,t2⟩:=h2
  obtain⟨a2,w2,i2⟩:=Ql.rd_3 enc W _ fuel2 _ _ t2
  obtain⟨n2,rfl⟩:=okWide_int Tryz.underlying3 (hval 2 3 v2 rfl rfl)
  have R2:Ql.R W (fun b=>False∨Ql.owned (fun _=>none) b) (fun _=>none) (Ql.Ai a2) _:=Ql.R_of_RI _ _ (Ql.RI_one (Ql.RIv_mono Ql.keeps0 _ _ i2))
  have lt3:∀ x∈p3,x.block < W.heap.size:=by obtain⟨m,hm⟩:=h3; exact DataW.trod_lt m _ _ _ hm
  have k3:=h3
  obtain⟨fuel3,t3⟩:=h3
  obtain⟨a3,w3,i3⟩:=Ql.rd_3 enc W _ fuel3 _ _ t3
  obtain⟨n3,rfl⟩:=okWide_int Tryz.underlying3 (hval 3 3 v3 rfl rfl)
  have R3:Ql.R W (fun b=>False∨Ql.owned (fun _=>none) b) (fun _=>none) (Ql.Ai a3) _:=Ql.R_of_RI _ _ (Ql.RI_one (Ql.RIv_mono Ql.keeps0 _ _ i3))
  obtain⟨K,hK⟩:=pure a0 a1 a2 a3 w0 w1 w2 w3
  have hc:=Ql.f14_ok hK
  refine(hc (fun _=>False) W (fun _=>none) _ (fun _ h=>h.elim) Ql.Objs.none0 ?_).mono fun e W' he=>?_
  · simp only [Ql.Rv]
    exact⟨_,_,rfl,R0,⟨_,_,rfl,R1,⟨_,_,rfl,R2,⟨_,_,rfl,R3,rfl⟩⟩⟩⟩
  obtain⟨v,κ',rfl,hF,_,hR,_⟩:=he
  have bel:Below W.heap.size W W':=⟨hF.os,hF.tape,hF.output,hF.size,fun k hk=>hF.block k hk (fun⟨i,l,e,_⟩=>by cases e)⟩
  have hv:v=.bool true:=by simpa only [Ql.R] using hR
  subst hv
  exact⟨_,rfl,_,_,_,[],_,[],hW',trodAll_mk1 (shut_bool Tryz.underlying4 _),(trodAll_cons_mk (Below.trod laidOut (by kernel_rfl) (of_decide_eq_true (by kernel_rfl)) k0 bel lt0) (trodAll_cons_mk (Below.trod laidOut (by kernel_rfl) (of_decide_eq_true (by kernel_rfl)) k1 bel lt1) (trodAll_cons_mk (Below.trod laidOut (by kernel_rfl) (of_decide_eq_true (by kernel_rfl)) k2 bel lt2) (trodAll_cons_mk (Below.trod laidOut (by kernel_rfl) (of_decide_eq_true (by kernel_rfl)) k3 bel lt3) trodAll_mk0)))),rfl,bel.frame _,fun h=>by cases h⟩
set_option maxRecDepth 100000
theorem named:Tryz.pinned.checked.prog.funcNamed Rows.basinRestedRow.func=some 14:=by kernel_rfl
theorem j0:Rows.basinRestedRow.wf (OpenSpec.ofChange Rows.basinRestedSpec)=true:=by kernel_rfl
theorem j1:(Tryz.f14.params.all (Tryz.prog.readableRec ·)&&namedTie Tryz.prog Rows.basinRestedRow.named Rows.basinRestedSpec.vars&&(Rows.basinRestedRow.stops==[])&&(Rows.basinRestedRow.knobs==[]))=true:=by kernel_rfl
theorem j2:(Rows.basinRestedRow.inPlace==Tryz.prog.inPlace 14)=true:=by kernel_rfl
theorem j3:(Rows.basinRestedRow.unfollowed==Tryz.prog.unfollowed 14)=true:=by kernel_rfl
theorem j4:(Rows.basinRestedRow.recurses==Tryz.prog.recurses 14)=true:=by kernel_rfl
theorem j5:(Rows.basinRestedRow.named==Tryz.prog.varsNamed 14)=true:=by kernel_rfl
theorem j6:((Rows.basinRestedRow.maps==(Tryz.f14.params.toList++Rows.basinRestedSpec.plain.varTypes Tryz.prog).any (Tryz.prog.mapsRec ·))&&(Rows.basinRestedRow.ifaces==(Tryz.f14.params.toList++Rows.basinRestedSpec.plain.varTypes Tryz.prog).any (Tryz.prog.ifacesRec ·))&&(Rows.basinRestedRow.mapsOut==Tryz.prog.mapsAmong Tryz.f14.resultTypes.toList)&&(Rows.basinRestedRow.loops==(Tryz.f14.params.toList++Rows.basinRestedSpec.plain.varTypes Tryz.prog).any (Tryz.prog.loopsFrom ·))&&(Rows.basinRestedRow.wideKeys==(Tryz.f14.params.toList++Rows.basinRestedSpec.plain.varTypes Tryz.prog++Tryz.f14.resultTypes.toList).any (Tryz.prog.wideKeysFrom ·)))=true:=by kernel_rfl
theorem j7:(Rows.basinRestedSpec.vars.all (Tryz.prog.varReadable ·)&&Tryz.f14.resultTypes.all (fun t=>Tryz.prog.readableRec t&&decide (t < Tryz.prog.types.size))&&(Rows.basinRestedRow.ifacesOut==Tryz.f14.resultTypes.toList.any (Tryz.prog.ifacesRec ·))&&(Rows.basinRestedRow.loopsOut==Tryz.f14.resultTypes.toList.any (Tryz.prog.loopsFrom ·)))=true:=by kernel_rfl
theorem j8:(!Rows.basinRestedRow.plainKeys&&Rows.basinRestedRow.shortTexts.isNone&&!Rows.basinRestedRow.lifted&&(Rows.basinRestedRow.pinned==Rows.basinRestedRow.pinnedBy))=true:=by kernel_rfl
theorem j9:Rows.basinRestedRow.domain.isEmpty=true:=by kernel_rfl
theorem j10:(Rows.basinRestedRow.kinds==[])=true:=by kernel_rfl
theorem j11:((Rows.basinRestedRow.veiled==(Tryz.f14.params.toList++Rows.basinRestedSpec.plain.varTypes Tryz.prog++Tryz.f14.resultTypes.toList).any (Tryz.prog.veiledRec ·))&&Rows.basinRestedRow.veiledFits Tryz.prog Tryz.f14.params.toList (Tryz.f14.params.toList++Rows.basinRestedSpec.plain.varTypes Tryz.prog++Tryz.f14.resultTypes.toList))=true:=by kernel_rfl
theorem closed:joinedFacts Tryz.prog 14 Tryz.f14 Rows.basinRestedSpec Rows.basinRestedRow=true:=Ql.joined Ql.p_laid Ql.p_maps Ql.p_stops Ql.p_knobs Ql.p_plain Ql.p_heard Ql.p_may Ql.p_lifts (Ql.p_make _ rfl) j0 j1 j2 j3 j4 j5 j6 j7 j8 j9 j10 j11
theorem instanced:Tryz.f14.isInstance Tryz.pinned.checked.prog Rows.basinRestedRow.origin Rows.basinRestedRow.targs:=of_decide_eq_true (by kernel_rfl)
theorem wrapped:Tryz.f14.isWrapper Tryz.pinned.checked.prog Rows.basinRestedRow.wrapper Rows.basinRestedRow.mainSum:=by unfold Func.isWrapper; first | (rw [if_pos (by decide +kernel)]; kernel_rfl) | (rw [if_neg (by decide +kernel)]; exact⟨rfl,rfl⟩)
theorem over (pure:Pure):Rows.basinRestedRow.holds Tryz.pinned (OpenSpec.ofChange Rows.basinRestedSpec):=
  OpenClaim.holds_of_wide 14 Tryz.f14 rfl rfl rfl rfl rfl rfl rfl ⟨rfl,rfl,rfl,rfl,rfl⟩ rfl rfl rfl rfl rfl named Tryz.func14 closed
    instanced wrapped (fun os started H enc _=>lifted pure os started H enc)
end Go.Proofs.YthlchdnbokhclaaGreat.basinRested

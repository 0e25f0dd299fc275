import Derived.Test.YthlchdnbokhclaaGreatQt
import Derived.Test.YthlchdnbokhclaaGreatQg1
set_option linter.all false
namespace Go.Proofs.YthlchdnbokhclaaGreat.Ql
open Go Go.Proofs
set_option maxRecDepth 100000
set_option maxHeartbeats 0
theorem f288_ok {K:Nat} {a0:Net} {a1:Int} {r:Tree_diffs × Int} (h:f288 K a0 a1=some r):CallOK Tryz.prog 288 [.agg (Net.cl a0),Ai a1] [] (.tup [.agg (Tree_diffs.cl r.1),Ai r.2]) []:=by
 refine Co Tryz.func288 z z (nl z) ?_
 unfold f288 at h
 refine Tr (Qe 1 z (Qn z z z (v:=.ptr 4 0) (x:=some (.box [.sc (.slice none 0 0),.lst 1 (([]:List Bool).map bcl),.lst 1 (([]:List Int).map icl)])) (Al_ z z zer_318 z ⟨Sub.refl _,Sub.nil _,Sub.nil _,u0⟩) z z z z z (Qd z (Tn (Eg 4 0 900000400 3 1 (cells':=[.hnd 900000400,.lst 1 (([]:List Bool).map bcl),.lst 1 (([]:List Int).map icl)]) z z z z) (Ts (Tr (Qe 1 z (Q1 z z z (v:=.agg (Plain_diffs.cl (⟨a0⟩:Plain_diffs))) (Ab_ z zer_322 (bld plc_322 zer_322) z ⟨Sub.refl _,Sub.refl _,u0⟩) (Q1 z z z (v:=.ifc 322 (.agg (Plain_diffs.cl (⟨a0⟩:Plain_diffs)))) (Ax.ifc' z nif_322 z) ?_)))))))))
 obtain⟨⟨x15_0,x15_1,x15_2⟩,hc,h⟩:=bs h
 refine Qc z z z (args:=[.ifc 322 (.fz (.agg (Plain_diffs.cl (⟨a0⟩:Plain_diffs))))]) (r:=.tup [.lst 1 (x15_0.map icl),.agg (Tree_diffs.cl x15_1),Ai x15_2]) (calw z z fnok_251 ⟨Sub.fz z,u0⟩) (f251_ok ⟨⟨386,fnok_386,meth_322_386,fun _ hr=>(f386_ok (K:=K) hr).fz1⟩,⟨387,fnok_387,meth_322_387,fun _ hr=>(f387_ok (K:=K) hr).fz1⟩,z,z⟩ hc) z (Qe 4 z (Qn z z z (v:=.ptr 7 0) (x:=some (.box (Tree_diffs.cl (⟨([]:List Int),([]:List Bool),([]:List Int)⟩:Tree_diffs)))) (Al_ z z zer_318 z ⟨Sub.nil _,Sub.nil _,Sub.nil _,u0⟩) z z z z z (Qe 1 z (Qs z z (x:=some (.box (Tree_diffs.cl x15_1))) (As z siz_318 z z z z z z z) (Qd z (Tp z (Tc (b:=(decide (x15_2≥0))) z (fun hb=>?_) (fun hb=>?_))))))))
 ·have h:=cq hb h
  refine Tr (Q1 z z z (v:=.agg [.sc (.slice none 0 0),.lst 1 (([]:List Bool).map bcl),.lst 1 (([]:List Int).map icl)]) (Ab_ z zer_318 (bld plc_318 zer_318) z ⟨Sub.refl _,Sub.nil _,Sub.nil _,u0⟩) (Qs z z (x:=some (.box [.sc (.slice none 0 0),.lst 1 (([]:List Bool).map bcl),.lst 1 (([]:List Int).map icl)])) (As z siz_318 z z z z z z z) (Qd z (Tn (Eg 4 0 901000400 3 1 (cells':=[.hnd 901000400,.lst 1 (([]:List Bool).map bcl),.lst 1 (([]:List Int).map icl)]) z z z z) (Te ?_)))))
  refine RetQ.eq2 (fun r=>.tup [.agg (Tree_diffs.cl r.1),Ai r.2]) (fun r=>[]) (Option.some.inj h) ?_
  exact RetQ.mk (vs:=[.agg [.hnd 901000400,.lst 1 (([]:List Bool).map bcl),.lst 1 (([]:List Int).map icl)],Ai 41]) (.inr z) ⟨_,_,z,.cell_box z siz_318 z z z,⟨_,_,z,.tmp z,z⟩⟩ [901000400] [] z z u0 (.tupV ⟨.frz (.aggV ⟨(.hnd mh z (im_flat icl_im ([]:List Int))),(.imm z),(.imm z),u0⟩) z,.rfl' z,u0⟩)
 have h:=cw hb h
 refine Tk (Tr (Qe 1 z (Q1 z z z (v:=.agg (Plain_diffs.cl (⟨a0⟩:Plain_diffs))) (Ab_ z zer_322 (bld plc_322 zer_322) z ⟨Sub.refl _,Sub.refl _,u0⟩) (Q1 z z z (v:=.ifc 322 (.agg (Plain_diffs.cl (⟨a0⟩:Plain_diffs)))) (Ax.ifc' z nif_322 z) (Qe 1 z (Q1 z z z (v:=.lst 1 (([a1]:List Int).map icl)) (Ax.sl (xs:=([a1]:List Int)) z slc_26 z z ⟨Sub.refl _,u0⟩ z icl_len icl_one icl_im) ?_))))))
 obtain⟨⟨x28_0,x28_1⟩,hc_1,h⟩:=bs h
 refine Qo [] [(3125001,.arr 3 1 (x28_0.long.map icl)),(3125002,.arr 4 1 (x28_0.has.map bcl)),(3125003,.arr 3 1 (x28_0.last.map icl))] [3125001,3125002,3125003] z z z (args:=[.ifc 322 (.fz (.agg (Plain_diffs.cl (⟨a0⟩:Plain_diffs)))),.lst 1 (([a1]:List Int).map icl)]) (r:=.tup [.agg [.hnd 3125001,.hnd 3125002,.hnd 3125003],Ai x28_1]) (calw z z fnok_311 ⟨Sub.fz z,Sub.refl _,u0⟩) (f311_fr ⟨⟨386,fnok_386,meth_322_386,fun _ hr=>(f386_ok (K:=K) hr).fz1⟩,⟨387,fnok_387,meth_322_387,fun _ hr=>(f387_ok (K:=K) hr).fz1⟩,z,z⟩ hc_1) u0 z z z z z (Qe 3 z (Qn z z z (v:=.ptr 9 0) (x:=some (.box [.sc (.slice none 0 0),.lst 1 (([]:List Bool).map bcl),.lst 1 (([]:List Int).map icl)])) (Al_ z z zer_318 z ⟨Sub.refl _,Sub.nil _,Sub.nil _,u0⟩) z z z z z (Qs z z (x:=some (.box [.hnd 3125001,.hnd 3125002,.hnd 3125003])) (As z siz_318 z z z z z z z) (Qd z (Tr (Qe 1 z (Qs z z (x:=some (.box [.hnd 3125001,.hnd 3125002,.hnd 3125003])) (As z siz_318 z z z z z z z) (Qd z (Te ?_)))))))))
 refine RetQ.eq2 (fun r=>.tup [.agg (Tree_diffs.cl r.1),Ai r.2]) (fun r=>[]) (Option.some.inj h) ?_
 exact RetQ.mk (vs:=[.agg [.hnd 3125001,.hnd 3125002,.hnd 3125003],Ai 0]) (.inr z) ⟨_,_,z,.cell_box z siz_318 z z z,⟨_,_,z,.tmp z,z⟩⟩ [3125001,3125002,3125003] [] z z u0 (.tupV ⟨.frz (.aggV ⟨(.hnd mh z (im_flat icl_im x28_0.long)),(.hnd (mt mh) z (im_flat bcl_im x28_0.has)),(.hnd (mt (mt mh)) z (im_flat icl_im x28_0.last)),u0⟩) z,.rfl' z,u0⟩)
theorem f288_fr {K:Nat} {a0:Net} {a1:Int} {r:Tree_diffs × Int} (h:f288 K a0 a1=some r):CallOK Tryz.prog 288 [.agg (Net.cl a0),Ai a1] [] (.tup [.agg [.hnd 2895001,.lst 1 (r.1.has.map bcl),.lst 1 (r.1.last.map icl)],Ai r.2]) [(2895001,.arr 3 1 (r.1.long.map icl))]:=by
 refine Co Tryz.func288 z z (nl z) ?_
 unfold f288 at h
 refine Tr (Qe 1 z (Qn z z z (v:=.ptr 4 0) (x:=some (.box [.sc (.slice none 0 0),.lst 1 (([]:List Bool).map bcl),.lst 1 (([]:List Int).map icl)])) (Al_ z z zer_318 z ⟨Sub.refl _,Sub.nil _,Sub.nil _,u0⟩) z z z z z (Qd z (Tn (Eg 4 0 900000400 3 1 (cells':=[.hnd 900000400,.lst 1 (([]:List Bool).map bcl),.lst 1 (([]:List Int).map icl)]) z z z z) (Ts (Tr (Qe 1 z (Q1 z z z (v:=.agg (Plain_diffs.cl (⟨a0⟩:Plain_diffs))) (Ab_ z zer_322 (bld plc_322 zer_322) z ⟨Sub.refl _,Sub.refl _,u0⟩) (Q1 z z z (v:=.ifc 322 (.agg (Plain_diffs.cl (⟨a0⟩:Plain_diffs)))) (Ax.ifc' z nif_322 z) ?_)))))))))
 obtain⟨⟨x15_0,x15_1,x15_2⟩,hc,h⟩:=bs h
 refine Qc z z z (args:=[.ifc 322 (.fz (.agg (Plain_diffs.cl (⟨a0⟩:Plain_diffs))))]) (r:=.tup [.lst 1 (x15_0.map icl),.agg (Tree_diffs.cl x15_1),Ai x15_2]) (calw z z fnok_251 ⟨Sub.fz z,u0⟩) (f251_ok ⟨⟨386,fnok_386,meth_322_386,fun _ hr=>(f386_ok (K:=K) hr).fz1⟩,⟨387,fnok_387,meth_322_387,fun _ hr=>(f387_ok (K:=K) hr).fz1⟩,z,z⟩ hc) z (Qe 4 z (Qn z z z (v:=.ptr 7 0) (x:=some (.box (Tree_diffs.cl (⟨([]:List Int),([]:List Bool),([]:List Int)⟩:Tree_diffs)))) (Al_ z z zer_318 z ⟨Sub.nil _,Sub.nil _,Sub.nil _,u0⟩) z z z z z (Qe 1 z (Qs z z (x:=some (.box (Tree_diffs.cl x15_1))) (As z siz_318 z z z z z z z) (Qd z (Tp z (Tc (b:=(decide (x15_2≥0))) z (fun hb=>?_) (fun hb=>?_))))))))
 ·have h:=cq hb h
  refine Tr (Q1 z z z (v:=.agg [.sc (.slice none 0 0),.lst 1 (([]:List Bool).map bcl),.lst 1 (([]:List Int).map icl)]) (Ab_ z zer_318 (bld plc_318 zer_318) z ⟨Sub.refl _,Sub.nil _,Sub.nil _,u0⟩) (Qs z z (x:=some (.box [.sc (.slice none 0 0),.lst 1 (([]:List Bool).map bcl),.lst 1 (([]:List Int).map icl)])) (As z siz_318 z z z z z z z) (Qd z (Tn (Eg 4 0 901000400 3 1 (cells':=[.hnd 901000400,.lst 1 (([]:List Bool).map bcl),.lst 1 (([]:List Int).map icl)]) z z z z) (Te ?_)))))
  refine Rr (fun r=>.tup [.agg [.hnd 2895001,.lst 1 (r.1.has.map bcl),.lst 1 (r.1.last.map icl)],Ai r.2]) (fun r=>[(2895001,.arr 3 1 (r.1.long.map icl))]) [901000400] h ?_ ?_
  ·rfl
  exact⟨im_flat icl_im ([]:List Int),u0⟩
 have h:=cw hb h
 refine Tk (Tr (Qe 1 z (Q1 z z z (v:=.agg (Plain_diffs.cl (⟨a0⟩:Plain_diffs))) (Ab_ z zer_322 (bld plc_322 zer_322) z ⟨Sub.refl _,Sub.refl _,u0⟩) (Q1 z z z (v:=.ifc 322 (.agg (Plain_diffs.cl (⟨a0⟩:Plain_diffs)))) (Ax.ifc' z nif_322 z) (Qe 1 z (Q1 z z z (v:=.lst 1 (([a1]:List Int).map icl)) (Ax.sl (xs:=([a1]:List Int)) z slc_26 z z ⟨Sub.refl _,u0⟩ z icl_len icl_one icl_im) ?_))))))
 obtain⟨⟨x28_0,x28_1⟩,hc_1,h⟩:=bs h
 refine Qo [] [(3125001,.arr 3 1 (x28_0.long.map icl)),(3125002,.arr 4 1 (x28_0.has.map bcl)),(3125003,.arr 3 1 (x28_0.last.map icl))] [3125001,3125002,3125003] z z z (args:=[.ifc 322 (.fz (.agg (Plain_diffs.cl (⟨a0⟩:Plain_diffs)))),.lst 1 (([a1]:List Int).map icl)]) (r:=.tup [.agg [.hnd 3125001,.hnd 3125002,.hnd 3125003],Ai x28_1]) (calw z z fnok_311 ⟨Sub.fz z,Sub.refl _,u0⟩) (f311_fr ⟨⟨386,fnok_386,meth_322_386,fun _ hr=>(f386_ok (K:=K) hr).fz1⟩,⟨387,fnok_387,meth_322_387,fun _ hr=>(f387_ok (K:=K) hr).fz1⟩,z,z⟩ hc_1) u0 z z z z z (Qe 3 z (Qn z z z (v:=.ptr 9 0) (x:=some (.box [.sc (.slice none 0 0),.lst 1 (([]:List Bool).map bcl),.lst 1 (([]:List Int).map icl)])) (Al_ z z zer_318 z ⟨Sub.refl _,Sub.nil _,Sub.nil _,u0⟩) z z z z z (Qs z z (x:=some (.box [.hnd 3125001,.hnd 3125002,.hnd 3125003])) (As z siz_318 z z z z z z z) (Qd z (Tr (Qe 1 z (Qs z z (x:=some (.box [.hnd 3125001,.hnd 3125002,.hnd 3125003])) (As z siz_318 z z z z z z z) (Qd z (Te ?_)))))))))
 refine RetQ.eq2 (fun r=>.tup [.agg [.hnd 2895001,.lst 1 (r.1.has.map bcl),.lst 1 (r.1.last.map icl)],Ai r.2]) (fun r=>[(2895001,.arr 3 1 (r.1.long.map icl))]) (Option.some.inj h) ?_
 exact RetQ.mk (vs:=[.agg [.hnd 3125001,.hnd 3125002,.hnd 3125003],Ai 0]) (.inr z) ⟨_,_,z,.cell_box z siz_318 z z z,⟨_,_,z,.tmp z,z⟩⟩ [3125002,3125003] [(2895001,3125001,.arr 3 1 (x28_0.long.map icl))] z z ⟨⟨_,z,.arr (im_flat icl_im x28_0.long)⟩,u0⟩ (.tupV ⟨.aggV ⟨.hnd mh,.frz (.hnd mh z (im_flat bcl_im x28_0.has)) z,.frz (.hnd (mt mh) z (im_flat icl_im x28_0.last)) z,u0⟩,.rfl' z,u0⟩)
theorem f228_ok {K:Nat} {a0:Net} {r:List Int × Int} (h:f228 K a0=some r):CallOK Tryz.prog 228 [.agg (Net.cl a0)] [] (.tup [.lst 1 (r.1.map icl),Ai r.2]) []:=by
 refine Co Tryz.func228 z z (nl z) ?_
 unfold f228 at h
 refine Tr (Qe 1 z (Qn z z z (v:=.hnd 2) (x:=some (.arr 3 1 (([]:List Int).map icl))) (Ax.nil_new 3 1 (.inr z) z) z z z z z (Qd z (Tr (Qe 1 z ?_)))))
 obtain⟨⟨x8_0,x8_1⟩,hc,h⟩:=bs h
 refine Qo [] [(2895001,.arr 3 1 (x8_0.long.map icl))] [2895001] z z z (args:=[.agg (Net.cl a0),Ai 0]) (r:=.tup [.agg [.hnd 2895001,.lst 1 (x8_0.has.map bcl),.lst 1 (x8_0.last.map icl)],Ai x8_1]) (calv z z fnok_288 z) (f288_fr hc) u0 z z z z z (Qe 3 z (Qn z z z (v:=.ptr 4 0) (x:=some (.box [.sc (.slice none 0 0),.lst 1 (([]:List Bool).map bcl),.lst 1 (([]:List Int).map icl)])) (Al_ z z zer_318 z ⟨Sub.refl _,Sub.nil _,Sub.nil _,u0⟩) z z z z z (Qs z z (x:=some (.box [.hnd 2895001,.lst 1 (x8_0.has.map bcl),.lst 1 (x8_0.last.map icl)])) (As z siz_318 z z z z z z z) (Qd z (Ts (Tp z (Tc (b:=(x8_1 != 0)) z (fun hb=>?_) (fun hb=>?_))))))))
 ·have h:=cq hb h
  refine Tr (Qe 1 z (Qn z z z (v:=.hnd 600000002) (x:=some (.arr 3 1 (([]:List Int).map icl))) (Ax.nil_new 3 1 (.inr z) z) z z z z z (Qd z (Te ?_))))
  refine RetQ.eq2 (fun r=>.tup [.lst 1 (r.1.map icl),Ai r.2]) (fun r=>[]) (Option.some.inj h) ?_
  exact RetQ.mk (vs:=[.hnd 600000002,Ai x8_1]) (.inr z) ⟨_,_,z,.tmp z,⟨_,_,z,.tmp z,z⟩⟩ [600000002] [] z z u0 (.tupV ⟨.frz (.hnd mh z (im_flat icl_im ([]:List Int))) z,.rfl' z,u0⟩)
 have h:=cw hb h
 refine Tk (Ts (Tr (Qe 2 z ?_)))
 obtain⟨x16,hc_1,h⟩:=bs h
 refine Qc z z z (args:=[.lst 1 (x8_0.has.map bcl),Ab false]) (r:=Ab x16) (calv z z fnok_297 z) (f297_ok hc_1) z (Rx (Tc (b:=x16) z (fun hb_1=>?_) (fun hb_1=>?_)))
 ·have h:=cq hb_1 h
  refine Tr (Qn z z z (v:=.hnd 600010002) (x:=some (.arr 3 1 (([]:List Int).map icl))) (Ax.nil_new 3 1 (.inr z) z) z z z z z (Qd z (Te ?_)))
  refine RetQ.eq2 (fun r=>.tup [.lst 1 (r.1.map icl),Ai r.2]) (fun r=>[]) (Option.some.inj h) ?_
  exact RetQ.mk (vs:=[.hnd 600010002,Ai 42]) (.inr z) ⟨_,_,z,.tmp z,⟨_,_,z,.tmp z,z⟩⟩ [600010002] [] z z u0 (.tupV ⟨.frz (.hnd mh z (im_flat icl_im ([]:List Int))) z,.rfl' z,u0⟩)
 have h:=cw hb_1 h
 refine Tk (Tp z (Te ?_))
 refine RetQ.eq2 (fun r=>.tup [.lst 1 (r.1.map icl),Ai r.2]) (fun r=>[]) (Option.some.inj h) ?_
 exact RetQ.mk (vs:=[.hnd 2895001,Ai 0]) (.inr z) ⟨_,_,z,.tmp z,⟨_,_,z,.tmp z,z⟩⟩ [2895001] [] z z u0 (.tupV ⟨.frz (.hnd mh z (im_flat icl_im x8_0.long)) z,.rfl' z,u0⟩)
theorem f228_fr {K:Nat} {a0:Net} {r:List Int × Int} (h:f228 K a0=some r):CallOK Tryz.prog 228 [.agg (Net.cl a0)] [] (.tup [.hnd 2295000,Ai r.2]) [(2295000,.arr 3 1 (r.1.map icl))]:=by
 refine Co Tryz.func228 z z (nl z) ?_
 unfold f228 at h
 refine Tr (Qe 1 z (Qn z z z (v:=.hnd 2) (x:=some (.arr 3 1 (([]:List Int).map icl))) (Ax.nil_new 3 1 (.inr z) z) z z z z z (Qd z (Tr (Qe 1 z ?_)))))
 obtain⟨⟨x8_0,x8_1⟩,hc,h⟩:=bs h
 refine Qo [] [(2895001,.arr 3 1 (x8_0.long.map icl))] [2895001] z z z (args:=[.agg (Net.cl a0),Ai 0]) (r:=.tup [.agg [.hnd 2895001,.lst 1 (x8_0.has.map bcl),.lst 1 (x8_0.last.map icl)],Ai x8_1]) (calv z z fnok_288 z) (f288_fr hc) u0 z z z z z (Qe 3 z (Qn z z z (v:=.ptr 4 0) (x:=some (.box [.sc (.slice none 0 0),.lst 1 (([]:List Bool).map bcl),.lst 1 (([]:List Int).map icl)])) (Al_ z z zer_318 z ⟨Sub.refl _,Sub.nil _,Sub.nil _,u0⟩) z z z z z (Qs z z (x:=some (.box [.hnd 2895001,.lst 1 (x8_0.has.map bcl),.lst 1 (x8_0.last.map icl)])) (As z siz_318 z z z z z z z) (Qd z (Ts (Tp z (Tc (b:=(x8_1 != 0)) z (fun hb=>?_) (fun hb=>?_))))))))
 ·have h:=cq hb h
  refine Tr (Qe 1 z (Qn z z z (v:=.hnd 600000002) (x:=some (.arr 3 1 (([]:List Int).map icl))) (Ax.nil_new 3 1 (.inr z) z) z z z z z (Qd z (Te ?_))))
  refine Rr (fun r=>.tup [.hnd 2295000,Ai r.2]) (fun r=>[(2295000,.arr 3 1 (r.1.map icl))]) [600000002] h ?_ ?_
  ·rfl
  exact⟨im_flat icl_im ([]:List Int),u0⟩
 have h:=cw hb h
 refine Tk (Ts (Tr (Qe 2 z ?_)))
 obtain⟨x16,hc_1,h⟩:=bs h
 refine Qc z z z (args:=[.lst 1 (x8_0.has.map bcl),Ab false]) (r:=Ab x16) (calv z z fnok_297 z) (f297_ok hc_1) z (Rx (Tc (b:=x16) z (fun hb_1=>?_) (fun hb_1=>?_)))
 ·have h:=cq hb_1 h
  refine Tr (Qn z z z (v:=.hnd 600010002) (x:=some (.arr 3 1 (([]:List Int).map icl))) (Ax.nil_new 3 1 (.inr z) z) z z z z z (Qd z (Te ?_)))
  refine Rr (fun r=>.tup [.hnd 2295000,Ai r.2]) (fun r=>[(2295000,.arr 3 1 (r.1.map icl))]) [600010002] h ?_ ?_
  ·rfl
  exact⟨im_flat icl_im ([]:List Int),u0⟩
 have h:=cw hb_1 h
 refine Tk (Tp z (Te ?_))
 refine Rr (fun r=>.tup [.hnd 2295000,Ai r.2]) (fun r=>[(2295000,.arr 3 1 (r.1.map icl))]) [2895001] h ?_ ?_
 ·rfl
 exact⟨imf icl_im,u0⟩
theorem f108_ok {K:Nat} {a0:Net} {r:List Int × Int} (h:f108 K a0=some r):CallOK Tryz.prog 108 [.agg (Net.cl a0)] [] (.tup [.lst 1 (r.1.map icl),Ai r.2]) []:=by
 refine Co Tryz.func108 z z (nl z) ?_
 unfold f108 at h
 refine Tr (Qe 1 z (Q1 z z z (v:=.lst 1 (([]:List Int).map icl)) (Ax.nl 1 z z) (Qd z (Ts (Tr (Qe 1 z ?_))))))
 obtain⟨x6,hc,h⟩:=bs h
 refine Qc z z z (args:=[.agg (Net.cl a0)]) (r:=Ai x6) (calv z z fnok_227 z) (f227_ok hc) z (Qd z (Tp z (Tc (b:=(x6 != 0)) z (fun hb=>?_) (fun hb=>?_))))
 ·have h:=cq hb h
  refine Tr (Qe 1 z (Q1 z z z (v:=.lst 1 (([]:List Int).map icl)) (Ax.nl 1 z z) (Qd z (Te ?_))))
  refine Rr (fun r=>.tup [.lst 1 (r.1.map icl),Ai r.2]) (fun r=>[]) [] h ?_ u0
  rfl
 have h:=cw hb h
 refine Tk (Tr (Qe 1 z ?_))
 obtain⟨⟨x11_0,x11_1⟩,hc_1,h⟩:=bs h
 refine Qc z z z (args:=[.agg (Net.cl a0)]) (r:=.tup [.lst 1 (x11_0.map icl),Ai x11_1]) (calv z z fnok_228 z) (f228_ok hc_1) z (Qd z (Te ?_))
 refine Rr (fun r=>.tup [.lst 1 (r.1.map icl),Ai r.2]) (fun r=>[]) [] h ?_ u0
 rfl
theorem f29_ok {K:Nat} {a0:Scene} {r:List (List Int) × Int} (h:f29 K a0=some r):CallOK Tryz.prog 29 [.agg (Scene.cl a0)] [] (.tup [.lst 1 (r.1.map cl26),Ai r.2]) []:=by
 refine Co Tryz.func29 z z (nl z) ?_
 unfold f29 at h
 refine Tr (Qe 1 z (Q1 z z z (v:=.lst 1 (([]:List (List Int)).map cl26)) (Ax.nl 1 z z) (Qd z (Tr (Qe 1 z ?_)))))
 obtain⟨⟨x5_0,x5_1⟩,hc,h⟩:=bs h
 refine Qc z z z (args:=[.agg (Scene.cl a0),.fn 108 []]) (r:=.tup [.lst 1 (x5_0.map cl26),Ai x5_1]) (calv z z fnok_107 z) (f107_ok fnok_108 z (fun _ _ hr=>f108_ok hr) hc) z (Qd z (Te ?_))
 refine Rr (fun r=>.tup [.lst 1 (r.1.map cl26),Ai r.2]) (fun r=>[]) [] h ?_ u0
 rfl
theorem f232_ok {K:Nat} {a0:Net} {r:Net} (h:f232 K a0=some r):CallOK Tryz.prog 232 [.agg (Net.cl a0)] [] (.agg (Net.cl r)) []:=by
 refine Co Tryz.func232 z z (nl z) ?_
 unfold f232 at h
 refine Tr (Qe 1 z (Qn z z z (v:=.ptr 2 0) (x:=some (.box (Net.cl (⟨0,([]:List Diff)⟩:Net)))) (Al_ z z zer_34 z ⟨Sub.refl _,Sub.nil _,u0⟩) z z z z z (Rx (Tr (Qe 2 z (Q1 z z z (v:=.agg [Ai a0.Nodes,.sc (.slice none 0 0)]) (Ab_ z zer_34 (bld plc_34 zer_34) z ⟨Sub.refl _,Sub.refl _,u0⟩) (Qn z z z (v:=.ptr 3 0) (x:=some (.box [Ai 0,.sc (.slice none 0 0)])) (Al_ z z zer_34 z ⟨Sub.refl _,Sub.refl _,u0⟩) z z z z z (Qs z z (x:=some (.box [Ai a0.Nodes,.sc (.slice none 0 0)])) (As z siz_34 z z z z z z z) (Rx (Tn (Eg 3 1 900000301 174 3 (cells':=[Ai a0.Nodes,.hnd 900000301]) z z z z) (Ts (Tr ?_))))))))))))
 refine Qe 2 z (Q1 z z z (Ax.ln (cl:=Diff.cl) z slc_32 z) (Qd z ?_))
 obtain⟨voo3_1_1,hj,h⟩:=bs h
 refine Tri.rngLv hj (fun p=>⟨[(2,.ptr 2 0),(3,.ptr 3 0),(10,.lst 3 (a0.Diffs.map Diff.cl)),(11,Ai (a0.Diffs.length:Int)),(12,Ai p.1)],[(2,some (.box (Net.cl (⟨0,([]:List Diff)⟩:Net)))),(900000301,some (.arr 174 3 (p.2.map Diff.cl))),(3,some (.box [Ai a0.Nodes,.hnd 900000301]))]⟩) (fun(y:List Diff)=>⟨[(2,.ptr 2 0),(3,.ptr 3 0)],[(2,some (.box (Net.cl (⟨0,([]:List Diff)⟩:Net)))),(900000301,some (.arr 174 3 (y.map Diff.cl))),(3,some (.box [Ai a0.Nodes,.hnd 900000301]))]⟩) (Ee [2,900000301,3] z ⟨im_flat Diff_im ([]:List Diff),u0⟩) ?_ ?_ ?_
 ·refine Tr (Qe 1 z (Qs z z (x:=some (.box [Ai a0.Nodes,.hnd 900000301])) (As z siz_34 z z z z z z z) (Rx (Te ?_))))
  refine RetQ.eq2 (fun r=>.agg (Net.cl r)) (fun r=>[]) (Option.some.inj h) ?_
  exact RetQ.mk (vs:=[.agg [Ai a0.Nodes,.hnd 900000301]]) (.inr z) ⟨_,_,z,.cell_box z siz_34 z z z,z⟩ [900000301] [] z z u0 (.frz (.aggV ⟨(.imm z),(.hnd mh z (im_flat Diff_im voo3_1_1)),u0⟩) z)
 ·rintro v12 voo3_1 hi h
  refine Tp z (Ts (Tc (b:=(decide (v12 < (a0.Diffs.length:Int)))) z (fun hb=>?_) (fun hb=>?_)))
  ·exact(lt_f hi hb).elim
  exact Tri.exit (Xi voo3_1 (An h (Ee [2,900000301,3] z ⟨imf Diff_im,u0⟩)))
 rintro nx x v12 voo3_1 _ hi hw hx h
 refine Tp z (Ts (Tc (b:=(decide (v12 < (a0.Diffs.length:Int)))) z (fun hb_1=>?_) (fun hb_1=>?_)))
 ·refine Tk (Ts (Tri.block (Tr (Q1 z z z (Ax.ix (cl:=Diff.cl) z slc_32 z z hx) (Qe 1 z (Qn z z z (v:=.ptr 5 0) (x:=some (.box (Diff.cl (⟨0,0,0⟩:Diff)))) (Al_ z z zer_174 z ⟨Sub.refl _,Sub.refl _,Sub.refl _,u0⟩) z z z z z (Qs z z (x:=some (.box (Diff.cl x))) (As z siz_174 z z z z z z z) (Rx (Tri.region (Qe 8 z (Q1 z z z (v:=.agg (Diff.cl (⟨x.To,x.From,x.Most⟩:Diff))) (Ab_ z zer_174 (bld plc_174 zer_174) z ⟨Sub.refl _,Sub.refl _,Sub.refl _,u0⟩) (Q1 z z z (v:=.lst 3 (([(⟨x.To,x.From,x.Most⟩:Diff)]:List Diff).map Diff.cl)) (Ax.sl (xs:=([(⟨x.To,x.From,x.Most⟩:Diff)]:List Diff)) z slc_32 z z ⟨Sub.refl _,Sub.refl _,Sub.refl _,u0⟩ z Diff_len Diff_one Diff_im) ?_))))))))))))
  obtain⟨z26,hz,h⟩:=bs h
  exact Qa z z z (v:=.hnd 26) (x:=some (.arr 174 3 (z26.map Diff.cl))) (Ax.app_l (cl:=Diff.cl) z z slc_32 z z z Diff_one Diff_im hz z z) z z z z z (Qe 1 z (Qs z z (x:=some (.box [Ai a0.Nodes,.hnd 26])) (As z siz_32 z z z z z z z) (Rx (Tq z (Xi (v12+1,z26) (An (An z h) (Es [2,26,3] [12] z ⟨imf Diff_im,u0⟩ ⟨.imm (Sub.of_eq (show Ai (v12+1)=Ai (W (v12+1)) from congrArg Ai hw.symm)) z,u0⟩)))))))
 exact(lt_t hi hb_1).elim
theorem f111_ok {K:Nat} {a0:Net} {r:List Int × Int} (h:f111 K a0=some r):CallOK Tryz.prog 111 [.agg (Net.cl a0)] [] (.tup [.lst 1 (r.1.map icl),Ai r.2]) []:=by
 refine Co Tryz.func111 z z (nl z) ?_
 unfold f111 at h
 refine Tr (Qe 1 z (Q1 z z z (v:=.lst 1 (([]:List Int).map icl)) (Ax.nl 1 z z) (Qd z (Ts (Tr (Qe 1 z ?_))))))
 obtain⟨x9,hc,h⟩:=bs h
 refine Qc z z z (args:=[.agg (Net.cl a0)]) (r:=Ai x9) (calv z z fnok_227 z) (f227_ok hc) z (Qd z (Tp z (Tc (b:=(x9 != 0)) z (fun hb=>?_) (fun hb=>?_))))
 ·have h:=cq hb h
  refine Tr (Qe 1 z (Q1 z z z (v:=.lst 1 (([]:List Int).map icl)) (Ax.nl 1 z z) (Qd z (Te ?_))))
  refine Rr (fun r=>.tup [.lst 1 (r.1.map icl),Ai r.2]) (fun r=>[]) [] h ?_ u0
  rfl
 have h:=cw hb h
 refine Tk (Tr (Qe 1 z ?_))
 obtain⟨x15,hc_1,h⟩:=bs h
 refine Qc z z z (args:=[.agg (Net.cl a0)]) (r:=.agg (Net.cl x15)) (calv z z fnok_232 z) (f232_ok hc_1) z ?_
 obtain⟨⟨x16_0,x16_1⟩,hc_2,h⟩:=bs h
 refine Qo [] [(2295000,.arr 3 1 (x16_0.map icl))] [2295000] z z z (args:=[.agg (Net.cl x15)]) (r:=.tup [.hnd 2295000,Ai x16_1]) (calv z z fnok_228 z) (f228_fr hc_2) u0 z z z z z (Qd z (Ts (Tr (Qe 1 z (Q1 z z z (Ax.lnh (cl:=icl) z slc_26 z z) (Qd z ?_))))))
 obtain⟨vo5_1,hj,h⟩:=bs h
 refine Tri.rngNv hj (fun p=>⟨[(5,.hnd 2295000),(6,Ai x16_1),(20,Ai (x16_0.length:Int)),(21,Ai p.1)],[(2295000,some (.arr 3 1 (p.2.map icl)))]⟩) (fun(y:List Int)=>⟨[(5,.hnd 2295000),(6,Ai x16_1)],[(2295000,some (.arr 3 1 (y.map icl)))]⟩) (Ee [2295000] z ⟨imf icl_im,u0⟩) ?_ ?_ ?_
 ·refine Tp z (Te ?_)
  refine RetQ.eq2 (fun r=>.tup [.lst 1 (r.1.map icl),Ai r.2]) (fun r=>[]) (Option.some.inj h) ?_
  exact RetQ.mk (vs:=[.hnd 2295000,Ai x16_1]) (.inr z) ⟨_,_,z,.tmp z,⟨_,_,z,.tmp z,z⟩⟩ [2295000] [] z z u0 (.tupV ⟨.frz (.hnd mh z (im_flat icl_im vo5_1)) z,.rfl' z,u0⟩)
 ·rintro v21 vo5 hi _ h
  refine Tp z (Ts (Tc (b:=(decide (v21 < (x16_0.length:Int)))) z (fun hb_1=>?_) (fun hb_1=>?_)))
  ·exact(lt_f hi hb_1).elim
  exact Tri.exit (Xi vo5 (An h (Ee [2295000] z ⟨imf icl_im,u0⟩)))
 rintro nx v21 vo5 _ hi hw h
 refine Tp z (Ts (Tc (b:=(decide (v21 < (x16_0.length:Int)))) z (fun hb_2=>?_) (fun hb_2=>?_)))
 ·refine Tk (Ts (Tri.block (Tp z (Tri.region (Qe 4 z ?_)))))
  obtain⟨y,hy,h⟩:=bs h
  exact Q1 z z z (Ax.ixh (cl:=icl) z slc_26 z z z hy) (Q1 z z z (Ax.l1_arr (cl:=icl) z siz_3 z z hy z) (Qe 1 z (Q1 z z z (Ax.ixh (cl:=icl) z slc_26 z z z hy) (Qs z z (x:=some (.arr 3 1 ((vo5.set (Int.toNat v21) (W (-y))).map icl))) (Ax.st_arr (cl:=icl) (q:=(W (-y))) z siz_3 z z hy z z z z z z) (Rx (Tq z (Xi (v21+1,(vo5.set (Int.toNat v21) (W (-y)))) (An (An z h) (Es [2295000] [21] z ⟨imf icl_im,u0⟩ ⟨.imm (Sub.of_eq (show Ai (v21+1)=Ai (W (v21+1)) from congrArg Ai hw.symm)) z,u0⟩)))))))))
 exact(lt_t hi hb_2).elim
theorem f31_ok {K:Nat} {a0:Scene} {r:List (List Int) × Int} (h:f31 K a0=some r):CallOK Tryz.prog 31 [.agg (Scene.cl a0)] [] (.tup [.lst 1 (r.1.map cl26),Ai r.2]) []:=by
 refine Co Tryz.func31 z z (nl z) ?_
 unfold f31 at h
 refine Tr (Qe 1 z (Q1 z z z (v:=.lst 1 (([]:List (List Int)).map cl26)) (Ax.nl 1 z z) (Qd z (Tr (Qe 1 z ?_)))))
 obtain⟨⟨x5_0,x5_1⟩,hc,h⟩:=bs h
 refine Qc z z z (args:=[.agg (Scene.cl a0),.fn 111 []]) (r:=.tup [.lst 1 (x5_0.map cl26),Ai x5_1]) (calv z z fnok_107 z) (f107_ok fnok_111 z (fun _ _ hr=>f111_ok hr) hc) z (Qd z (Te ?_))
 refine Rr (fun r=>.tup [.lst 1 (r.1.map cl26),Ai r.2]) (fun r=>[]) [] h ?_ u0
 rfl
theorem f114_ok {K:Nat} {a0:Scene} {a1:List Spot_basin} {r:List Span × Int} (h:f114 K a0 a1=some r):CallOK Tryz.prog 114 [.agg (Scene.cl a0),.lst 2 (a1.map Spot_basin.cl)] [] (.tup [.lst 2 (r.1.map Span.cl),Ai r.2]) []:=by
 refine Co Tryz.func114 z z (nl z) ?_
 unfold f114 at h
 refine Tr (Qe 1 z (Q1 z z z (v:=.lst 2 (([]:List Span).map Span.cl)) (Ax.nl 2 z z) (Qd z (Tr (Qe 1 z ?_)))))
 obtain⟨⟨x14_0,x14_1⟩,hc,h⟩:=bs h
 refine Qc z z z (args:=[.agg (Scene.cl a0)]) (r:=.tup [.lst 1 (x14_0.map cl26),Ai x14_1]) (calv z z fnok_31 z) (f31_ok hc) z (Qd z (Ts (Tp z (Tc (b:=(x14_1 != 0)) z (fun hb=>?_) (fun hb=>?_)))))
 ·have h:=cq hb h
  refine Tr (Qe 1 z (Q1 z z z (v:=.lst 2 (([]:List Span).map Span.cl)) (Ax.nl 2 z z) (Qd z (Te ?_))))
  refine Rr (fun r=>.tup [.lst 2 (r.1.map Span.cl),Ai r.2]) (fun r=>[]) [] h ?_ u0
  rfl
 have h:=cw hb h
 refine Tk (Tr (Qe 1 z ?_))
 obtain⟨⟨x22_0,x22_1⟩,hc_1,h⟩:=bs h
 refine Qc z z z (args:=[.agg (Scene.cl a0)]) (r:=.tup [.lst 1 (x22_0.map cl26),Ai x22_1]) (calv z z fnok_29 z) (f29_ok hc_1) z (Qd z (Ts (Tp z (Tc (b:=(x22_1 != 0)) z (fun hb_1=>?_) (fun hb_1=>?_)))))
 ·have h:=cq hb_1 h
  refine Tr (Qe 1 z (Q1 z z z (v:=.lst 2 (([]:List Span).map Span.cl)) (Ax.nl 2 z z) (Qd z (Te ?_))))
  refine Rr (fun r=>.tup [.lst 2 (r.1.map Span.cl),Ai r.2]) (fun r=>[]) [] h ?_ u0
  rfl
 have h:=cw hb_1 h
 refine Tk (Tr (Qn z z z (v:=.hnd 9) (x:=some (.arr 49 2 (([]:List Span).map Span.cl))) (Ax.nil_new 49 2 (.inr z) z) z z z z z (Rx (Ts (Tr (Qe 1 z (Q1 z z z (Ax.ln (cl:=Spot_basin.cl) z slc_180 z) (Qd z ?_))))))))
 obtain⟨vo9_1,hj,h⟩:=bs h
 refine Tri.rngLv hj (fun p=>⟨[(6,.lst 1 (x14_0.map cl26)),(8,.lst 1 (x22_0.map cl26)),(9,.hnd 9),(28,.lst 2 (a1.map Spot_basin.cl)),(29,Ai (a1.length:Int)),(30,Ai p.1)],[(9,some (.arr 49 2 (p.2.map Span.cl)))]⟩) (fun(y:List Span)=>⟨[(9,.hnd 9)],[(9,some (.arr 49 2 (y.map Span.cl)))]⟩) (Ee [9] z ⟨im_flat Span_im ([]:List Span),u0⟩) ?_ ?_ ?_
 ·refine Tp z (Te ?_)
  refine RetQ.eq2 (fun r=>.tup [.lst 2 (r.1.map Span.cl),Ai r.2]) (fun r=>[]) (Option.some.inj h) ?_
  exact RetQ.mk (vs:=[.hnd 9,Ai 0]) (.inr z) ⟨_,_,z,.tmp z,⟨_,_,z,.tmp z,z⟩⟩ [9] [] z z u0 (.tupV ⟨.frz (.hnd mh z (im_flat Span_im vo9_1)) z,.rfl' z,u0⟩)
 ·rintro v30 vo9 hi h
  refine Tp z (Ts (Tc (b:=(decide (v30 < (a1.length:Int)))) z (fun hb_2=>?_) (fun hb_2=>?_)))
  ·exact(lt_f hi hb_2).elim
  exact Tri.exit (Xi vo9 (An h (Ee [9] z ⟨imf Span_im,u0⟩)))
 rintro nx x v30 vo9 _ hi hw hx h
 refine Tp z (Ts (Tc (b:=(decide (v30 < (a1.length:Int)))) z (fun hb_3=>?_) (fun hb_3=>?_)))
 ·refine Tk (Ts (Tri.block (Tr (Q1 z z z (Ax.ix (cl:=Spot_basin.cl) z slc_180 z z hx) (Qe 1 z (Qn z z z (v:=.ptr 11 0) (x:=some (.box (Spot_basin.cl (⟨0,0⟩:Spot_basin)))) (Al_ z z zer_190 z ⟨Sub.refl _,Sub.refl _,u0⟩) z z z z z (Qs z z (x:=some (.box (Spot_basin.cl x))) (As z siz_190 z z z z z z z) (Rx (Td [[],[],[],[2],[1,2,3],[1,2,3,4],[],[6],[1,2,3,4,5,6,7],[1,2,3,4,5,6,7,8],[],[],[11],[10,11,12],[10,11,12,13],[],[15],[10,11,12,13,14,15,16],[10,11,12,13,14,15,16,17],[1,2,3,4,5,6,7,8,9,10,11,12,13,14,15,16,17,18],[1,2,3,4,5,6,7,8,9,10,11,12,13,14,15,16,17,18,19],[0,1,2,3,4,5,6,7,8,9,10,11,12,13,14,15,16,17,18,19,20],[]] hmix (by kernel_rfl) (Qe 4 z ?_))))))))))
  obtain⟨y,hy,h⟩:=bs h
  refine Q1 z z z (Ax.ix (cl:=cl26) z slc_44 z z hy) (Qe 3 z ?_)
  obtain⟨y_1,hy_1,h⟩:=bs h
  refine Q1 z z z (Ax.ix (cl:=icl) z slc_26 z z hy_1) (Qe 4 z ?_)
  obtain⟨y_2,hy_2,h⟩:=bs h
  refine Q1 z z z (Ax.ix (cl:=cl26) z slc_44 z z hy_2) (Qe 3 z ?_)
  obtain⟨y_3,hy_3,h⟩:=bs h
  refine Q1 z z z (Ax.ix (cl:=icl) z slc_26 z z hy_3) (Qe 1 z (Q1 z z z (v:=.agg (Span.cl (⟨y_1,y_3⟩:Span))) (Ab_ z zer_49 (bld plc_49 zer_49) z ⟨Sub.refl _,Sub.refl _,u0⟩) (Q1 z z z (v:=.lst 2 (([(⟨y_1,y_3⟩:Span)]:List Span).map Span.cl)) (Ax.sl (xs:=([(⟨y_1,y_3⟩:Span)]:List Span)) z slc_183 z z ⟨Sub.refl _,Sub.refl _,u0⟩ z Span_len Span_one Span_im) ?_)))
  obtain⟨z55,hz,h⟩:=bs h
  refine Qa z z z (v:=.hnd 55) (x:=some (.arr 49 2 (z55.map Span.cl))) (Ax.app_l (cl:=Span.cl) z z slc_183 z z z Span_one Span_im hz z z) z z z z z (Qe 1 z (Rx ⟨by kernel_rfl,freshL_of [55] (by kernel_rfl) (by kernel_rfl),?_⟩))
  exact Tq z (Xi (v30+1,z55) (An (An z h) (Es [55] [30] z ⟨imf Span_im,u0⟩ ⟨.imm (Sub.of_eq (show Ai (v30+1)=Ai (W (v30+1)) from congrArg Ai hw.symm)) z,u0⟩)))
 exact(lt_t hi hb_3).elim
theorem f33_ok {K:Nat} {a0:Scene} {a1:Int} {a2:Int} {r:Span × Int} (h:f33 K a0 a1 a2=some r):CallOK Tryz.prog 33 [.agg (Scene.cl a0),Ai a1,Ai a2] [] (.tup [.agg (Span.cl r.1),Ai r.2]) []:=by
 refine Co Tryz.func33 z z (nl z) ?_
 unfold f33 at h
 refine Tr (Qe 1 z (Qn z z z (v:=.ptr 6 0) (x:=some (.box (Span.cl (⟨0,0⟩:Span)))) (Al_ z z zer_49 z ⟨Sub.refl _,Sub.refl _,u0⟩) z z z z z (Qd z (Tr (Qe 2 z (Q1 z z z (v:=.lst 1 (([a1]:List Int).map icl)) (Ax.sl (xs:=([a1]:List Int)) z slc_26 z z ⟨Sub.refl _,u0⟩ z icl_len icl_one icl_im) (Qe 1 z ?_)))))))
 obtain⟨⟨x16_0,x16_1⟩,hc,h⟩:=bs h
 refine Qc z z z (args:=[.agg (Scene.cl a0),.lst 1 (([a1]:List Int).map icl),Ai a2]) (r:=.tup [.lst 2 (x16_0.map Spot_basin.cl),Ai x16_1]) (calv z z fnok_113 z) (f113_ok hc) z (Qd z (Ts (Tp z (Tc (b:=(x16_1 != 0)) z (fun hb=>?_) (fun hb=>?_)))))
 ·have h:=cq hb h
  refine Tr (Q1 z z z (v:=.agg (Span.cl (⟨0,0⟩:Span))) (Ab_ z zer_49 (bld plc_49 zer_49) z ⟨Sub.refl _,Sub.refl _,u0⟩) (Qe 1 z (Qs z z (x:=some (.box (Span.cl (⟨0,0⟩:Span)))) (As z siz_49 z z z z z z z) (Qd z (Te ?_)))))
  refine Rr (fun r=>.tup [.agg (Span.cl r.1),Ai r.2]) (fun r=>[]) [] h ?_ u0
  rfl
 have h:=cw hb h
 refine Tk (Tr (Qe 2 z ?_))
 obtain⟨⟨x26_0,x26_1⟩,hc_1,h⟩:=bs h
 refine Qc z z z (args:=[.agg (Scene.cl a0),.lst 2 (x16_0.map Spot_basin.cl)]) (r:=.tup [.lst 2 (x26_0.map Span.cl),Ai x26_1]) (calv z z fnok_114 z) (f114_ok hc_1) z (Qd z (Ts (Tp z (Tc (b:=(x26_1 != 0)) z (fun hb_1=>?_) (fun hb_1=>?_)))))
 ·have h:=cq hb_1 h
  refine Tr (Q1 z z z (v:=.agg (Span.cl (⟨0,0⟩:Span))) (Ab_ z zer_49 (bld plc_49 zer_49) z ⟨Sub.refl _,Sub.refl _,u0⟩) (Qe 1 z (Qs z z (x:=some (.box (Span.cl (⟨0,0⟩:Span)))) (As z siz_49 z z z z z z z) (Qd z (Te ?_)))))
  refine Rr (fun r=>.tup [.agg (Span.cl r.1),Ai r.2]) (fun r=>[]) [] h ?_ u0
  rfl
 have h:=cw hb_1 h
 refine Tk (Tr (Qe 1 z ?_))
 obtain⟨y,hy,h⟩:=bs h
 refine Q1 z z z (Ax.ix (cl:=Span.cl) z slc_183 z z hy) (Qe 1 z (Qs z z (x:=some (.box (Span.cl y))) (As z siz_49 z z z z z z z) (Qd z (Te ?_))))
 refine Rr (fun r=>.tup [.agg (Span.cl r.1),Ai r.2]) (fun r=>[]) [] h ?_ u0
 rfl
theorem f39_ok {K:Nat} {a0:Scene} {a1:List Int} {a2:Int} {r:Span × Int} (h:f39 K a0 a1 a2=some r):CallOK Tryz.prog 39 [.agg (Scene.cl a0),.lst 1 (a1.map icl),Ai a2] [] (.tup [.agg (Span.cl r.1),Ai r.2]) []:=by
 refine Co Tryz.func39 z z (nl z) ?_
 unfold f39 at h
 refine Tr (Qe 1 z (Qn z z z (v:=.ptr 6 0) (x:=some (.box (Span.cl (⟨0,0⟩:Span)))) (Al_ z z zer_49 z ⟨Sub.refl _,Sub.refl _,u0⟩) z z z z z (Qd z (Tr (Qe 3 z ?_)))))
 obtain⟨⟨x19_0,x19_1⟩,hc,h⟩:=bs h
 refine Qc z z z (args:=[.agg (Scene.cl a0),.lst 1 (a1.map icl),Ai a2]) (r:=.tup [.lst 2 (x19_0.map Spot_basin.cl),Ai x19_1]) (calv z z fnok_113 z) (f113_ok hc) z (Qd z (Ts (Tp z (Tc (b:=(x19_1 != 0)) z (fun hb=>?_) (fun hb=>?_)))))
 ·have h:=cq hb h
  refine Tr (Q1 z z z (v:=.agg (Span.cl (⟨0,0⟩:Span))) (Ab_ z zer_49 (bld plc_49 zer_49) z ⟨Sub.refl _,Sub.refl _,u0⟩) (Qe 1 z (Qs z z (x:=some (.box (Span.cl (⟨0,0⟩:Span)))) (As z siz_49 z z z z z z z) (Qd z (Te ?_)))))
  refine Rr (fun r=>.tup [.agg (Span.cl r.1),Ai r.2]) (fun r=>[]) [] h ?_ u0
  rfl
 have h:=cw hb h
 refine Tk (Tr (Qe 2 z ?_))
 obtain⟨⟨x29_0,x29_1⟩,hc_1,h⟩:=bs h
 refine Qc z z z (args:=[.agg (Scene.cl a0),.lst 2 (x19_0.map Spot_basin.cl)]) (r:=.tup [.lst 2 (x29_0.map Span.cl),Ai x29_1]) (calv z z fnok_114 z) (f114_ok hc_1) z (Qd z (Ts (Tp z (Tc (b:=(x29_1 != 0)) z (fun hb_1=>?_) (fun hb_1=>?_)))))
 ·have h:=cq hb_1 h
  refine Tr (Q1 z z z (v:=.agg (Span.cl (⟨0,0⟩:Span))) (Ab_ z zer_49 (bld plc_49 zer_49) z ⟨Sub.refl _,Sub.refl _,u0⟩) (Qe 1 z (Qs z z (x:=some (.box (Span.cl (⟨0,0⟩:Span)))) (As z siz_49 z z z z z z z) (Qd z (Te ?_)))))
  refine Rr (fun r=>.tup [.agg (Span.cl r.1),Ai r.2]) (fun r=>[]) [] h ?_ u0
  rfl
 have h:=cw hb_1 h
 refine Tk (Tr (Qn z z z (v:=.ptr 11 0) (x:=some (.box (Span.cl (⟨0,0⟩:Span)))) (Al_ z z zer_49 z ⟨Sub.refl _,Sub.refl _,u0⟩) z z z z z (Rx (Ts (Tr (Qe 1 z (Q1 z z z (Ax.ln (cl:=Span.cl) z slc_183 z) (Qd z ?_))))))))
 obtain⟨⟨vo11_0_1,vo11_1_1⟩,hj,h⟩:=bs h
 refine Tri.rngLv hj (fun p=>⟨[(3,.ipt (Scene.cl a0) 0),(6,.ptr 6 0),(8,.lst 2 (x19_0.map Spot_basin.cl)),(11,.ptr 11 0),(36,.lst 2 (x29_0.map Span.cl)),(37,Ai (x29_0.length:Int)),(38,Ai p.1)],[(6,some (.box (Span.cl (⟨0,0⟩:Span)))),(11,some (.box (Span.cl (⟨p.2.1,p.2.2⟩:Span))))]⟩) (fun(y:Int × Int)=>⟨[(6,.ptr 6 0),(11,.ptr 11 0)],[(6,some (.box (Span.cl (⟨0,0⟩:Span)))),(11,some (.box (Span.cl (⟨y.1,y.2⟩:Span))))]⟩) (Ee [6,11] z u0) ?_ ?_ ?_
 ·refine Tr (Qe 1 z (Qs z z (x:=some (.box (Span.cl (⟨vo11_0_1,vo11_1_1⟩:Span)))) (As z siz_49 z z z z z z z) (Qd z (Te ?_))))
  refine Rr (fun r=>.tup [.agg (Span.cl r.1),Ai r.2]) (fun r=>[]) [] h ?_ u0
  rfl
 ·rintro v38 ⟨vo11_0,vo11_1⟩ hi h
  refine Tp z (Ts (Tc (b:=(decide (v38 < (x29_0.length:Int)))) z (fun hb_2=>?_) (fun hb_2=>?_)))
  ·exact(lt_f hi hb_2).elim
  exact Tri.exit (Xi (vo11_0,vo11_1) (An h (Ee [6,11] z u0)))
 rintro nx x v38 ⟨vo11_0,vo11_1⟩ _ hi hw hx h
 refine Tp z (Ts (Tc (b:=(decide (v38 < (x29_0.length:Int)))) z (fun hb_3=>?_) (fun hb_3=>?_)))
 ·refine Tk (Ts (Tri.block (Tr (Qe 1 z (Q1 z z z (Ax.ix (cl:=Span.cl) z slc_183 z z hx) (Qe 1 z (Qn z z z (v:=.ptr 13 0) (x:=some (.box (Span.cl (⟨0,0⟩:Span)))) (Al_ z z zer_49 z ⟨Sub.refl _,Sub.refl _,u0⟩) z z z z z (Qe 1 z (Qs z z (x:=some (.box (Span.cl x))) (As z siz_49 z z z z z z z) (Rx (Ts (Td [] hmix (by kernel_rfl) ?_))))))))))))
  refine Qe 5 z ?_
  obtain⟨y,hy,h⟩:=bs h
  refine Q1 z z z (Ax.ix (cl:=Spot_basin.cl) z slc_180 z z hy) (Qe 2 z ?_)
  obtain⟨y_1,hy_1,h⟩:=bs h
  refine Q1 z z z (Ax.ix (cl:=Cell.cl) z slc_22 z z hy_1) (Qe 3 z (Rx ⟨by kernel_rfl,freshL_of [] (by kernel_rfl) (by kernel_rfl),?_⟩))
  exact Tr (Qe 8 z (Qs z z (x:=some (.box (Span.cl (⟨(W (vo11_0+(W (y_1.Area*x.Lo)))),vo11_1⟩:Span)))) (As z siz_3 z z z z z z z) (Rx (Tri.region (Qe 8 z (Qs z z (x:=some (.box (Span.cl (⟨(W (vo11_0+(W (y_1.Area*x.Lo)))),(W (vo11_1+(W (y_1.Area*x.Hi))))⟩:Span)))) (As z siz_3 z z z z z z z) (Rx (Tq z (Xi (v38+1,((W (vo11_0+(W (y_1.Area*x.Lo)))),(W (vo11_1+(W (y_1.Area*x.Hi)))))) (An (An z h) (Es [6,11] [38] z u0 ⟨.imm (Sub.of_eq (show Ai (v38+1)=Ai (W (v38+1)) from congrArg Ai hw.symm)) z,u0⟩)))))))))))
 exact(lt_t hi hb_3).elim
theorem f120_ok {K:Nat} {a0:Scene} {a1:List Int} {a2:Int} {a3:Int} {a4:Bool} {r:(Option Laid_basin) × List Int × Int} (h:f120 K a0 a1 a2 a3 a4=some r):CallOK Tryz.prog 120 [.agg (Scene.cl a0),.lst 1 (a1.map icl),Ai a2,Ai a3,Ab a4] [] (.tup [optr Laid_basin.cl r.1,.lst 1 (r.2.1.map icl),Ai r.2.2]) []:=by
 refine Co Tryz.func120 z z (nl z) ?_
 unfold f120 at h
 refine Tr (Qe 2 z (Q1 z z z (v:=.lst 1 (([]:List Int).map icl)) (Ax.nl 1 z z) (Qd z (Tr (Qe 3 z ?_)))))
 obtain⟨⟨x24_0,x24_1⟩,hc,h⟩:=bs h
 refine Qc z z z (args:=[.agg (Scene.cl a0),.lst 1 (a1.map icl),Ai a2]) (r:=.tup [.lst 2 (x24_0.map Spot_basin.cl),Ai x24_1]) (calv z z fnok_113 z) (f113_ok hc) z (Qd z (Ts (Tp z (Tc (b:=(x24_1 != 0)) z (fun hb=>?_) (fun hb=>?_)))))
 ·have h:=cq hb h
  refine Tr (Qe 2 z (Q1 z z z (v:=.lst 1 (([]:List Int).map icl)) (Ax.nl 1 z z) (Qd z (Te ?_))))
  refine RetQ.eq2 (fun r=>.tup [optr Laid_basin.cl r.1,.lst 1 (r.2.1.map icl),Ai r.2.2]) (fun r=>[]) (Option.some.inj h) ?_
  exact RetQ.mk (vs:=[.sc (.pointer none),.lst 1 (([]:List Int).map icl),Ai x24_1]) (.inr z) ⟨_,_,z,.tmp z,⟨_,_,z,.tmp z,⟨_,_,z,.tmp z,z⟩⟩⟩ [] [] z z u0 (.tupV ⟨.frz (.fz (.imm z)) z,.rfl' z,.rfl' z,u0⟩)
 have h:=cw hb h
 refine Tk (Tr (Qe 3 z ?_))
 obtain⟨⟨x34_0,x34_1⟩,hc_1,h⟩:=bs h
 refine Qc z z z (args:=[.agg (Scene.cl a0),.lst 1 (a1.map icl),Ai a3]) (r:=.tup [.lst 2 (x34_0.map Spot_basin.cl),Ai x34_1]) (calv z z fnok_113 z) (f113_ok hc_1) z (Qd z (Ts (Tp z (Tc (b:=(x34_1 != 0)) z (fun hb_1=>?_) (fun hb_1=>?_)))))
 ·have h:=cq hb_1 h
  refine Tr (Qe 2 z (Q1 z z z (v:=.lst 1 (([]:List Int).map icl)) (Ax.nl 1 z z) (Qd z (Te ?_))))
  refine RetQ.eq2 (fun r=>.tup [optr Laid_basin.cl r.1,.lst 1 (r.2.1.map icl),Ai r.2.2]) (fun r=>[]) (Option.some.inj h) ?_
  exact RetQ.mk (vs:=[.sc (.pointer none),.lst 1 (([]:List Int).map icl),Ai x34_1]) (.inr z) ⟨_,_,z,.tmp z,⟨_,_,z,.tmp z,⟨_,_,z,.tmp z,z⟩⟩⟩ [] [] z z u0 (.tupV ⟨.frz (.fz (.imm z)) z,.rfl' z,.rfl' z,u0⟩)
 have h:=cw hb_1 h
 refine Tk (Ts (Tp z (Tc (b:=(decide (a2≥a3))) z (fun hb_2=>?_) (fun hb_2=>?_))))
 ·have h:=cq hb_2 h
  refine Tr (Qe 1 z (Q1 z z z (v:=.lst 1 (([]:List Int).map icl)) (Ax.nl 1 z z) (Qd z (Te ?_))))
  refine RetQ.eq2 (fun r=>.tup [optr Laid_basin.cl r.1,.lst 1 (r.2.1.map icl),Ai r.2.2]) (fun r=>[]) (Option.some.inj h) ?_
  exact RetQ.mk (vs:=[.sc (.pointer none),.lst 1 (([]:List Int).map icl),Ai 1]) (.inr z) ⟨_,_,z,.tmp z,⟨_,_,z,.tmp z,⟨_,_,z,.tmp z,z⟩⟩⟩ [] [] z z u0 (.tupV ⟨.frz (.fz (.imm z)) z,.rfl' z,.rfl' z,u0⟩)
 have h:=cw hb_2 h
 refine Tk (Tr (Qe 1 z ?_))
 obtain⟨x44,hc_2,h⟩:=bs h
 refine Qc z z z (args:=[.agg (Scene.cl a0)]) (r:=.ipt (Laid_basin.cl x44) 0) (calv z z fnok_102 z) (f102_ok hc_2) z (Qd z (Tr (Qe 1 z (Q1 z z z (Ax.nil_ipt z z) (Qe 3 z ?_)))))
 obtain⟨z50,hz,h⟩:=bs h
 refine Qn z z z (v:=.hnd 50) (x:=some (.arr 3 1 (z50.map icl))) (Ax.mk (cl:=icl) z z slc_26 z z hz z z z) z z z z z (Qd z (Ts (Tr (Qe 1 z (Q1 z z z (Ax.ln (cl:=Spot_basin.cl) z slc_180 z) (Qd z ?_))))))
 obtain⟨vo17_1,hj,h⟩:=bs h
 refine Tri.rngLv hj (fun p=>⟨[(4,Ab a4),(5,.ipt (Scene.cl a0) 0),(13,.lst 2 (x24_0.map Spot_basin.cl)),(15,.lst 2 (x34_0.map Spot_basin.cl)),(16,.ipt (Laid_basin.cl x44) 0),(17,.hnd 50),(52,Ai (x24_0.length:Int)),(53,Ai p.1)],[(50,some (.arr 3 1 (p.2.map icl)))]⟩) (fun(y:List Int)=>⟨[(16,.ipt (Laid_basin.cl x44) 0),(17,.hnd 50)],[(50,some (.arr 3 1 (y.map icl)))]⟩) (Ee [50] z ⟨imf icl_im,u0⟩) ?_ ?_ ?_
 ·refine Tp z (Te ?_)
  refine RetQ.eq2 (fun r=>.tup [optr Laid_basin.cl r.1,.lst 1 (r.2.1.map icl),Ai r.2.2]) (fun r=>[]) (Option.some.inj h) ?_
  exact RetQ.mk (vs:=[.ipt (Laid_basin.cl x44) 0,.hnd 50,Ai 0]) (.inr z) ⟨_,_,z,.tmp z,⟨_,_,z,.tmp z,⟨_,_,z,.tmp z,z⟩⟩⟩ [50] [] z z u0 (.tupV ⟨.frz (.fz (.imm z)) z,.frz (.hnd mh z (im_flat icl_im vo17_1)) z,.rfl' z,u0⟩)
 ·rintro v53 vo17 hi h
  refine Tp z (Ts (Tc (b:=(decide (v53 < (x24_0.length:Int)))) z (fun hb_3=>?_) (fun hb_3=>?_)))
  ·exact(lt_f hi hb_3).elim
  exact Tri.exit (Xi vo17 (An h (Ee [50] z ⟨imf icl_im,u0⟩)))
 rintro nx x v53 vo17 _ hi hw hx h
 refine Tp z (Ts (Tc (b:=(decide (v53 < (x24_0.length:Int)))) z (fun hb_4=>?_) (fun hb_4=>?_)))
 ·refine Tk (Ts (Tri.block (Tp z (Ts (Td [] hmix (by kernel_rfl) (Qe 5 z (Q1 z z z (Ax.ix (cl:=Spot_basin.cl) z slc_180 z z hx) (Qe 2 z ?_))))))))
  obtain⟨y,hy,h⟩:=bs h
  refine Q1 z z z (Ax.ix (cl:=Cell.cl) z slc_22 z z hy) (Qe 3 z (Rx ⟨by kernel_rfl,freshL_of [] (by kernel_rfl) (by kernel_rfl),?_⟩))
  refine Ts (Tp z ?_)
  obtain⟨v19,hv,h⟩:=lt h
  refine Tri.join1 ⟨[(4,Ab a4),(5,.ipt (Scene.cl a0) 0),(13,.lst 2 (x24_0.map Spot_basin.cl)),(15,.lst 2 (x34_0.map Spot_basin.cl)),(16,.ipt (Laid_basin.cl x44) 0),(17,.hnd 50),(18,Ai v53),(19,Ai v19),(52,Ai (x24_0.length:Int)),(53,Ai v53)],[(50,some (.arr 3 1 (vo17.map icl)))]⟩ ?_ ?_
  ·refine Ts (Td [[],[],[],[],[2,3],[2,3,4],[2,3,4,5],[],[],[7,8],[7,8,9],[7,8,9,10],[1,2,3,4,5,6,7,8,9,10,11],[],[0,1,2,3,4,5,6,7,8,9,10,11,12,13],[0,1,2,3,4,5,6,7,8,9,10,11,12,13,14]] hmix (by kernel_rfl) (Qe 4 z (Q1 z z z (Ax.ix (cl:=Spot_basin.cl) z slc_180 z z hx) (Qe 4 z (Q1 z z z (Ax.ix (cl:=Spot_basin.cl) z slc_180 z z hx) (Qe 2 z ?_))))))
   obtain⟨x83,hc_3,h⟩:=bs h
   refine Qc z z z (args:=[.ipt (Laid_basin.cl x44) 0,Ai x.cell,Ai x.day]) (r:=Ai x83) (calv z z fnok_202 z) (f202_ok hc_3) z (Qe 1 z ?_)
   obtain⟨y_1,hy_1,h⟩:=bs h
   refine Q1 z z z (Ax.ixh (cl:=icl) z slc_26 z z z hy_1) (Qs z z (x:=some (.arr 3 1 ((vo17.set (Int.toNat x83) v19).map icl))) (Ax.st_arr (cl:=icl) (q:=v19) z siz_3 z z hy_1 z z z z z z) (Rx ⟨by kernel_rfl,freshL_of [] (by kernel_rfl) (by kernel_rfl),?_⟩))
   refine Td [[],[],[],[],[2,3],[2,3,4],[2,3,4,5],[],[],[7,8],[7,8,9],[7,8,9,10],[1,2,3,4,5,6,7,8,9,10,11],[],[13],[0,1,2,3,4,5,6,7,8,9,10,11,12,13,14],[0,1,2,3,4,5,6,7,8,9,10,11,12,13,14,15]] hmix (by kernel_rfl) (Qe 4 z ?_)
   obtain⟨y_2,hy_2,h⟩:=bs h
   refine Q1 z z z (Ax.ix (cl:=Spot_basin.cl) z slc_180 z z hy_2) (Qe 4 z (Q1 z z z (Ax.ix (cl:=Spot_basin.cl) z slc_180 z z hy_2) (Qe 2 z ?_)))
   obtain⟨x98,hc_4,h⟩:=bs h
   refine Qc z z z (args:=[.ipt (Laid_basin.cl x44) 0,Ai y_2.cell,Ai y_2.day]) (r:=Ai x98) (calv z z fnok_202 z) (f202_ok hc_4) z (Qe 2 z ?_)
   obtain⟨y_3,hy_3,h⟩:=bs h
   refine Q1 z z z (Ax.ixh (cl:=icl) z slc_26 z z z hy_3) (Qs z z (x:=some (.arr 3 1 (((vo17.set (Int.toNat x83) v19).set (Int.toNat x98) (W (-v19))).map icl))) (Ax.st_arr (cl:=icl) (q:=(W (-v19))) z siz_3 z z hy_3 z z z z z z) (Rx ⟨by kernel_rfl,freshL_of [] (by kernel_rfl) (by kernel_rfl),?_⟩))
   exact Tq z (Xi (v53+1,((vo17.set (Int.toNat x83) v19).set (Int.toNat x98) (W (-v19)))) (An (An z h) (Es [50] [53] z ⟨imf icl_im,u0⟩ ⟨.imm (Sub.of_eq (show Ai (v53+1)=Ai (W (v53+1)) from congrArg Ai hw.symm)) z,u0⟩)))
  refine Tc (b:=(!a4)) z (fun hb_5=>?_) (fun hb_5=>?_)
  ·exact Tq z ((Es [50] [19] z ⟨imf icl_im,u0⟩ ⟨.imm (Sub.of_eq (show Ai v19=Ai (W (-y.Area)) by simp only [cond_true,cond_false,Bool.true_or,Bool.false_or,Bool.true_and,Bool.false_and,Bool.or_true,Bool.or_false,Bool.and_true,Bool.and_false,hv,hb,hb_1,hb_2,hb_4,hb_5])) z,u0⟩))
  exact Tk ((Es [50] [19] z ⟨imf icl_im,u0⟩ ⟨.imm (Sub.of_eq (show Ai v19=Ai y.Area by simp only [cond_true,cond_false,Bool.true_or,Bool.false_or,Bool.true_and,Bool.false_and,Bool.or_true,Bool.or_false,Bool.and_true,Bool.and_false,hv,hb,hb_1,hb_2,hb_4,hb_5])) z,u0⟩))
 exact(lt_t hi hb_4).elim
theorem f338_ok {K:Nat} {a0:Int} {r:Bool} (h:f338 K a0=some r):CallOK Tryz.prog 338 [Ai a0] [] (Ab r) []:=by
 refine Co Tryz.func338 z z (nl z) ?_
 unfold f338 at h
 refine Tp z (Tr (Qe 1 z ?_))
 obtain⟨x4,hc,h⟩:=bs h
 refine Qc z z z (args:=[Ai a0,Ai (-4096),Ai 4096]) (r:=Ab x4) (calv z z fnok_282 z) (f282_ok hc) z (Qd z (Te ?_))
 exact Rb h z
theorem f294_ok {K:Nat} {a0:Net} {a1:List Int} {r:Bool} (h:f294 K a0 a1=some r):CallOK Tryz.prog 294 [.agg (Net.cl a0),.lst 1 (a1.map icl)] [] (Ab r) []:=by
 refine Co Tryz.func294 z z (nl z) ?_
 unfold f294 at h
 refine Tp z (Ts ?_)
 obtain⟨v4,hj,h⟩:=bs h
 refine Tri.joinv v4 (fun(y:Bool)=>⟨[(4,Ab y)],[]⟩) ?_ ?_
 ·refine Te ?_
  exact Rb h z
 have h:=hj
 refine Tri.region (Qe 1 z (Q1 z z z (Ax.ln (cl:=icl) z slc_26 z) (Qe 4 z ?_)))
 rcases b2 ((a1.length:Int)==a0.Nodes) with hb | hb
 ·have h:=cq hb h
  refine Qk 10 hb z (Qe 1 z ?_)
  obtain⟨x12,hc,h⟩:=bs h
  exact Qc z z z (args:=[.lst 1 (a1.map icl),.fn 338 []]) (r:=Ab x12) (calv z z fnok_292 z) (f292_ok fnok_338 z (fun _ _ hr=>f338_ok hr) hc) z (Qd z (Xi (!x12) (An h (E0 z))))
 have h:=cw hb h
 exact Qk 10 hb z (Qd z (Xi false (An h (E0 z))))
theorem f360_ok {K:Nat} {a0:Use_diffs} {r:List Int} (h:f360 K a0=some r):CallOK Tryz.prog 360 [.ipt (Use_diffs.cl a0) 0] [] (.lst 1 (r.map icl)) []:=by
 refine Co Tryz.func360 z z (nl z) ?_
 unfold f360 at h
 refine Tr (Qn z z z (v:=.hnd 2) (x:=some (.arr 3 1 (([]:List Int).map icl))) (Ax.nil_new 3 1 (.inr z) z) z z z z z (Rx (Tr (Qn z z z (v:=.hnd 3) (x:=some (.arr 3 1 (([]:List Int).map icl))) (Ax.nil_new 3 1 (.inr z) z) z z z z z (Rx (Ts (Tr (Qe 1 z (Q1 z z z (Ax.nil_ipt z z) (Qe 2 z (Q1 z z z (Ax.ln (cl:=icl) z slc_26 z) (Qd z ?_))))))))))))
 obtain⟨vo3_1,hj,h⟩:=bs h
 refine Tri.rngLv hj (fun p=>⟨[(3,.hnd 3),(9,.lst 1 (a0.flow.map icl)),(10,Ai (a0.flow.length:Int)),(11,Ai p.1)],[(3,some (.arr 3 1 (p.2.map icl)))]⟩) (fun(y:List Int)=>⟨[(3,.hnd 3)],[(3,some (.arr 3 1 (y.map icl)))]⟩) (Ee [3] z ⟨im_flat icl_im ([]:List Int),u0⟩) ?_ ?_ ?_
 ·refine Tp z (Te ?_)
  refine RetQ.eq2 (fun r=>.lst 1 (r.map icl)) (fun r=>[]) (Option.some.inj h) ?_
  exact RetQ.mk (vs:=[.hnd 3]) (.inr z) ⟨_,_,z,.tmp z,z⟩ [3] [] z z u0 (.frz (.hnd mh z (im_flat icl_im vo3_1)) z)
 ·rintro v11 vo3 hi h
  refine Tp z (Ts (Tc (b:=(decide (v11 < (a0.flow.length:Int)))) z (fun hb=>?_) (fun hb=>?_)))
  ·exact(lt_f hi hb).elim
  exact Tri.exit (Xi vo3 (An h (Ee [3] z ⟨imf icl_im,u0⟩)))
 rintro nx x v11 vo3 _ hi hw hx h
 refine Tp z (Ts (Tc (b:=(decide (v11 < (a0.flow.length:Int)))) z (fun hb_1=>?_) (fun hb_1=>?_)))
 ·refine Tk (Ts (Tri.block (Tr (Qe 1 z (Q1 z z z (Ax.ix (cl:=icl) z slc_26 z z hx) (Qd z (Tp z ?_)))))))
  obtain⟨vo3_2,hj_1,h⟩:=bs h
  refine Tri.joinv vo3_2 (fun(y:List Int)=>⟨[(3,.hnd 21),(9,.lst 1 (a0.flow.map icl)),(10,Ai (a0.flow.length:Int)),(11,Ai v11)],[(21,some (.arr 3 1 (y.map icl)))]⟩) ?_ ?_
  ·exact Tq z (Xi (v11+1,vo3_2) (An (An z h) (Es [21] [11] z ⟨imf icl_im,u0⟩ ⟨.imm (Sub.of_eq (show Ai (v11+1)=Ai (W (v11+1)) from congrArg Ai hw.symm)) z,u0⟩)))
  have h:=hj_1
  refine Tc (b:=(decide (x > 0))) z (fun hb_2=>?_) (fun hb_2=>?_)
  ·have h:=cq hb_2 h
   refine Tri.region (Qe 2 z (Q1 z z z (v:=.lst 1 (([v11]:List Int).map icl)) (Ax.sl (xs:=([v11]:List Int)) z slc_26 z z ⟨Sub.refl _,u0⟩ z icl_len icl_one icl_im) ?_))
   obtain⟨z21,hz,h⟩:=bs h
   exact Qa z z z (v:=.hnd 21) (x:=some (.arr 3 1 (z21.map icl))) (Ax.app_l (cl:=icl) z z slc_26 z z z icl_one icl_im hz z z) z z z z z (Qd z (Xi z21 (An h (Ee [21] z ⟨imf icl_im,u0⟩))))
  have h:=cw hb_2 h
  exact Tk (Xi vo3 (An h (Ee [3] z ⟨imf icl_im,u0⟩)))
 exact(lt_t hi hb_1).elim
theorem f360_fr {K:Nat} {a0:Use_diffs} {r:List Int} (h:f360 K a0=some r):CallOK Tryz.prog 360 [.ipt (Use_diffs.cl a0) 0] [] (.hnd 3615000) [(3615000,.arr 3 1 (r.map icl))]:=by
 refine Co Tryz.func360 z z (nl z) ?_
 unfold f360 at h
 refine Tr (Qn z z z (v:=.hnd 2) (x:=some (.arr 3 1 (([]:List Int).map icl))) (Ax.nil_new 3 1 (.inr z) z) z z z z z (Rx (Tr (Qn z z z (v:=.hnd 3) (x:=some (.arr 3 1 (([]:List Int).map icl))) (Ax.nil_new 3 1 (.inr z) z) z z z z z (Rx (Ts (Tr (Qe 1 z (Q1 z z z (Ax.nil_ipt z z) (Qe 2 z (Q1 z z z (Ax.ln (cl:=icl) z slc_26 z) (Qd z ?_))))))))))))
 obtain⟨vo3_1,hj,h⟩:=bs h
 refine Tri.rngLv hj (fun p=>⟨[(3,.hnd 3),(9,.lst 1 (a0.flow.map icl)),(10,Ai (a0.flow.length:Int)),(11,Ai p.1)],[(3,some (.arr 3 1 (p.2.map icl)))]⟩) (fun(y:List Int)=>⟨[(3,.hnd 3)],[(3,some (.arr 3 1 (y.map icl)))]⟩) (Ee [3] z ⟨im_flat icl_im ([]:List Int),u0⟩) ?_ ?_ ?_
 ·refine Tp z (Te ?_)
  refine Rr (fun r=>.hnd 3615000) (fun r=>[(3615000,.arr 3 1 (r.map icl))]) [3] h ?_ ?_
  ·rfl
  exact⟨imf icl_im,u0⟩
 ·rintro v11 vo3 hi h
  refine Tp z (Ts (Tc (b:=(decide (v11 < (a0.flow.length:Int)))) z (fun hb=>?_) (fun hb=>?_)))
  ·exact(lt_f hi hb).elim
  exact Tri.exit (Xi vo3 (An h (Ee [3] z ⟨imf icl_im,u0⟩)))
 rintro nx x v11 vo3 _ hi hw hx h
 refine Tp z (Ts (Tc (b:=(decide (v11 < (a0.flow.length:Int)))) z (fun hb_1=>?_) (fun hb_1=>?_)))
 ·refine Tk (Ts (Tri.block (Tr (Qe 1 z (Q1 z z z (Ax.ix (cl:=icl) z slc_26 z z hx) (Qd z (Tp z ?_)))))))
  obtain⟨vo3_2,hj_1,h⟩:=bs h
  refine Tri.joinv vo3_2 (fun(y:List Int)=>⟨[(3,.hnd 21),(9,.lst 1 (a0.flow.map icl)),(10,Ai (a0.flow.length:Int)),(11,Ai v11)],[(21,some (.arr 3 1 (y.map icl)))]⟩) ?_ ?_
  ·exact Tq z (Xi (v11+1,vo3_2) (An (An z h) (Es [21] [11] z ⟨imf icl_im,u0⟩ ⟨.imm (Sub.of_eq (show Ai (v11+1)=Ai (W (v11+1)) from congrArg Ai hw.symm)) z,u0⟩)))
  have h:=hj_1
  refine Tc (b:=(decide (x > 0))) z (fun hb_2=>?_) (fun hb_2=>?_)
  ·have h:=cq hb_2 h
   refine Tri.region (Qe 2 z (Q1 z z z (v:=.lst 1 (([v11]:List Int).map icl)) (Ax.sl (xs:=([v11]:List Int)) z slc_26 z z ⟨Sub.refl _,u0⟩ z icl_len icl_one icl_im) ?_))
   obtain⟨z21,hz,h⟩:=bs h
   exact Qa z z z (v:=.hnd 21) (x:=some (.arr 3 1 (z21.map icl))) (Ax.app_l (cl:=icl) z z slc_26 z z z icl_one icl_im hz z z) z z z z z (Qd z (Xi z21 (An h (Ee [21] z ⟨imf icl_im,u0⟩))))
  have h:=cw hb_2 h
  exact Tk (Xi vo3 (An h (Ee [3] z ⟨imf icl_im,u0⟩)))
 exact(lt_t hi hb_1).elim
theorem f366_ok {K:Nat} {a0:List Diff} {r:List Diff} (h:f366 K a0=some r):CallOK Tryz.prog 366 [.lst 3 (a0.map Diff.cl)] [] (.lst 3 (r.map Diff.cl)) []:=by
 unfold f366 at h
 have hr:=(app_spec h).2
 rw [List.nil_append] at hr
 subst hr
 cases r with
 | nil=>
  refine CallOK.lst0 fun a cap=>(Co Tryz.func366 z z (nl z) (Tr (Q1 z z z (v:=.lst 3 (([]:List Diff).map Diff.cl)) (Ax.nl 3 z z) (Rx (Ts (Tr (Q1 z z z (v:=.sc (.slice a 0 cap)) (Ax.mv z z) (Q1 z z z (v:=Ab a.isNone) (Ax.nilc z uns_32 z z) (Rx (Tc (b:=a.isNone) z (fun hb=>?_) (fun hb=>?_)))))))))))
  ·refine Tr (Q1 z z z (v:=.lst 3 (([]:List Diff).map Diff.cl)) (Ax.nl 3 z z) (Rx (Te ?_)))
   exact RetQ.mk (vs:=[.lst 3 (([]:List Diff).map Diff.cl)]) (.inr z) ⟨_,_,z,.tmp z,z⟩ [] [] z z u0 (.rfl' z)
  refine Tk (Tr (Qn z z z (v:=.hnd 5) (x:=some (.arr 174 3 (([]:List Diff).map Diff.cl))) (Ax.slice_new z z slc_32) z z z z z (Q1 z z z (v:=.lst 3 (([]:List Diff).map Diff.cl)) (Ax.move (.inl z) (Sub.lstE _ _ _)) (Qa z z z (v:=.hnd 7) (x:=some (.arr 174 3 (([]:List Diff).map Diff.cl))) (Ax.app_l (cl:=Diff.cl) z z slc_32 z z z Diff_one Diff_im h z z) z z z z z (Q1 z z z (v:=.hnd 7) (Ax.as z z) (Rx (Te ?_)))))))
  exact RetQ.mk (vs:=[.hnd 7]) (.inr z) ⟨_,_,z,.tmp z,z⟩ [7] [] z z u0 (.frz (.hnd mh z (im_flat Diff_im [])) z)
 | cons x xs=>
  refine Co Tryz.func366 z z (nl z) (Tr (Q1 z z z (v:=.lst 3 (([]:List Diff).map Diff.cl)) (Ax.nl 3 z z) (Rx (Ts (Tr (Q1 z z z (v:=.lst 3 ((x::xs:List Diff).map Diff.cl)) (Ax.mv z z) (Q1 z z z (v:=Ab false) (Ax.nilcmp z uns_32 z (by simp)) (Rx (Tri.cond_f z (Tk (Tr (Qn z z z (v:=.hnd 5) (x:=some (.arr 174 3 (([]:List Diff).map Diff.cl))) (Ax.slice_new z z slc_32) z z z z z ?_))))))))))))
  refine Q1 z z z (v:=.lst 3 (((x::xs):List Diff).map Diff.cl)) (Ax.mv z z) (Qa z z z (v:=.hnd 7) (x:=some (.arr 174 3 (((x::xs):List Diff).map Diff.cl))) (Ax.app_l (cl:=Diff.cl) z z slc_32 z z z Diff_one Diff_im h z z) z z z z z (Q1 z z z (v:=.hnd 7) (Ax.as z z) (Rx (Te ?_))))
  exact RetQ.mk (vs:=[.hnd 7]) (.inr z) ⟨_,_,z,.tmp z,z⟩ [7] [] z z u0 (.frz (.hnd mh z (im_flat Diff_im (x::xs))) z)
theorem f366_fr {K:Nat} {a0:List Diff} {r:List Diff} (h:f366 K a0=some r):CallOK Tryz.prog 366 [.lst 3 (a0.map Diff.cl)] [] (.hnd 20320000) [(20320000,.arr 174 3 (r.map Diff.cl))]:=by
 unfold f366 at h
 have hr:=(app_spec h).2
 rw [List.nil_append] at hr
 subst hr
 cases r with
 | nil=>
  refine CallOK.lst0 fun a cap=>(Co Tryz.func366 z z (nl z) (Tr (Q1 z z z (v:=.lst 3 (([]:List Diff).map Diff.cl)) (Ax.nl 3 z z) (Rx (Ts (Tr (Q1 z z z (v:=.sc (.slice a 0 cap)) (Ax.mv z z) (Q1 z z z (v:=Ab a.isNone) (Ax.nilc z uns_32 z z) (Rx (Tc (b:=a.isNone) z (fun hb=>?_) (fun hb=>?_)))))))))))
  ·refine Tr (Qn z z z (v:=.hnd 2) (x:=some (.arr 174 3 (([]:List Diff).map Diff.cl))) (Ax.nil_new 174 3 (.inr z) z) z z z z z (Rx (Te ?_)))
   exact RetQ.mk (vs:=[.hnd 2]) (.inr z) ⟨_,_,z,.tmp z,z⟩ [] [(20320000,2,.arr 174 3 (([]:List Diff).map Diff.cl))] z z ⟨⟨_,z,.arr (im_flat Diff_im [])⟩,u0⟩ (.hnd mh)
  refine Tk (Tr (Qn z z z (v:=.hnd 5) (x:=some (.arr 174 3 (([]:List Diff).map Diff.cl))) (Ax.slice_new z z slc_32) z z z z z (Q1 z z z (v:=.lst 3 (([]:List Diff).map Diff.cl)) (Ax.move (.inl z) (Sub.lstE _ _ _)) (Qa z z z (v:=.hnd 7) (x:=some (.arr 174 3 (([]:List Diff).map Diff.cl))) (Ax.app_l (cl:=Diff.cl) z z slc_32 z z z Diff_one Diff_im h z z) z z z z z (Q1 z z z (v:=.hnd 7) (Ax.as z z) (Rx (Te ?_)))))))
  exact RetQ.mk (vs:=[.hnd 7]) (.inr z) ⟨_,_,z,.tmp z,z⟩ [] [(20320000,7,.arr 174 3 (([]:List Diff).map Diff.cl))] z z ⟨⟨_,z,.arr (im_flat Diff_im [])⟩,u0⟩ (.hnd mh)
 | cons x xs=>
  refine Co Tryz.func366 z z (nl z) (Tr (Q1 z z z (v:=.lst 3 (([]:List Diff).map Diff.cl)) (Ax.nl 3 z z) (Rx (Ts (Tr (Q1 z z z (v:=.lst 3 ((x::xs:List Diff).map Diff.cl)) (Ax.mv z z) (Q1 z z z (v:=Ab false) (Ax.nilcmp z uns_32 z (by simp)) (Rx (Tri.cond_f z (Tk (Tr (Qn z z z (v:=.hnd 5) (x:=some (.arr 174 3 (([]:List Diff).map Diff.cl))) (Ax.slice_new z z slc_32) z z z z z ?_))))))))))))
  refine Q1 z z z (v:=.lst 3 (((x::xs):List Diff).map Diff.cl)) (Ax.mv z z) (Qa z z z (v:=.hnd 7) (x:=some (.arr 174 3 (((x::xs):List Diff).map Diff.cl))) (Ax.app_l (cl:=Diff.cl) z z slc_32 z z z Diff_one Diff_im h z z) z z z z z (Q1 z z z (v:=.hnd 7) (Ax.as z z) (Rx (Te ?_))))
  exact RetQ.mk (vs:=[.hnd 7]) (.inr z) ⟨_,_,z,.tmp z,z⟩ [] [(20320000,7,.arr 174 3 (((x::xs):List Diff).map Diff.cl))] z z ⟨⟨_,z,.arr (im_flat Diff_im (x::xs))⟩,u0⟩ (.hnd mh)
theorem f359_ok {K:Nat} {a0:Use_diffs} {r:List Diff} (h:f359 K a0=some r):CallOK Tryz.prog 359 [.ipt (Use_diffs.cl a0) 0] [] (.lst 3 (r.map Diff.cl)) []:=by
 refine Co Tryz.func359 z z (nl z) ?_
 unfold f359 at h
 refine Tr (Qn z z z (v:=.hnd 2) (x:=some (.arr 174 3 (([]:List Diff).map Diff.cl))) (Ax.nil_new 174 3 (.inr z) z) z z z z z (Rx (Tr (Qe 1 z (Q1 z z z (Ax.nil_ipt z z) (Qe 3 z ?_))))))
 obtain⟨x12,hc,h⟩:=bs h
 refine Qo [] [(20320000,.arr 174 3 (x12.map Diff.cl))] [20320000] z z z (args:=[.lst 3 (a0.Net.Diffs.map Diff.cl)]) (r:=.hnd 20320000) (calv z z fnok_366 z) (f366_fr hc) u0 z z z z z (Qd z (Ts (Tr (Qe 1 z ?_))))
 obtain⟨x14,hc_1,h⟩:=bs h
 refine Qo [] [(3615000,.arr 3 1 (x14.map icl))] [3615000] z z z (args:=[.ipt (Use_diffs.cl a0) 0]) (r:=.hnd 3615000) (calv z z fnok_360 z) (f360_fr hc_1) u0 z z z z z (Q1 z z z (Ax.lnh (cl:=icl) z slc_26 z z) (Qd z ?_))
 obtain⟨vo3_1,hj,h⟩:=bs h
 refine Tri.rngLv hj (fun p=>⟨[(0,.ipt (Use_diffs.cl a0) 0),(3,.hnd 20320000),(14,.hnd 3615000),(15,Ai (x14.length:Int)),(16,Ai p.1)],[(20320000,some (.arr 174 3 (p.2.map Diff.cl))),(3615000,some (.arr 3 1 (x14.map icl)))]⟩) (fun(y:List Diff)=>⟨[(3,.hnd 20320000)],[(20320000,some (.arr 174 3 (y.map Diff.cl)))]⟩) (Ee [20320000,3615000] z ⟨imf Diff_im,imf icl_im,u0⟩) ?_ ?_ ?_
 ·refine Tp z (Te ?_)
  refine RetQ.eq2 (fun r=>.lst 3 (r.map Diff.cl)) (fun r=>[]) (Option.some.inj h) ?_
  exact RetQ.mk (vs:=[.hnd 20320000]) (.inr z) ⟨_,_,z,.tmp z,z⟩ [20320000] [] z z u0 (.frz (.hnd mh z (im_flat Diff_im vo3_1)) z)
 ·rintro v16 vo3 hi h
  refine Tp z (Ts (Tc (b:=(decide (v16 < (x14.length:Int)))) z (fun hb=>?_) (fun hb=>?_)))
  ·exact(lt_f hi hb).elim
  exact Tri.exit (Xi vo3 (An h (Ee [20320000] z ⟨imf Diff_im,u0⟩)))
 rintro nx x v16 vo3 _ hi hw hx h
 refine Tp z (Ts (Tc (b:=(decide (v16 < (x14.length:Int)))) z (fun hb_1=>?_) (fun hb_1=>?_)))
 ·refine Tk (Ts (Tri.block (Tr (Q1 z z z (Ax.ixh (cl:=icl) z slc_26 z z z hx) (Q1 z z z (Ax.l1_arr (cl:=icl) z siz_3 z z hx z) (Qd z (Tr (Qe 1 z (Q1 z z z (Ax.nil_ipt z z) (Qe 4 z ?_))))))))))
  obtain⟨y,hy,h⟩:=bs h
  refine Q1 z z z (Ax.ix (cl:=Diff.cl) z slc_32 z z hy) (Qe 1 z (Qn z z z (v:=.ptr 6 0) (x:=some (.box (Diff.cl (⟨0,0,0⟩:Diff)))) (Al_ z z zer_174 z ⟨Sub.refl _,Sub.refl _,Sub.refl _,u0⟩) z z z z z (Qs z z (x:=some (.box (Diff.cl y))) (As z siz_174 z z z z z z z) (Rx (Tri.region (Qe 8 z (Q1 z z z (v:=.agg (Diff.cl (⟨y.To,y.From,(W (-y.Most))⟩:Diff))) (Ab_ z zer_174 (bld plc_174 zer_174) z ⟨Sub.refl _,Sub.refl _,Sub.refl _,u0⟩) (Q1 z z z (v:=.lst 3 (([(⟨y.To,y.From,(W (-y.Most))⟩:Diff)]:List Diff).map Diff.cl)) (Ax.sl (xs:=([(⟨y.To,y.From,(W (-y.Most))⟩:Diff)]:List Diff)) z slc_32 z z ⟨Sub.refl _,Sub.refl _,Sub.refl _,u0⟩ z Diff_len Diff_one Diff_im) ?_))))))))
  obtain⟨z38,hz,h⟩:=bs h
  exact Qa z z z (v:=.hnd 38) (x:=some (.arr 174 3 (z38.map Diff.cl))) (Ax.app_l (cl:=Diff.cl) z z slc_32 z z z Diff_one Diff_im hz z z) z z z z z (Qd z (Tq z (Xi (v16+1,z38) (An (An z h) (Es [38,3615000] [16] z ⟨imf Diff_im,imf icl_im,u0⟩ ⟨.imm (Sub.of_eq (show Ai (v16+1)=Ai (W (v16+1)) from congrArg Ai hw.symm)) z,u0⟩)))))
 exact(lt_t hi hb_1).elim
theorem f359_fr {K:Nat} {a0:Use_diffs} {r:List Diff} (h:f359 K a0=some r):CallOK Tryz.prog 359 [.ipt (Use_diffs.cl a0) 0] [] (.hnd 3605000) [(3605000,.arr 174 3 (r.map Diff.cl))]:=by
 refine Co Tryz.func359 z z (nl z) ?_
 unfold f359 at h
 refine Tr (Qn z z z (v:=.hnd 2) (x:=some (.arr 174 3 (([]:List Diff).map Diff.cl))) (Ax.nil_new 174 3 (.inr z) z) z z z z z (Rx (Tr (Qe 1 z (Q1 z z z (Ax.nil_ipt z z) (Qe 3 z ?_))))))
 obtain⟨x12,hc,h⟩:=bs h
 refine Qo [] [(20320000,.arr 174 3 (x12.map Diff.cl))] [20320000] z z z (args:=[.lst 3 (a0.Net.Diffs.map Diff.cl)]) (r:=.hnd 20320000) (calv z z fnok_366 z) (f366_fr hc) u0 z z z z z (Qd z (Ts (Tr (Qe 1 z ?_))))
 obtain⟨x14,hc_1,h⟩:=bs h
 refine Qo [] [(3615000,.arr 3 1 (x14.map icl))] [3615000] z z z (args:=[.ipt (Use_diffs.cl a0) 0]) (r:=.hnd 3615000) (calv z z fnok_360 z) (f360_fr hc_1) u0 z z z z z (Q1 z z z (Ax.lnh (cl:=icl) z slc_26 z z) (Qd z ?_))
 obtain⟨vo3_1,hj,h⟩:=bs h
 refine Tri.rngLv hj (fun p=>⟨[(0,.ipt (Use_diffs.cl a0) 0),(3,.hnd 20320000),(14,.hnd 3615000),(15,Ai (x14.length:Int)),(16,Ai p.1)],[(20320000,some (.arr 174 3 (p.2.map Diff.cl))),(3615000,some (.arr 3 1 (x14.map icl)))]⟩) (fun(y:List Diff)=>⟨[(3,.hnd 20320000)],[(20320000,some (.arr 174 3 (y.map Diff.cl)))]⟩) (Ee [20320000,3615000] z ⟨imf Diff_im,imf icl_im,u0⟩) ?_ ?_ ?_
 ·refine Tp z (Te ?_)
  refine Rr (fun r=>.hnd 3605000) (fun r=>[(3605000,.arr 174 3 (r.map Diff.cl))]) [20320000] h ?_ ?_
  ·rfl
  exact⟨imf Diff_im,u0⟩
 ·rintro v16 vo3 hi h
  refine Tp z (Ts (Tc (b:=(decide (v16 < (x14.length:Int)))) z (fun hb=>?_) (fun hb=>?_)))
  ·exact(lt_f hi hb).elim
  exact Tri.exit (Xi vo3 (An h (Ee [20320000] z ⟨imf Diff_im,u0⟩)))
 rintro nx x v16 vo3 _ hi hw hx h
 refine Tp z (Ts (Tc (b:=(decide (v16 < (x14.length:Int)))) z (fun hb_1=>?_) (fun hb_1=>?_)))
 ·refine Tk (Ts (Tri.block (Tr (Q1 z z z (Ax.ixh (cl:=icl) z slc_26 z z z hx) (Q1 z z z (Ax.l1_arr (cl:=icl) z siz_3 z z hx z) (Qd z (Tr (Qe 1 z (Q1 z z z (Ax.nil_ipt z z) (Qe 4 z ?_))))))))))
  obtain⟨y,hy,h⟩:=bs h
  refine Q1 z z z (Ax.ix (cl:=Diff.cl) z slc_32 z z hy) (Qe 1 z (Qn z z z (v:=.ptr 6 0) (x:=some (.box (Diff.cl (⟨0,0,0⟩:Diff)))) (Al_ z z zer_174 z ⟨Sub.refl _,Sub.refl _,Sub.refl _,u0⟩) z z z z z (Qs z z (x:=some (.box (Diff.cl y))) (As z siz_174 z z z z z z z) (Rx (Tri.region (Qe 8 z (Q1 z z z (v:=.agg (Diff.cl (⟨y.To,y.From,(W (-y.Most))⟩:Diff))) (Ab_ z zer_174 (bld plc_174 zer_174) z ⟨Sub.refl _,Sub.refl _,Sub.refl _,u0⟩) (Q1 z z z (v:=.lst 3 (([(⟨y.To,y.From,(W (-y.Most))⟩:Diff)]:List Diff).map Diff.cl)) (Ax.sl (xs:=([(⟨y.To,y.From,(W (-y.Most))⟩:Diff)]:List Diff)) z slc_32 z z ⟨Sub.refl _,Sub.refl _,Sub.refl _,u0⟩ z Diff_len Diff_one Diff_im) ?_))))))))
  obtain⟨z38,hz,h⟩:=bs h
  exact Qa z z z (v:=.hnd 38) (x:=some (.arr 174 3 (z38.map Diff.cl))) (Ax.app_l (cl:=Diff.cl) z z slc_32 z z z Diff_one Diff_im hz z z) z z z z z (Qd z (Tq z (Xi (v16+1,z38) (An (An z h) (Es [38,3615000] [16] z ⟨imf Diff_im,imf icl_im,u0⟩ ⟨.imm (Sub.of_eq (show Ai (v16+1)=Ai (W (v16+1)) from congrArg Ai hw.symm)) z,u0⟩)))))
 exact(lt_t hi hb_1).elim
theorem f385_ok {K:Nat} {a0:Use_diffs} {r:Int} (h:f385 K a0=some r):CallOK Tryz.prog 385 [.ipt (Use_diffs.cl a0) 0] [] (Ai r) []:=by
 refine Co Tryz.func385 z z (nl z) ?_
 unfold f385 at h
 refine Tp z (Tr (Qe 1 z (Q1 z z z (Ax.nil_ipt z z) (Qd z (Te ?_)))))
 exact Ri h z
theorem f341_ok {K:Nat} {a0:Use_diffs} {a1:Int} {a2:List Int} {r:Bool × Use_diffs × List Int} (h:f341 K a0 a1 a2=some r):CallOK Tryz.prog 341 [.ptr 80307000 0,Ai a1,.hnd 20260200] [(80307003,.arr 3 1 (a0.flow.map icl)),(80307004,.arr 3 1 (a0.want.map icl)),(80307000,.box [Ai a0.Net.Nodes,.lst 3 (a0.Net.Diffs.map Diff.cl),.hnd 80307003,.hnd 80307004]),(20260200,.arr 3 1 (a2.map icl))] (Ab r.1) [(80307003,.arr 3 1 (r.2.1.flow.map icl)),(80307004,.arr 3 1 (r.2.1.want.map icl)),(80307000,.box [Ai r.2.1.Net.Nodes,.lst 3 (r.2.1.Net.Diffs.map Diff.cl),.hnd 80307003,.hnd 80307004]),(20260200,.arr 3 1 (r.2.2.map icl))]:=by
 refine Co Tryz.func341 z z (nl z) ?_
 unfold f341 at h
 refine Tp z (Tr (Qe 1 z ?_))
 obtain⟨x19,hc,h⟩:=bs h
 refine Qlf [80307000,80307003,80307004] [(3605000,.arr 174 3 (x19.map Diff.cl))] [3605000] z z z (args:=[.ptr 80307000 0]) (args':=[.ipt (Use_diffs.cl a0) 0]) (r:=.hnd 3605000) (calv z z fnok_359 z) ⟨.ptrV mh z ⟨.imm z,.imm z,.hnd (mt mh) z (im_flat icl_im a0.flow),.hnd (mt (mt mh)) z (im_flat icl_im a0.want),u0⟩,u0⟩ (f359_fr hc) z z z (by first | rfl | (simp only [List.all_cons,List.all_nil,AO.solid,Bool.and_true,Bool.and_self,solid_flat (cl:=Diff.cl) (fun _=>z)])) z z z z (Qe 1 z ?_)
 obtain⟨x21,hc_1,h⟩:=bs h
 refine Qlf [80307000,80307003,80307004] [(3615000,.arr 3 1 (x21.map icl))] [3615000] z z z (args:=[.ptr 80307000 0]) (args':=[.ipt (Use_diffs.cl a0) 0]) (r:=.hnd 3615000) (calv z z fnok_360 z) ⟨.ptrV mh z ⟨.imm z,.imm z,.hnd (mt mh) z (im_flat icl_im a0.flow),.hnd (mt (mt mh)) z (im_flat icl_im a0.want),u0⟩,u0⟩ (f360_fr hc_1) z z z (by first | rfl | (simp only [List.all_cons,List.all_nil,AO.solid,Bool.and_true,Bool.and_self,solid_flat (cl:=icl) (fun _=>z)])) z z z z (Qd z (Tr (Qe 1 z (Q1 z z z (v:=.ifc 302 (.ptr 80307000 0)) (Ax.ifc' z nif_302 z) (Qe 1 z ?_)))))
 obtain⟨⟨x26_0,x26_1⟩,hc_2,h⟩:=bs h
 refine Qlf [80307000,80307003,80307004,20260200] [(3125001,.arr 3 1 (x26_0.long.map icl)),(3125002,.arr 4 1 (x26_0.has.map bcl)),(3125003,.arr 3 1 (x26_0.last.map icl))] [3125001,3125002,3125003] z z z (args:=[.ifc 302 (.ptr 80307000 0),.hnd 20260200]) (args':=[.ifc 302 (.fz (.ipt (Use_diffs.cl a0) 0)),.lst 1 (a2.map icl)]) (r:=.tup [.agg [.hnd 3125001,.hnd 3125002,.hnd 3125003],Ai x26_1]) (calv z z fnok_311 z) ⟨.ifc (.fz (.ptrV mh z ⟨.imm z,.imm z,.hnd (mt mh) z (im_flat icl_im a0.flow),.hnd (mt (mt mh)) z (im_flat icl_im a0.want),u0⟩)),.hnd (mt (mt (mt mh))) z (im_flat icl_im a2),u0⟩ (f311_fr ⟨⟨359,fnok_359,meth_302_359,fun _ hr=>(f359_ok (K:=K) hr).fz1⟩,⟨385,fnok_385,meth_302_385,fun _ hr=>(f385_ok (K:=K) hr).fz1⟩,z,z⟩ hc_2) z z z (by first | rfl | (simp only [List.all_cons,List.all_nil,AO.solid,Bool.and_true,Bool.and_self,solid_flat (cl:=icl) (fun _=>z),solid_flat (cl:=bcl) (fun _=>z),solid_flat (cl:=icl) (fun _=>z)])) z z z z (Qe 3 z (Qn z z z (v:=.ptr 9 0) (x:=some (.box (Tree_diffs.cl (⟨([]:List Int),([]:List Bool),([]:List Int)⟩:Tree_diffs)))) (Al_ z z zer_318 z ⟨Sub.nil _,Sub.nil _,Sub.nil _,u0⟩) z z z z z (Qs z z (x:=some (.box [.hnd 3125001,.hnd 3125002,.hnd 3125003])) (As z siz_318 z z z z z z z) (Qd z (Ts (Tr (Qe 3 z ?_)))))))
 obtain⟨y,hy,h⟩:=bs h
 refine Q1 z z z (Ax.ixh (cl:=bcl) z slc_191 z z z hy) (Q1 z z z (Ax.l1_arr (cl:=bcl) z siz_4 z z hy z) (Qd z (Tc (b:=(!y)) z (fun hb=>?_) (fun hb=>?_))))
 ·have h:=cq hb h
  refine Tp z (Te ?_)
  refine Rr (fun r=>Ab r.1) (fun r=>[(80307003,.arr 3 1 (r.2.1.flow.map icl)),(80307004,.arr 3 1 (r.2.1.want.map icl)),(80307000,.box [Ai r.2.1.Net.Nodes,.lst 3 (r.2.1.Net.Diffs.map Diff.cl),.hnd 80307003,.hnd 80307004]),(20260200,.arr 3 1 (r.2.2.map icl))]) [80307003,80307004,80307000,20260200] h ?_ ?_
  ·rfl
  exact⟨imf icl_im,imf icl_im,imf icl_im,u0⟩
 have h:=cw hb h
 refine Tk (Tr (Qn z z z (v:=.hnd 11) (x:=some (.arr 3 1 (([]:List Int).map icl))) (Ax.nil_new 3 1 (.inr z) z) z z z z z (Rx (Tp z (Ts ?_)))))
 obtain⟨⟨vo11_1,v12_1⟩,hj,h⟩:=bs h
 refine Tri.whlv hj (fun p=>⟨[(0,.ptr 80307000 0),(1,Ai a1),(7,.hnd 3605000),(8,.hnd 3615000),(9,.ptr 9 0),(11,.hnd 11),(12,Ai p.2)],[(80307003,some (.arr 3 1 (a0.flow.map icl))),(80307004,some (.arr 3 1 (a0.want.map icl))),(80307000,some (.box [Ai a0.Net.Nodes,.lst 3 (a0.Net.Diffs.map Diff.cl),.hnd 80307003,.hnd 80307004])),(3605000,some (.arr 174 3 (x19.map Diff.cl))),(3615000,some (.arr 3 1 (x21.map icl))),(3125001,some (.arr 3 1 (x26_0.long.map icl))),(3125002,some (.arr 4 1 (x26_0.has.map bcl))),(3125003,some (.arr 3 1 (x26_0.last.map icl))),(9,some (.box [.hnd 3125001,.hnd 3125002,.hnd 3125003])),(11,some (.arr 3 1 (p.1.map icl))),(20260200,some (.arr 3 1 (a2.map icl)))]⟩) (fun(y:List Int × Int)=>⟨[(0,.ptr 80307000 0),(1,Ai a1),(8,.hnd 3615000),(11,.hnd 11),(12,Ai y.2)],[(80307003,some (.arr 3 1 (a0.flow.map icl))),(80307004,some (.arr 3 1 (a0.want.map icl))),(80307000,some (.box [Ai a0.Net.Nodes,.lst 3 (a0.Net.Diffs.map Diff.cl),.hnd 80307003,.hnd 80307004])),(3615000,some (.arr 3 1 (x21.map icl))),(11,some (.arr 3 1 (y.1.map icl))),(20260200,some (.arr 3 1 (a2.map icl)))]⟩) (Ee [80307003,80307004,80307000,3605000,3615000,3125001,3125002,3125003,9,11,20260200] z ⟨imf icl_im,imf icl_im,imf Diff_im,imf icl_im,imf icl_im,imf bcl_im,imf icl_im,im_flat icl_im ([]:List Int),imf icl_im,u0⟩) ?_ ?_
 ·refine Tp z (Ts (Tp z ?_))
  obtain⟨v13,hj_8,h⟩:=bs h
  refine Tri.joinv v13 (fun(y:Int)=>⟨[(0,.ptr 80307000 0),(1,Ai a1),(8,.hnd 3615000),(11,.hnd 11),(12,Ai v12_1),(13,Ai y)],[(80307003,some (.arr 3 1 (a0.flow.map icl))),(80307004,some (.arr 3 1 (a0.want.map icl))),(80307000,some (.box [Ai a0.Net.Nodes,.lst 3 (a0.Net.Diffs.map Diff.cl),.hnd 80307003,.hnd 80307004])),(3615000,some (.arr 3 1 (x21.map icl))),(11,some (.arr 3 1 (vo11_1.map icl))),(20260200,some (.arr 3 1 (a2.map icl)))]⟩) ?_ ?_
  ·refine Ts (Tp z ?_)
   obtain⟨v13_1,hj_7,h⟩:=bs h
   refine Tri.joinv v13_1 (fun(y:Int)=>⟨[(0,.ptr 80307000 0),(1,Ai a1),(8,.hnd 3615000),(11,.hnd 11),(12,Ai v12_1),(13,Ai y)],[(80307003,some (.arr 3 1 (a0.flow.map icl))),(80307004,some (.arr 3 1 (a0.want.map icl))),(80307000,some (.box [Ai a0.Net.Nodes,.lst 3 (a0.Net.Diffs.map Diff.cl),.hnd 80307003,.hnd 80307004])),(3615000,some (.arr 3 1 (x21.map icl))),(11,some (.arr 3 1 (vo11_1.map icl))),(20260200,some (.arr 3 1 (a2.map icl)))]⟩) ?_ ?_
   ·refine Ts (Tr (Qe 1 z (Q1 z z z (Ax.lnh (cl:=icl) z slc_26 z z) (Qd z ?_))))
    obtain⟨v13_3,hj_1,h⟩:=bs h
    refine Tri.rngLv hj_1 (fun p=>⟨[(0,.ptr 80307000 0),(1,Ai a1),(8,.hnd 3615000),(11,.hnd 11),(12,Ai v12_1),(13,Ai p.2),(80,.hnd 11),(81,Ai (vo11_1.length:Int)),(82,Ai p.1)],[(80307003,some (.arr 3 1 (a0.flow.map icl))),(80307004,some (.arr 3 1 (a0.want.map icl))),(80307000,some (.box [Ai a0.Net.Nodes,.lst 3 (a0.Net.Diffs.map Diff.cl),.hnd 80307003,.hnd 80307004])),(3615000,some (.arr 3 1 (x21.map icl))),(11,some (.arr 3 1 (vo11_1.map icl))),(20260200,some (.arr 3 1 (a2.map icl)))]⟩) (fun(y:Int)=>⟨[(0,.ptr 80307000 0),(1,Ai a1),(8,.hnd 3615000),(11,.hnd 11),(12,Ai v12_1),(13,Ai y)],[(80307003,some (.arr 3 1 (a0.flow.map icl))),(80307004,some (.arr 3 1 (a0.want.map icl))),(80307000,some (.box [Ai a0.Net.Nodes,.lst 3 (a0.Net.Diffs.map Diff.cl),.hnd 80307003,.hnd 80307004])),(3615000,some (.arr 3 1 (x21.map icl))),(11,some (.arr 3 1 (vo11_1.map icl))),(20260200,some (.arr 3 1 (a2.map icl)))]⟩) (Ee [80307003,80307004,80307000,3615000,11,20260200] z ⟨imf icl_im,imf icl_im,imf icl_im,imf icl_im,imf icl_im,u0⟩) ?_ ?_ ?_
    ·refine Ts (Tr (Qe 1 z (Q1 z z z (Ax.lnh (cl:=icl) z slc_26 z z) (Qd z ?_))))
     obtain⟨voo0_2_1,hj_2,h⟩:=bs h
     refine Tri.rngLv hj_2 (fun p=>⟨[(0,.ptr 80307000 0),(1,Ai a1),(8,.hnd 3615000),(12,Ai v12_1),(13,Ai v13_3),(114,.hnd 11),(115,Ai (vo11_1.length:Int)),(116,Ai p.1)],[(80307003,some (.arr 3 1 (p.2.map icl))),(80307004,some (.arr 3 1 (a0.want.map icl))),(80307000,some (.box [Ai a0.Net.Nodes,.lst 3 (a0.Net.Diffs.map Diff.cl),.hnd 80307003,.hnd 80307004])),(3615000,some (.arr 3 1 (x21.map icl))),(11,some (.arr 3 1 (vo11_1.map icl))),(20260200,some (.arr 3 1 (a2.map icl)))]⟩) (fun(y:List Int)=>⟨[(0,.ptr 80307000 0),(1,Ai a1),(12,Ai v12_1),(13,Ai v13_3)],[(80307003,some (.arr 3 1 (y.map icl))),(80307004,some (.arr 3 1 (a0.want.map icl))),(80307000,some (.box [Ai a0.Net.Nodes,.lst 3 (a0.Net.Diffs.map Diff.cl),.hnd 80307003,.hnd 80307004])),(20260200,some (.arr 3 1 (a2.map icl)))]⟩) (Ee [80307003,80307004,80307000,3615000,11,20260200] z ⟨imf icl_im,imf icl_im,imf icl_im,imf icl_im,imf icl_im,u0⟩) ?_ ?_ ?_
     ·refine Ts (Tp z ?_)
      obtain⟨voo0_3,hj_4,h⟩:=bs h
      refine Tri.joinv voo0_3 (fun(y:List Int)=>⟨[(0,.ptr 80307000 0),(12,Ai v12_1),(13,Ai v13_3)],[(80307003,some (.arr 3 1 (voo0_2_1.map icl))),(80307004,some (.arr 3 1 (y.map icl))),(80307000,some (.box [Ai a0.Net.Nodes,.lst 3 (a0.Net.Diffs.map Diff.cl),.hnd 80307003,.hnd 80307004])),(20260200,some (.arr 3 1 (a2.map icl)))]⟩) ?_ ?_
      ·refine Ts (Tp z ?_)
       obtain⟨vook0_3,hj_3,h⟩:=bs h
       refine Tri.joinv vook0_3 (fun(y:List Int)=>⟨[],[(80307003,some (.arr 3 1 (voo0_2_1.map icl))),(80307004,some (.arr 3 1 (y.map icl))),(80307000,some (.box [Ai a0.Net.Nodes,.lst 3 (a0.Net.Diffs.map Diff.cl),.hnd 80307003,.hnd 80307004])),(20260200,some (.arr 3 1 (a2.map icl)))]⟩) ?_ ?_
       ·refine Tp z (Te ?_)
        refine Rr (fun r=>Ab r.1) (fun r=>[(80307003,.arr 3 1 (r.2.1.flow.map icl)),(80307004,.arr 3 1 (r.2.1.want.map icl)),(80307000,.box [Ai r.2.1.Net.Nodes,.lst 3 (r.2.1.Net.Diffs.map Diff.cl),.hnd 80307003,.hnd 80307004]),(20260200,.arr 3 1 (r.2.2.map icl))]) [80307003,80307004,80307000,20260200] h ?_ ?_
        ·rfl
        exact⟨imf icl_im,imf icl_im,imf icl_im,u0⟩
       have h:=hj_3
       refine Tc (b:=(v12_1 != 0)) z (fun hb_1=>?_) (fun hb_1=>?_)
       ·have h:=cq hb_1 h
        refine Tri.region (Qe 1 z (Q1 z z z (Ax.nil_ptr z z z) (Qe 3 z ?_)))
        obtain⟨y_1,hy_1,h⟩:=bs h
        exact Q1 z z z (Ax.ixh (cl:=icl) z slc_26 z z z hy_1) (Q1 z z z (Ax.l1_arr (cl:=icl) z siz_3 z z hy_1 z) (Qe 2 z (Q1 z z z (Ax.ixh (cl:=icl) z slc_26 z z z hy_1) (Qs z z (x:=some (.arr 3 1 ((voo0_3.set (Int.toNat v12_1) (W (y_1+v13_3))).map icl))) (Ax.st_arr (cl:=icl) (q:=(W (y_1+v13_3))) z siz_3 z z hy_1 z z z z z z) (Rx (Xi (voo0_3.set (Int.toNat v12_1) (W (y_1+v13_3))) (An h (Ee [80307003,80307004,80307000,20260200] z ⟨imf icl_im,imf icl_im,imf icl_im,u0⟩))))))))
       have h:=cw hb_1 h
       exact Tk (Xi voo0_3 (An h (Ee [80307003,80307004,80307000,20260200] z ⟨imf icl_im,imf icl_im,imf icl_im,u0⟩)))
      have h:=hj_4
      refine Tc (b:=(a1 != 0)) z (fun hb_2=>?_) (fun hb_2=>?_)
      ·have h:=cq hb_2 h
       refine Tri.region (Qe 1 z (Q1 z z z (Ax.nil_ptr z z z) (Qe 3 z ?_)))
       obtain⟨y_2,hy_2,h⟩:=bs h
       exact Q1 z z z (Ax.ixh (cl:=icl) z slc_26 z z z hy_2) (Q1 z z z (Ax.l1_arr (cl:=icl) z siz_3 z z hy_2 z) (Qe 2 z (Q1 z z z (Ax.ixh (cl:=icl) z slc_26 z z z hy_2) (Qs z z (x:=some (.arr 3 1 ((a0.want.set (Int.toNat a1) (W (y_2 - v13_3))).map icl))) (Ax.st_arr (cl:=icl) (q:=(W (y_2 - v13_3))) z siz_3 z z hy_2 z z z z z z) (Rx (Xi (a0.want.set (Int.toNat a1) (W (y_2 - v13_3))) (An h (Ee [80307003,80307004,80307000,20260200] z ⟨imf icl_im,imf icl_im,imf icl_im,u0⟩))))))))
      have h:=cw hb_2 h
      exact Tk (Xi a0.want (An h (Ee [80307003,80307004,80307000,20260200] z ⟨imf icl_im,imf icl_im,imf icl_im,u0⟩)))
     ·rintro v116 voo0_2 hi_2 h
      refine Tp z (Ts (Tc (b:=(decide (v116 < (vo11_1.length:Int)))) z (fun hb_3=>?_) (fun hb_3=>?_)))
      ·exact(lt_f hi_2 hb_3).elim
      exact Tri.exit (Xi voo0_2 (An h (Ee [80307003,80307004,80307000,20260200] z ⟨imf icl_im,imf icl_im,imf icl_im,u0⟩)))
     rintro nx_2 x_1 v116 voo0_2 _ hi_2 hw_2 hx_1 h
     refine Tp z (Ts (Tc (b:=(decide (v116 < (vo11_1.length:Int)))) z (fun hb_4=>?_) (fun hb_4=>?_)))
     ·refine Tk (Ts (Tri.block (Tr (Q1 z z z (Ax.ixh (cl:=icl) z slc_26 z z z hx_1) (Q1 z z z (Ax.l1_arr (cl:=icl) z siz_3 z z hx_1 z) (Qd z (Tr (Qe 2 z (Q1 z z z (Ax.nil_ptr z z z) (Qe 3 z (Q1 z z z (Ax.ln (cl:=Diff.cl) z slc_32 z) (Qd z ?_))))))))))))
      obtain⟨voo0_2_2,hj_5,h⟩:=bs h
      refine Tri.joinv voo0_2_2 (fun(y:List Int)=>⟨[(0,.ptr 80307000 0),(1,Ai a1),(8,.hnd 3615000),(12,Ai v12_1),(13,Ai v13_3),(114,.hnd 11),(115,Ai (vo11_1.length:Int)),(116,Ai v116)],[(80307003,some (.arr 3 1 (y.map icl))),(80307004,some (.arr 3 1 (a0.want.map icl))),(80307000,some (.box [Ai a0.Net.Nodes,.lst 3 (a0.Net.Diffs.map Diff.cl),.hnd 80307003,.hnd 80307004])),(3615000,some (.arr 3 1 (x21.map icl))),(11,some (.arr 3 1 (vo11_1.map icl))),(20260200,some (.arr 3 1 (a2.map icl)))]⟩) ?_ ?_
      ·exact Tq z (Xi (v116+1,voo0_2_2) (An (An z h) (Es [80307003,80307004,80307000,3615000,11,20260200] [116] z ⟨imf icl_im,imf icl_im,imf icl_im,imf icl_im,imf icl_im,u0⟩ ⟨.imm (Sub.of_eq (show Ai (v116+1)=Ai (W (v116+1)) from congrArg Ai hw_2.symm)) z,u0⟩)))
      have h:=hj_5
      refine Tc (b:=(decide (x_1≥(a0.Net.Diffs.length:Int)))) z (fun hb_5=>?_) (fun hb_5=>?_)
      ·have h:=cq hb_5 h
       refine Td [[],[0],[0,1],[0,1,2],[],[],[],[6],[6,7],[6,7,8],[6,7,8,9],[6,7,8,9,10],[5,6,7,8,9,10,11],[4,5,6,7,8,9,10,11,12],[4,5,6,7,8,9,10,11,12,13],[0,1,2,3,4,5,6,7,8,9,10,11,12,13,14],[0,1,2,3,4,5,6,7,8,9,10,11,12,13,14,15],[],[0,1,2,3,4,5,6,7,8,9,10,11,12,13,14,15,16,17],[0,1,2,3,4,5,6,7,8,9,10,11,12,13,14,15,16,17,18],[0,1,2,3,4,5,6,7,8,9,10,11,12,13,14,15,16,17,18,19]] hmix (by kernel_rfl) (Qe 1 z (Q1 z z z (Ax.nil_ptr z z z) (Qe 5 z (Q1 z z z (Ax.nil_ptr z z z) (Qe 3 z (Q1 z z z (Ax.ln (cl:=Diff.cl) z slc_32 z) (Qe 1 z ?_)))))))
       obtain⟨y_3,hy_3,h⟩:=bs h
       refine Q1 z z z (Ax.ixh (cl:=icl) z slc_26 z z z hy_3) (Q1 z z z (Ax.l1_arr (cl:=icl) z siz_3 z z hy_3 z) ?_)
       obtain⟨y_4,hy_4,h⟩:=bs h
       refine Q1 z z z (Ax.ixh (cl:=icl) z slc_26 z z z hy_4) (Q1 z z z (Ax.l1_arr (cl:=icl) z siz_3 z z hy_4 z) (Qe 2 z (Q1 z z z (Ax.ixh (cl:=icl) z slc_26 z z z hy_4) (Qs z z (x:=some (.arr 3 1 ((voo0_2.set (Int.toNat y_3) (W (y_4 - v13_3))).map icl))) (Ax.st_arr (cl:=icl) (q:=(W (y_4 - v13_3))) z siz_3 z z hy_4 z z z z z z) (Rx ⟨by kernel_rfl,freshL_of [] (by kernel_rfl) (by kernel_rfl),?_⟩)))))
       exact Xi (voo0_2.set (Int.toNat y_3) (W (y_4 - v13_3))) (An h (Ee [80307003,80307004,80307000,3615000,11,20260200] z ⟨imf icl_im,imf icl_im,imf icl_im,imf icl_im,imf icl_im,u0⟩))
      have h:=cw hb_5 h
      refine Tri.region (Qe 1 z (Q1 z z z (Ax.nil_ptr z z z) (Qe 3 z ?_)))
      obtain⟨y_5,hy_5,h⟩:=bs h
      exact Q1 z z z (Ax.ixh (cl:=icl) z slc_26 z z z hy_5) (Q1 z z z (Ax.l1_arr (cl:=icl) z siz_3 z z hy_5 z) (Qe 2 z (Q1 z z z (Ax.ixh (cl:=icl) z slc_26 z z z hy_5) (Qs z z (x:=some (.arr 3 1 ((voo0_2.set (Int.toNat x_1) (W (y_5+v13_3))).map icl))) (Ax.st_arr (cl:=icl) (q:=(W (y_5+v13_3))) z siz_3 z z hy_5 z z z z z z) (Rx (Xi (voo0_2.set (Int.toNat x_1) (W (y_5+v13_3))) (An h (Ee [80307003,80307004,80307000,3615000,11,20260200] z ⟨imf icl_im,imf icl_im,imf icl_im,imf icl_im,imf icl_im,u0⟩))))))))
     exact(lt_t hi_2 hb_4).elim
    ·rintro v82 v13_2 hi_1 h
     refine Tp z (Ts (Tc (b:=(decide (v82 < (vo11_1.length:Int)))) z (fun hb_6=>?_) (fun hb_6=>?_)))
     ·exact(lt_f hi_1 hb_6).elim
     exact Tri.exit (Xi v13_2 (An h (Ee [80307003,80307004,80307000,3615000,11,20260200] z ⟨imf icl_im,imf icl_im,imf icl_im,imf icl_im,imf icl_im,u0⟩)))
    rintro nx_1 x v82 v13_2 _ hi_1 hw_1 hx h
    refine Tp z (Ts (Tc (b:=(decide (v82 < (vo11_1.length:Int)))) z (fun hb_7=>?_) (fun hb_7=>?_)))
    ·refine Tk (Ts (Tri.block (Tr (Q1 z z z (Ax.ixh (cl:=icl) z slc_26 z z z hx) (Q1 z z z (Ax.l1_arr (cl:=icl) z siz_3 z z hx z) (Qd z (Tr (Qe 2 z (Q1 z z z (Ax.nil_ptr z z z) (Qe 3 z (Q1 z z z (Ax.ln (cl:=Diff.cl) z slc_32 z) (Qd z ?_))))))))))))
     obtain⟨v13_4,hj_6,h⟩:=bs h
     refine Tri.joinv v13_4 (fun(y:Int)=>⟨[(0,.ptr 80307000 0),(1,Ai a1),(8,.hnd 3615000),(11,.hnd 11),(12,Ai v12_1),(13,Ai y),(80,.hnd 11),(81,Ai (vo11_1.length:Int)),(82,Ai v82)],[(80307003,some (.arr 3 1 (a0.flow.map icl))),(80307004,some (.arr 3 1 (a0.want.map icl))),(80307000,some (.box [Ai a0.Net.Nodes,.lst 3 (a0.Net.Diffs.map Diff.cl),.hnd 80307003,.hnd 80307004])),(3615000,some (.arr 3 1 (x21.map icl))),(11,some (.arr 3 1 (vo11_1.map icl))),(20260200,some (.arr 3 1 (a2.map icl)))]⟩) ?_ ?_
     ·exact Tq z (Xi (v82+1,v13_4) (An (An z h) (Es [80307003,80307004,80307000,3615000,11,20260200] [82] z ⟨imf icl_im,imf icl_im,imf icl_im,imf icl_im,imf icl_im,u0⟩ ⟨.imm (Sub.of_eq (show Ai (v82+1)=Ai (W (v82+1)) from congrArg Ai hw_1.symm)) z,u0⟩)))
     have h:=hj_6
     refine Tc (b:=(decide (x≥(a0.Net.Diffs.length:Int)))) z (fun hb_8=>?_) (fun hb_8=>?_)
     ·have h:=cq hb_8 h
      refine Td [[],[],[1],[1,2],[1,2,3],[],[],[],[7],[7,8],[7,8,9],[7,8,9,10],[7,8,9,10,11],[6,7,8,9,10,11,12],[5,6,7,8,9,10,11,12,13],[5,6,7,8,9,10,11,12,13,14],[1,2,3,4,5,6,7,8,9,10,11,12,13,14,15],[1,2,3,4,5,6,7,8,9,10,11,12,13,14,15,16],[0,1,2,3,4,5,6,7,8,9,10,11,12,13,14,15,16,17],[]] hmix (by kernel_rfl) (Qe 2 z (Q1 z z z (Ax.nil_ptr z z z) (Qe 5 z (Q1 z z z (Ax.nil_ptr z z z) (Qe 3 z (Q1 z z z (Ax.ln (cl:=Diff.cl) z slc_32 z) (Qe 1 z ?_)))))))
      obtain⟨y_6,hy_6,h⟩:=bs h
      refine Q1 z z z (Ax.ixh (cl:=icl) z slc_26 z z z hy_6) (Q1 z z z (Ax.l1_arr (cl:=icl) z siz_3 z z hy_6 z) ?_)
      obtain⟨y_7,hy_7,h⟩:=bs h
      refine Q1 z z z (Ax.ixh (cl:=icl) z slc_26 z z z hy_7) (Q1 z z z (Ax.l1_arr (cl:=icl) z siz_3 z z hy_7 z) (Q1 z z z (v:=Ai (if y_7 < v13_2 then y_7 else v13_2)) (Ax.min z z z) (Qe 1 z (Rx ⟨by kernel_rfl,freshL_of [] (by kernel_rfl) (by kernel_rfl),?_⟩))))
      exact Xi (if y_7 < v13_2 then y_7 else v13_2) (An h (Ee [80307003,80307004,80307000,3615000,11,20260200] z ⟨imf icl_im,imf icl_im,imf icl_im,imf icl_im,imf icl_im,u0⟩))
     have h:=cw hb_8 h
     exact Tk (Xi v13_2 (An h (Ee [80307003,80307004,80307000,3615000,11,20260200] z ⟨imf icl_im,imf icl_im,imf icl_im,imf icl_im,imf icl_im,u0⟩)))
    exact(lt_t hi_1 hb_7).elim
   have h:=hj_7
   refine Tc (b:=(v12_1 != 0)) z (fun hb_9=>?_) (fun hb_9=>?_)
   ·have h:=cq hb_9 h
    refine Tri.region (Qe 2 z (Q1 z z z (Ax.nil_ptr z z z) (Qe 3 z ?_)))
    obtain⟨y_8,hy_8,h⟩:=bs h
    exact Q1 z z z (Ax.ixh (cl:=icl) z slc_26 z z z hy_8) (Q1 z z z (Ax.l1_arr (cl:=icl) z siz_3 z z hy_8 z) (Qe 1 z (Q1 z z z (v:=Ai (if (W (-y_8)) < v13 then (W (-y_8)) else v13)) (Ax.min z z z) (Qd z (Xi (if (W (-y_8)) < v13 then (W (-y_8)) else v13) (An h (Ee [80307003,80307004,80307000,3615000,11,20260200] z ⟨imf icl_im,imf icl_im,imf icl_im,imf icl_im,imf icl_im,u0⟩)))))))
   have h:=cw hb_9 h
   exact Tk (Xi v13 (An h (Ee [80307003,80307004,80307000,3615000,11,20260200] z ⟨imf icl_im,imf icl_im,imf icl_im,imf icl_im,imf icl_im,u0⟩)))
  have h:=hj_8
  refine Tc (b:=(a1 != 0)) z (fun hb_10=>?_) (fun hb_10=>?_)
  ·have h:=cq hb_10 h
   refine Tri.region (Qe 1 z (Q1 z z z (Ax.nil_ptr z z z) (Qe 3 z ?_)))
   obtain⟨y_9,hy_9,h⟩:=bs h
   exact Q1 z z z (Ax.ixh (cl:=icl) z slc_26 z z z hy_9) (Q1 z z z (Ax.l1_arr (cl:=icl) z siz_3 z z hy_9 z) (Qd z (Xi y_9 (An h (Ee [80307003,80307004,80307000,3615000,11,20260200] z ⟨imf icl_im,imf icl_im,imf icl_im,imf icl_im,imf icl_im,u0⟩)))))
  have h:=cw hb_10 h
  exact Tk (Xi 1152921504606846976 (An h (Ee [80307003,80307004,80307000,3615000,11,20260200] z ⟨imf icl_im,imf icl_im,imf icl_im,imf icl_im,imf icl_im,u0⟩)))
 rintro nx ⟨vo11,v12⟩ h
 refine Ts (Tr (Qe 3 z ?_))
 obtain⟨y_10,hy_10,h⟩:=bs h
 refine Q1 z z z (Ax.ixh (cl:=icl) z slc_26 z z z hy_10) (Q1 z z z (Ax.l1_arr (cl:=icl) z siz_3 z z hy_10 z) (Qd z (Tc (b:=(decide (y_10≥0))) z (fun hb_11=>?_) (fun hb_11=>?_))))
 ·have h:=cq hb_11 h
  refine Tk (Ts (Tri.block (Tri.region (Qe 4 z (Q1 z z z (Ax.ixh (cl:=icl) z slc_26 z z z hy_10) (Q1 z z z (Ax.l1_arr (cl:=icl) z siz_3 z z hy_10 z) (Q1 z z z (v:=.lst 1 (([y_10]:List Int).map icl)) (Ax.sl (xs:=([y_10]:List Int)) z slc_26 z z ⟨Sub.refl _,u0⟩ z icl_len icl_one icl_im) ?_)))))))
  obtain⟨z58,hz,h⟩:=bs h
  refine Qa z z z (v:=.hnd 58) (x:=some (.arr 3 1 (z58.map icl))) (Ax.app_l (cl:=icl) z z slc_26 z z z icl_one icl_im hz z z) z z z z z (Qd z (Tri.region (Qe 4 z (Q1 z z z (Ax.ixh (cl:=icl) z slc_26 z z z hy_10) (Q1 z z z (Ax.l1_arr (cl:=icl) z siz_3 z z hy_10 z) ?_)))))
  obtain⟨y_11,hy_11,h⟩:=bs h
  exact Q1 z z z (Ax.ixh (cl:=Diff.cl) z slc_32 z z z hy_11) (Q1 z z z (v:=.eptr 3605000 3 (Int.toNat y_10) 0) (Ax.field_eptr z fld_174_0 z z) (Q1 z z z (Ax.l1_arr (cl:=Diff.cl) z siz_3 z z hy_11 z) (Qd z (Xi (z58,y_11.From) (An h (Ee [80307003,80307004,80307000,3605000,3615000,3125001,3125002,3125003,9,58,20260200] z ⟨imf icl_im,imf icl_im,imf Diff_im,imf icl_im,imf icl_im,imf bcl_im,imf icl_im,imf icl_im,imf icl_im,u0⟩))))))
 have h:=cw hb_11 h
 exact Tri.exit (Xi (vo11,v12) (An h (Ee [80307003,80307004,80307000,3615000,11,20260200] z ⟨imf icl_im,imf icl_im,imf icl_im,imf icl_im,imf icl_im,u0⟩)))
theorem f342_ok {K:Nat} {a0:Use_diffs} {r:List Int} (h:f342 K a0=some r):CallOK Tryz.prog 342 [.ipt (Use_diffs.cl a0) 0] [] (.lst 1 (r.map icl)) []:=by
 refine Co Tryz.func342 z z (nl z) ?_
 unfold f342 at h
 refine Tr (Qn z z z (v:=.hnd 2) (x:=some (.arr 3 1 (([]:List Int).map icl))) (Ax.nil_new 3 1 (.inr z) z) z z z z z (Rx (Tr (Qn z z z (v:=.hnd 6) (x:=some (.arr 3 1 (([0]:List Int).map icl))) (Ax.so (xs:=([0]:List Int)) z z slc_26 z z ⟨Sub.refl _,u0⟩ z icl_len icl_one icl_im) z z z z z (Qd z (Ts (Tr (Qe 1 z (Q1 z z z (Ax.nil_ipt z z) (Qe 2 z (Q1 z z z (Ax.ln (cl:=icl) z slc_26 z) (Qd z ?_))))))))))))
 obtain⟨vo3_1,hj,h⟩:=bs h
 refine Tri.rngLv hj (fun p=>⟨[(3,.hnd 6),(10,.lst 1 (a0.want.map icl)),(11,Ai (a0.want.length:Int)),(12,Ai p.1)],[(6,some (.arr 3 1 (p.2.map icl)))]⟩) (fun(y:List Int)=>⟨[(3,.hnd 6)],[(6,some (.arr 3 1 (y.map icl)))]⟩) (Ee [6] z ⟨im_flat icl_im ([0]:List Int),u0⟩) ?_ ?_ ?_
 ·refine Tp z (Te ?_)
  refine RetQ.eq2 (fun r=>.lst 1 (r.map icl)) (fun r=>[]) (Option.some.inj h) ?_
  exact RetQ.mk (vs:=[.hnd 6]) (.inr z) ⟨_,_,z,.tmp z,z⟩ [6] [] z z u0 (.frz (.hnd mh z (im_flat icl_im vo3_1)) z)
 ·rintro v12 vo3 hi h
  refine Tp z (Ts (Tc (b:=(decide (v12 < (a0.want.length:Int)))) z (fun hb=>?_) (fun hb=>?_)))
  ·exact(lt_f hi hb).elim
  exact Tri.exit (Xi vo3 (An h (Ee [6] z ⟨imf icl_im,u0⟩)))
 rintro nx x v12 vo3 _ hi hw hx h
 refine Tp z (Ts (Tc (b:=(decide (v12 < (a0.want.length:Int)))) z (fun hb_1=>?_) (fun hb_1=>?_)))
 ·refine Tk (Ts (Tri.block (Tr (Qe 1 z (Q1 z z z (Ax.ix (cl:=icl) z slc_26 z z hx) (Qd z (Ts (Tri.join1 ⟨[(3,.hnd 6),(4,Ai v12),(10,.lst 1 (a0.want.map icl)),(11,Ai (a0.want.length:Int)),(12,Ai v12),(22,Ab ((decide (v12 > 0))&&(decide (x < 0))))],[(6,some (.arr 3 1 (vo3.map icl)))]⟩ ?_ ?_))))))))
  ·obtain⟨vo3_2,hj_1,h⟩:=bs h
   refine Tri.joinv vo3_2 (fun(y:List Int)=>⟨[(3,.hnd 26),(10,.lst 1 (a0.want.map icl)),(11,Ai (a0.want.length:Int)),(12,Ai v12)],[(26,some (.arr 3 1 (y.map icl)))]⟩) ?_ ?_
   ·exact Tq z (Xi (v12+1,vo3_2) (An (An z h) (Es [26] [12] z ⟨imf icl_im,u0⟩ ⟨.imm (Sub.of_eq (show Ai (v12+1)=Ai (W (v12+1)) from congrArg Ai hw.symm)) z,u0⟩)))
   have h:=hj_1
   refine Tc (b:=((decide (v12 > 0))&&(decide (x < 0)))) z (fun hb_2=>?_) (fun hb_2=>?_)
   ·have h:=cq hb_2 h
    refine Tri.region (Qe 2 z (Q1 z z z (v:=.lst 1 (([v12]:List Int).map icl)) (Ax.sl (xs:=([v12]:List Int)) z slc_26 z z ⟨Sub.refl _,u0⟩ z icl_len icl_one icl_im) ?_))
    obtain⟨z26,hz,h⟩:=bs h
    exact Qa z z z (v:=.hnd 26) (x:=some (.arr 3 1 (z26.map icl))) (Ax.app_l (cl:=icl) z z slc_26 z z z icl_one icl_im hz z z) z z z z z (Qd z (Xi z26 (An h (Ee [26] z ⟨imf icl_im,u0⟩))))
   have h:=cw hb_2 h
   exact Tk (Xi vo3 (An h (Ee [6] z ⟨imf icl_im,u0⟩)))
  refine Tri.region (Qe 3 z ?_)
  rcases b2 (decide (v12 > 0)) with hb_3 | hb_3
  ·exact Qk 19 hb_3 z (Qd z ((Es [6] [22] z ⟨imf icl_im,u0⟩ ⟨.imm (Sub.of_eq (show Ab ((decide (v12 > 0))&&(decide (x < 0)))=Ab (decide (x < 0)) by simp only [cond_true,cond_false,Bool.true_or,Bool.false_or,Bool.true_and,Bool.false_and,Bool.or_true,Bool.or_false,Bool.and_true,Bool.and_false,hb_1,hb_3])) z,u0⟩)))
  exact Qk 19 hb_3 z (Qd z ((Es [6] [22] z ⟨imf icl_im,u0⟩ ⟨.imm (Sub.of_eq (show Ab ((decide (v12 > 0))&&(decide (x < 0)))=Ab false by simp only [cond_true,cond_false,Bool.true_or,Bool.false_or,Bool.true_and,Bool.false_and,Bool.or_true,Bool.or_false,Bool.and_true,Bool.and_false,hb_1,hb_3])) z,u0⟩)))
 exact(lt_t hi hb_1).elim
theorem f342_fr {K:Nat} {a0:Use_diffs} {r:List Int} (h:f342 K a0=some r):CallOK Tryz.prog 342 [.ipt (Use_diffs.cl a0) 0] [] (.hnd 20260200) [(20260200,.arr 3 1 (r.map icl))]:=by
 refine Co Tryz.func342 z z (nl z) ?_
 unfold f342 at h
 refine Tr (Qn z z z (v:=.hnd 2) (x:=some (.arr 3 1 (([]:List Int).map icl))) (Ax.nil_new 3 1 (.inr z) z) z z z z z (Rx (Tr (Qn z z z (v:=.hnd 6) (x:=some (.arr 3 1 (([0]:List Int).map icl))) (Ax.so (xs:=([0]:List Int)) z z slc_26 z z ⟨Sub.refl _,u0⟩ z icl_len icl_one icl_im) z z z z z (Qd z (Ts (Tr (Qe 1 z (Q1 z z z (Ax.nil_ipt z z) (Qe 2 z (Q1 z z z (Ax.ln (cl:=icl) z slc_26 z) (Qd z ?_))))))))))))
 obtain⟨vo3_1,hj,h⟩:=bs h
 refine Tri.rngLv hj (fun p=>⟨[(3,.hnd 6),(10,.lst 1 (a0.want.map icl)),(11,Ai (a0.want.length:Int)),(12,Ai p.1)],[(6,some (.arr 3 1 (p.2.map icl)))]⟩) (fun(y:List Int)=>⟨[(3,.hnd 6)],[(6,some (.arr 3 1 (y.map icl)))]⟩) (Ee [6] z ⟨im_flat icl_im ([0]:List Int),u0⟩) ?_ ?_ ?_
 ·refine Tp z (Te ?_)
  refine Rr (fun r=>.hnd 20260200) (fun r=>[(20260200,.arr 3 1 (r.map icl))]) [6] h ?_ ?_
  ·rfl
  exact⟨imf icl_im,u0⟩
 ·rintro v12 vo3 hi h
  refine Tp z (Ts (Tc (b:=(decide (v12 < (a0.want.length:Int)))) z (fun hb=>?_) (fun hb=>?_)))
  ·exact(lt_f hi hb).elim
  exact Tri.exit (Xi vo3 (An h (Ee [6] z ⟨imf icl_im,u0⟩)))
 rintro nx x v12 vo3 _ hi hw hx h
 refine Tp z (Ts (Tc (b:=(decide (v12 < (a0.want.length:Int)))) z (fun hb_1=>?_) (fun hb_1=>?_)))
 ·refine Tk (Ts (Tri.block (Tr (Qe 1 z (Q1 z z z (Ax.ix (cl:=icl) z slc_26 z z hx) (Qd z (Ts (Tri.join1 ⟨[(3,.hnd 6),(4,Ai v12),(10,.lst 1 (a0.want.map icl)),(11,Ai (a0.want.length:Int)),(12,Ai v12),(22,Ab ((decide (v12 > 0))&&(decide (x < 0))))],[(6,some (.arr 3 1 (vo3.map icl)))]⟩ ?_ ?_))))))))
  ·obtain⟨vo3_2,hj_1,h⟩:=bs h
   refine Tri.joinv vo3_2 (fun(y:List Int)=>⟨[(3,.hnd 26),(10,.lst 1 (a0.want.map icl)),(11,Ai (a0.want.length:Int)),(12,Ai v12)],[(26,some (.arr 3 1 (y.map icl)))]⟩) ?_ ?_
   ·exact Tq z (Xi (v12+1,vo3_2) (An (An z h) (Es [26] [12] z ⟨imf icl_im,u0⟩ ⟨.imm (Sub.of_eq (show Ai (v12+1)=Ai (W (v12+1)) from congrArg Ai hw.symm)) z,u0⟩)))
   have h:=hj_1
   refine Tc (b:=((decide (v12 > 0))&&(decide (x < 0)))) z (fun hb_2=>?_) (fun hb_2=>?_)
   ·have h:=cq hb_2 h
    refine Tri.region (Qe 2 z (Q1 z z z (v:=.lst 1 (([v12]:List Int).map icl)) (Ax.sl (xs:=([v12]:List Int)) z slc_26 z z ⟨Sub.refl _,u0⟩ z icl_len icl_one icl_im) ?_))
    obtain⟨z26,hz,h⟩:=bs h
    exact Qa z z z (v:=.hnd 26) (x:=some (.arr 3 1 (z26.map icl))) (Ax.app_l (cl:=icl) z z slc_26 z z z icl_one icl_im hz z z) z z z z z (Qd z (Xi z26 (An h (Ee [26] z ⟨imf icl_im,u0⟩))))
   have h:=cw hb_2 h
   exact Tk (Xi vo3 (An h (Ee [6] z ⟨imf icl_im,u0⟩)))
  refine Tri.region (Qe 3 z ?_)
  rcases b2 (decide (v12 > 0)) with hb_3 | hb_3
  ·exact Qk 19 hb_3 z (Qd z ((Es [6] [22] z ⟨imf icl_im,u0⟩ ⟨.imm (Sub.of_eq (show Ab ((decide (v12 > 0))&&(decide (x < 0)))=Ab (decide (x < 0)) by simp only [cond_true,cond_false,Bool.true_or,Bool.false_or,Bool.true_and,Bool.false_and,Bool.or_true,Bool.or_false,Bool.and_true,Bool.and_false,hb_1,hb_3])) z,u0⟩)))
  exact Qk 19 hb_3 z (Qd z ((Es [6] [22] z ⟨imf icl_im,u0⟩ ⟨.imm (Sub.of_eq (show Ab ((decide (v12 > 0))&&(decide (x < 0)))=Ab false by simp only [cond_true,cond_false,Bool.true_or,Bool.false_or,Bool.true_and,Bool.false_and,Bool.or_true,Bool.or_false,Bool.and_true,Bool.and_false,hb_1,hb_3])) z,u0⟩)))
 exact(lt_t hi hb_1).elim
theorem f303_ok {K:Nat} {a0:Use_diffs} {r:Bool × Use_diffs} (h:f303 K a0=some r):CallOK Tryz.prog 303 [.ptr 80307000 0] [(80307003,.arr 3 1 (a0.flow.map icl)),(80307004,.arr 3 1 (a0.want.map icl)),(80307000,.box [Ai a0.Net.Nodes,.lst 3 (a0.Net.Diffs.map Diff.cl),.hnd 80307003,.hnd 80307004])] (Ab r.1) [(80307003,.arr 3 1 (r.2.flow.map icl)),(80307004,.arr 3 1 (r.2.want.map icl)),(80307000,.box [Ai r.2.Net.Nodes,.lst 3 (r.2.Net.Diffs.map Diff.cl),.hnd 80307003,.hnd 80307004])]:=by
 refine Co Tryz.func303 z z (nl z) ?_
 unfold f303 at h
 refine Tp z (Ts (Tp z ?_))
 obtain⟨j,hj,h⟩:=jo h
 refine Tri.whl h (fun p=>⟨[(0,.ptr 80307000 0),(3,Ai p.2.2.2.2)],[(80307003,some (.arr 3 1 (p.2.2.1.map icl))),(80307004,some (.arr 3 1 (p.2.2.2.1.map icl))),(80307000,some (.box [Ai p.1,.lst 3 (p.2.1.map Diff.cl),.hnd 80307003,.hnd 80307004]))]⟩) (fun y=>j y=some r) (fun(y:Int × List Diff × List Int × List Int)=>⟨[(0,.ptr 80307000 0)],[(80307003,some (.arr 3 1 (y.2.2.1.map icl))),(80307004,some (.arr 3 1 (y.2.2.2.map icl))),(80307000,some (.box [Ai y.1,.lst 3 (y.2.1.map Diff.cl),.hnd 80307003,.hnd 80307004]))]⟩) (Ee [80307003,80307004,80307000] z ⟨imf icl_im,imf icl_im,u0⟩) ?_ ?_
 ·rintro⟨vo0_0_1,vo0_1_1,voo0_2_1,voo0_3_1⟩ h
  subst hj
  refine Ts (Tp z ?_)
  obtain⟨j_1,hj_1,h⟩:=jo h
  refine Tri.whl h (fun p=>⟨[(0,.ptr 80307000 0),(4,Ai p.2.2.2.2)],[(80307003,some (.arr 3 1 (p.2.2.1.map icl))),(80307004,some (.arr 3 1 (p.2.2.2.1.map icl))),(80307000,some (.box [Ai p.1,.lst 3 (p.2.1.map Diff.cl),.hnd 80307003,.hnd 80307004]))]⟩) (fun y=>j_1 y=some r) (fun(y:Int × List Diff × List Int × List Int)=>⟨[],[(80307003,some (.arr 3 1 (y.2.2.1.map icl))),(80307004,some (.arr 3 1 (y.2.2.2.map icl))),(80307000,some (.box [Ai y.1,.lst 3 (y.2.1.map Diff.cl),.hnd 80307003,.hnd 80307004]))]⟩) (Ee [80307003,80307004,80307000] z ⟨imf icl_im,imf icl_im,u0⟩) ?_ ?_
  ·rintro⟨vok0_0,vok0_1,vook0_2,vook0_3⟩ h
   subst hj_1
   refine Tp z (Te ?_)
   refine Rr (fun r=>Ab r.1) (fun r=>[(80307003,.arr 3 1 (r.2.flow.map icl)),(80307004,.arr 3 1 (r.2.want.map icl)),(80307000,.box [Ai r.2.Net.Nodes,.lst 3 (r.2.Net.Diffs.map Diff.cl),.hnd 80307003,.hnd 80307004])]) [80307003,80307004,80307000] h ?_ ?_
   ·rfl
   exact⟨imf icl_im,imf icl_im,u0⟩
  rintro nx_1 ⟨vo0_0_2,vo0_1_2,voo0_2_2,voo0_3_2,v4⟩ h
  refine Ts (Tr (Qe 2 z (Q1 z z z (Ax.nil_ptr z z z) (Qd z (Tc (b:=(decide (v4 < vo0_0_2))) z (fun hb=>?_) (fun hb=>?_))))))
  ·have h:=cq hb h
   refine Tk (Ts (Tri.block ?_))
   obtain⟨j_2,hj_2,h⟩:=jo h
   refine Tri.whl h (fun p=>⟨[(0,.ptr 80307000 0),(4,Ai v4)],[(80307003,some (.arr 3 1 (p.2.2.1.map icl))),(80307004,some (.arr 3 1 (p.2.2.2.map icl))),(80307000,some (.box [Ai p.1,.lst 3 (p.2.1.map Diff.cl),.hnd 80307003,.hnd 80307004]))]⟩) (fun y=>j_2 y=some r) (fun(y:Int × List Diff × List Int × List Int)=>⟨[(0,.ptr 80307000 0),(4,Ai v4)],[(80307003,some (.arr 3 1 (y.2.2.1.map icl))),(80307004,some (.arr 3 1 (y.2.2.2.map icl))),(80307000,some (.box [Ai y.1,.lst 3 (y.2.1.map Diff.cl),.hnd 80307003,.hnd 80307004]))]⟩) (Ee [80307003,80307004,80307000] z ⟨imf icl_im,imf icl_im,u0⟩) ?_ ?_
   ·rintro⟨vo0_0_4,vo0_1_4,voo0_2_4,voo0_3_4⟩ h
    subst hj_2
    exact Tq z (Xi (vo0_0_4,vo0_1_4,voo0_2_4,voo0_3_4,(W (v4+1))) (An h (Ee [80307003,80307004,80307000] z ⟨imf icl_im,imf icl_im,u0⟩)))
   rintro nx_2 ⟨vo0_0_3,vo0_1_3,voo0_2_3,voo0_3_3⟩ h
   refine Ts (Tr (Qe 1 z (Q1 z z z (Ax.nil_ptr z z z) (Qe 3 z ?_))))
   obtain⟨y,hy,h⟩:=bs h
   refine Q1 z z z (Ax.ixh (cl:=icl) z slc_26 z z z hy) (Q1 z z z (Ax.l1_arr (cl:=icl) z siz_3 z z hy z) (Qd z (Tc (b:=(decide (y < 0))) z (fun hb_1=>?_) (fun hb_1=>?_))))
   ·have h:=cq hb_1 h
    refine Tk (Tri.block (Tr (Qe 2 z (Qn z z z (v:=.hnd 20260200) (x:=some (.arr 3 1 (([v4]:List Int).map icl))) (Ax.so2 (xs:=([v4]:List Int)) z slc_26 z z ⟨Sub.refl _,u0⟩ z icl_len icl_one icl_im) z z z z z ?_))))
    obtain⟨⟨x48_0,x48_1,x48_2⟩,hc,h⟩:=bs h
    refine Qo [(80307003,.arr 3 1 (voo0_2_3.map icl)),(80307004,.arr 3 1 (voo0_3_3.map icl)),(80307000,.box [Ai vo0_0_3,.lst 3 (vo0_1_3.map Diff.cl),.hnd 80307003,.hnd 80307004]),(20260200,.arr 3 1 (([v4]:List Int).map icl))] [(80307003,.arr 3 1 (x48_1.flow.map icl)),(80307004,.arr 3 1 (x48_1.want.map icl)),(80307000,.box [Ai x48_1.Net.Nodes,.lst 3 (x48_1.Net.Diffs.map Diff.cl),.hnd 80307003,.hnd 80307004]),(20260200,.arr 3 1 (x48_2.map icl))] [] z z z (args:=[.ptr 80307000 0,Ai 0,.hnd 20260200]) (r:=Ab x48_0) (calv z z fnok_341 z) (f341_ok hc) ⟨z,z,z,z,u0⟩ z z z z z (Qd z (Tc (b:=(!x48_0)) z (fun hb_2=>?_) (fun hb_2=>?_)))
    ·have h:=cq hb_2 h
     refine Tp z (Te ?_)
     refine Rr (fun r=>Ab r.1) (fun r=>[(80307003,.arr 3 1 (r.2.flow.map icl)),(80307004,.arr 3 1 (r.2.want.map icl)),(80307000,.box [Ai r.2.Net.Nodes,.lst 3 (r.2.Net.Diffs.map Diff.cl),.hnd 80307003,.hnd 80307004])]) [80307003,80307004,80307000] h ?_ ?_
     ·rfl
     exact⟨imf icl_im,imf icl_im,u0⟩
    have h:=cw hb_2 h
    exact Tk (Xi (x48_1.Net.Nodes,x48_1.Net.Diffs,x48_1.flow,x48_1.want) (An h (Ee [80307003,80307004,80307000] z ⟨imf icl_im,imf icl_im,u0⟩)))
   have h:=cw hb_1 h
   exact Tri.exit (Xi (vo0_0_3,vo0_1_3,voo0_2_3,voo0_3_3) (An h (Ee [80307003,80307004,80307000] z ⟨imf icl_im,imf icl_im,u0⟩)))
  have h:=cw hb h
  exact Tri.exit (Xi (vo0_0_2,vo0_1_2,voo0_2_2,voo0_3_2) (An h (Ee [80307003,80307004,80307000] z ⟨imf icl_im,imf icl_im,u0⟩)))
 rintro nx ⟨vo0_0,vo0_1,voo0_2,voo0_3,v3⟩ h
 refine Ts (Tr (Qe 2 z (Q1 z z z (Ax.nil_ptr z z z) (Qd z (Tc (b:=(decide (v3 < vo0_0))) z (fun hb_3=>?_) (fun hb_3=>?_))))))
 ·have h:=cq hb_3 h
  refine Tk (Ts (Tri.block ?_))
  obtain⟨j_3,hj_3,h⟩:=jo h
  refine Tri.whl h (fun p=>⟨[(0,.ptr 80307000 0),(3,Ai v3)],[(80307003,some (.arr 3 1 (p.2.2.1.map icl))),(80307004,some (.arr 3 1 (p.2.2.2.map icl))),(80307000,some (.box [Ai p.1,.lst 3 (p.2.1.map Diff.cl),.hnd 80307003,.hnd 80307004]))]⟩) (fun y=>j_3 y=some r) (fun(y:Int × List Diff × List Int × List Int)=>⟨[(0,.ptr 80307000 0),(3,Ai v3)],[(80307003,some (.arr 3 1 (y.2.2.1.map icl))),(80307004,some (.arr 3 1 (y.2.2.2.map icl))),(80307000,some (.box [Ai y.1,.lst 3 (y.2.1.map Diff.cl),.hnd 80307003,.hnd 80307004]))]⟩) (Ee [80307003,80307004,80307000] z ⟨imf icl_im,imf icl_im,u0⟩) ?_ ?_
  ·rintro⟨vo0_0_6,vo0_1_6,voo0_2_6,voo0_3_6⟩ h
   subst hj_3
   exact Tq z (Xi (vo0_0_6,vo0_1_6,voo0_2_6,voo0_3_6,(W (v3+1))) (An h (Ee [80307003,80307004,80307000] z ⟨imf icl_im,imf icl_im,u0⟩)))
  rintro nx_3 ⟨vo0_0_5,vo0_1_5,voo0_2_5,voo0_3_5⟩ h
  refine Ts (Tr (Qe 1 z (Q1 z z z (Ax.nil_ptr z z z) (Qe 3 z ?_))))
  obtain⟨y_1,hy_1,h⟩:=bs h
  refine Q1 z z z (Ax.ixh (cl:=icl) z slc_26 z z z hy_1) (Q1 z z z (Ax.l1_arr (cl:=icl) z siz_3 z z hy_1 z) (Qd z (Tc (b:=(decide (y_1 > 0))) z (fun hb_4=>?_) (fun hb_4=>?_))))
  ·have h:=cq hb_4 h
   refine Tk (Tri.block (Tr (Qe 3 z ?_)))
   obtain⟨x25,hc_1,h⟩:=bs h
   refine Qlf [80307000,80307003,80307004] [(20260200,.arr 3 1 (x25.map icl))] [20260200] z z z (args:=[.ptr 80307000 0]) (args':=[.ipt (Use_diffs.cl (⟨(⟨vo0_0_5,vo0_1_5⟩:Net),voo0_2_5,voo0_3_5⟩:Use_diffs)) 0]) (r:=.hnd 20260200) (calv z z fnok_342 z) ⟨.ptrV mh z ⟨.imm z,.imm z,.hnd (mt mh) z (im_flat icl_im voo0_2_5),.hnd (mt (mt mh)) z (im_flat icl_im voo0_3_5),u0⟩,u0⟩ (f342_fr hc_1) z z z (by first | rfl | (simp only [List.all_cons,List.all_nil,AO.solid,Bool.and_true,Bool.and_self,solid_flat (cl:=icl) (fun _=>z)])) z z z z ?_
   obtain⟨⟨x26_0,x26_1,x26_2⟩,hc_2,h⟩:=bs h
   refine Qo [(80307003,.arr 3 1 (voo0_2_5.map icl)),(80307004,.arr 3 1 (voo0_3_5.map icl)),(80307000,.box [Ai vo0_0_5,.lst 3 (vo0_1_5.map Diff.cl),.hnd 80307003,.hnd 80307004]),(20260200,.arr 3 1 (x25.map icl))] [(80307003,.arr 3 1 (x26_1.flow.map icl)),(80307004,.arr 3 1 (x26_1.want.map icl)),(80307000,.box [Ai x26_1.Net.Nodes,.lst 3 (x26_1.Net.Diffs.map Diff.cl),.hnd 80307003,.hnd 80307004]),(20260200,.arr 3 1 (x26_2.map icl))] [] z z z (args:=[.ptr 80307000 0,Ai v3,.hnd 20260200]) (r:=Ab x26_0) (calv z z fnok_341 z) (f341_ok hc_2) ⟨z,z,z,z,u0⟩ z z z z z (Qd z (Tc (b:=(!x26_0)) z (fun hb_5=>?_) (fun hb_5=>?_)))
   ·have h:=cq hb_5 h
    refine Tp z (Te ?_)
    refine Rr (fun r=>Ab r.1) (fun r=>[(80307003,.arr 3 1 (r.2.flow.map icl)),(80307004,.arr 3 1 (r.2.want.map icl)),(80307000,.box [Ai r.2.Net.Nodes,.lst 3 (r.2.Net.Diffs.map Diff.cl),.hnd 80307003,.hnd 80307004])]) [80307003,80307004,80307000] h ?_ ?_
    ·rfl
    exact⟨imf icl_im,imf icl_im,u0⟩
   have h:=cw hb_5 h
   exact Tk (Xi (x26_1.Net.Nodes,x26_1.Net.Diffs,x26_1.flow,x26_1.want) (An h (Ee [80307003,80307004,80307000] z ⟨imf icl_im,imf icl_im,u0⟩)))
  have h:=cw hb_4 h
  exact Tri.exit (Xi (vo0_0_5,vo0_1_5,voo0_2_5,voo0_3_5) (An h (Ee [80307003,80307004,80307000] z ⟨imf icl_im,imf icl_im,u0⟩)))
 have h:=cw hb_3 h
 exact Tri.exit (Xi (vo0_0,vo0_1,voo0_2,voo0_3) (An h (Ee [80307003,80307004,80307000] z ⟨imf icl_im,imf icl_im,u0⟩)))
theorem f235_ok {K:Nat} {a0:Net} {a1:List Int} {r:(Option Use_diffs) × Bool × Int} (h:f235 K a0 a1=some r):CallOK Tryz.prog 235 [.agg (Net.cl a0),.lst 1 (a1.map icl)] [] (.tup [optr Use_diffs.cl r.1,Ab r.2.1,Ai r.2.2]) []:=by
 refine Co Tryz.func235 z z (nl z) ?_
 unfold f235 at h
 refine Tp z (Ts (Ts (Td [[],[],[],[1,2],[1,2,3],[0,1,2,3,4],[0,1,2,3,4,5]] hmix (by kernel_rfl) (Qe 3 z ?_))))
 obtain⟨x16,hc,h⟩:=bs h
 refine Qc z z z (args:=[.agg (Net.cl a0),.lst 1 (a1.map icl)]) (r:=Ab x16) (calv z z fnok_294 z) (f294_ok hc) z (Q1 z z z (v:=.lst 1 (([x16]:List Bool).map bcl)) (Ax.sl (xs:=([x16]:List Bool)) z slc_191 z z ⟨Sub.refl _,u0⟩ z bcl_len bcl_one bcl_im) ?_)
 obtain⟨x18,hc_1,h⟩:=bs h
 refine Qc z z z (args:=[.agg (Net.cl a0),.lst 1 (([x16]:List Bool).map bcl)]) (r:=Ai x18) (calv z z fnok_223 z) (f223_ok hc_1) z (Qe 1 z (Rx ⟨by kernel_rfl,freshL_of [] (by kernel_rfl) (by kernel_rfl),?_⟩))
 refine Tp z (Tc (b:=(x18 != 0)) z (fun hb=>?_) (fun hb=>?_))
 ·have h:=cq hb h
  refine Tp z (Te ?_)
  refine RetQ.eq2 (fun r=>.tup [optr Use_diffs.cl r.1,Ab r.2.1,Ai r.2.2]) (fun r=>[]) (Option.some.inj h) ?_
  exact RetQ.mk (vs:=[.sc (.pointer none),Ab false,Ai x18]) (.inr z) ⟨_,_,z,.tmp z,⟨_,_,z,.tmp z,⟨_,_,z,.tmp z,z⟩⟩⟩ [] [] z z u0 (.tupV ⟨.frz (.fz (.imm z)) z,.rfl' z,.rfl' z,u0⟩)
 have h:=cw hb h
 refine Tk (Ts (Tr (Qe 1 z (Q1 z z z (v:=.agg (Plain_diffs.cl (⟨a0⟩:Plain_diffs))) (Ab_ z zer_322 (bld plc_322 zer_322) z ⟨Sub.refl _,Sub.refl _,u0⟩) (Q1 z z z (v:=.ifc 322 (.agg (Plain_diffs.cl (⟨a0⟩:Plain_diffs)))) (Ax.ifc' z nif_322 z) ?_)))))
 obtain⟨⟨x26_0,x26_1,x26_2⟩,hc_2,h⟩:=bs h
 refine Qc z z z (args:=[.ifc 322 (.fz (.agg (Plain_diffs.cl (⟨a0⟩:Plain_diffs))))]) (r:=.tup [.lst 1 (x26_0.map icl),.agg (Tree_diffs.cl x26_1),Ai x26_2]) (calw z z fnok_251 ⟨Sub.fz z,u0⟩) (f251_ok ⟨⟨386,fnok_386,meth_322_386,fun _ hr=>(f386_ok (K:=K) hr).fz1⟩,⟨387,fnok_387,meth_322_387,fun _ hr=>(f387_ok (K:=K) hr).fz1⟩,z,z⟩ hc_2) z (Qe 4 z (Qn z z z (v:=.ptr 9 0) (x:=some (.box (Tree_diffs.cl (⟨([]:List Int),([]:List Bool),([]:List Int)⟩:Tree_diffs)))) (Al_ z z zer_318 z ⟨Sub.nil _,Sub.nil _,Sub.nil _,u0⟩) z z z z z (Qe 1 z (Qs z z (x:=some (.box (Tree_diffs.cl x26_1))) (As z siz_318 z z z z z z z) (Qd z (Tp z (Tc (b:=(decide (x26_2≥0))) z (fun hb_1=>?_) (fun hb_1=>?_))))))))
 ·have h:=cq hb_1 h
  refine Tp z (Te ?_)
  refine RetQ.eq2 (fun r=>.tup [optr Use_diffs.cl r.1,Ab r.2.1,Ai r.2.2]) (fun r=>[]) (Option.some.inj h) ?_
  exact RetQ.mk (vs:=[.sc (.pointer none),Ab false,Ai 41]) (.inr z) ⟨_,_,z,.tmp z,⟨_,_,z,.tmp z,⟨_,_,z,.tmp z,z⟩⟩⟩ [] [] z z u0 (.tupV ⟨.frz (.fz (.imm z)) z,.rfl' z,.rfl' z,u0⟩)
 have h:=cw hb_1 h
 refine Tk (Ts (Td [[],[],[1],[1,2],[1,2,3],[],[5],[0,1,2,3,4,5,6],[0,1,2,3,4,5,6,7],[0,1,2,3,4,5,6,7,8]] hmix (by kernel_rfl) (Qe 3 z (Q1 z z z (Ax.ln (cl:=Diff.cl) z slc_32 z) ?_))))
 obtain⟨z36,hz,h⟩:=bs h
 refine Qn z z z (v:=.hnd 36) (x:=some (.arr 3 1 (z36.map icl))) (Ax.mk (cl:=icl) z z slc_26 z z hz z z z) z z z z z (Qe 1 z ?_)
 obtain⟨x38,hc_3,h⟩:=bs h
 refine Qo [] [(20260000,.arr 3 1 (x38.map icl))] [20260000] z z z (args:=[.lst 1 (a1.map icl)]) (r:=.hnd 20260000) (calv z z fnok_85 z) (f85_fr hc_3) u0 z z z z z (Q1 z z z (v:=.agg [Ai a0.Nodes,.lst 3 (a0.Diffs.map Diff.cl),.hnd 36,.hnd 20260000]) (Ab_ z zer_307 (bld plc_307 zer_307) z ⟨Sub.refl _,Sub.refl _,Sub.refl _,Sub.refl _,u0⟩) (Qn z z z (v:=.ptr 40 0) (x:=some (.box [Ai a0.Nodes,.lst 3 (a0.Diffs.map Diff.cl),.hnd 36,.hnd 20260000])) (Ax.box_ptr z z z z) z z z z z (Qe 1 z (Rx ⟨by kernel_rfl,freshL_of [36,20260000,40] (by kernel_rfl) (by kernel_rfl),?_⟩))))
 refine Ts (Tn (Ent.norm [] [(80307000,40,.box [Ai a0.Nodes,.lst 3 (a0.Diffs.map Diff.cl),.hnd 80307003,.hnd 80307004]),(80307003,36,.arr 3 1 (z36.map icl)),(80307004,20260000,.arr 3 1 (x38.map icl))] [(11,.ptr 80307000 0)] z ⟨⟨_,z,.boxV ⟨.rfl' z,.rfl' z,.hnd (mt mh),.hnd (mt (mt mh)),u0⟩⟩,⟨_,z,.arr (im_flat icl_im z36)⟩,⟨_,z,.arr (im_flat icl_im x38)⟩,u0⟩ ⟨.ptr mh,u0⟩) (Tri.region (Qe 1 z ?_)))
 obtain⟨⟨x42_0,x42_1⟩,hc_4,h⟩:=bs h
 refine Qo [(80307003,.arr 3 1 (z36.map icl)),(80307004,.arr 3 1 (x38.map icl)),(80307000,.box [Ai a0.Nodes,.lst 3 (a0.Diffs.map Diff.cl),.hnd 80307003,.hnd 80307004])] [(80307003,.arr 3 1 (x42_1.flow.map icl)),(80307004,.arr 3 1 (x42_1.want.map icl)),(80307000,.box [Ai x42_1.Net.Nodes,.lst 3 (x42_1.Net.Diffs.map Diff.cl),.hnd 80307003,.hnd 80307004])] [] z z z (args:=[.ptr 80307000 0]) (r:=Ab x42_0) (calv z z fnok_303 z) (f303_ok hc_4) ⟨z,z,z,u0⟩ z z z z z (Qd z (Tp z (Te ?_)))
 refine RetQ.eq2 (fun r=>.tup [optr Use_diffs.cl r.1,Ab r.2.1,Ai r.2.2]) (fun r=>[]) (Option.some.inj h) ?_
 exact RetQ.mk (vs:=[.ptr 80307000 0,Ab x42_0,Ai 0]) (.inr z) ⟨_,_,z,.tmp z,⟨_,_,z,.tmp z,⟨_,_,z,.tmp z,z⟩⟩⟩ [80307000,80307003,80307004] [] z z u0 (.tupV ⟨.frz (.fz (.ptrV mh z ⟨(.imm z),(.imm z),(.hnd (mt mh) z (im_flat icl_im x42_1.flow)),(.hnd (mt (mt mh)) z (im_flat icl_im x42_1.want)),u0⟩)) z,.rfl' z,.rfl' z,u0⟩)
theorem f236_ok {K:Nat} {a0:Net} {a1:List Int} {r:Int} (h:f236 K a0 a1=some r):CallOK Tryz.prog 236 [.agg (Net.cl a0),.lst 1 (a1.map icl)] [] (Ai r) []:=by
 refine Co Tryz.func236 z z (nl z) ?_
 unfold f236 at h
 refine Tp z (Tp z (Ts (Tr (Qe 2 z (Q1 z z z (Ax.ln (cl:=Diff.cl) z slc_32 z) (Qd z ?_))))))
 obtain⟨v5_1,hj,h⟩:=bs h
 refine Tri.rngLv hj (fun p=>⟨[(1,.lst 1 (a1.map icl)),(5,Ai p.2),(9,.lst 3 (a0.Diffs.map Diff.cl)),(10,Ai (a0.Diffs.length:Int)),(11,Ai p.1)],[]⟩) (fun(y:Int)=>⟨[(5,Ai y)],[]⟩) (E0 z) ?_ ?_ ?_
 ·refine Tp z (Te ?_)
  exact Ri h z
 ·rintro v11 v5 hi h
  refine Tp z (Ts (Tc (b:=(decide (v11 < (a0.Diffs.length:Int)))) z (fun hb=>?_) (fun hb=>?_)))
  ·exact(lt_f hi hb).elim
  exact Tri.exit (Xi v5 (An h (E0 z)))
 rintro nx x v11 v5 _ hi hw hx h
 refine Tp z (Ts (Tc (b:=(decide (v11 < (a0.Diffs.length:Int)))) z (fun hb_1=>?_) (fun hb_1=>?_)))
 ·refine Tk (Ts (Tri.block (Tr (Qe 1 z (Q1 z z z (Ax.ix (cl:=Diff.cl) z slc_32 z z hx) (Qe 1 z (Qn z z z (v:=.ptr 7 0) (x:=some (.box (Diff.cl (⟨0,0,0⟩:Diff)))) (Al_ z z zer_174 z ⟨Sub.refl _,Sub.refl _,Sub.refl _,u0⟩) z z z z z (Qe 1 z (Qs z z (x:=some (.box (Diff.cl x))) (As z siz_174 z z z z z z z) (Rx (Td [] hmix (by kernel_rfl) (Qe 3 z ?_))))))))))))
  obtain⟨y,hy,h⟩:=bs h
  refine Q1 z z z (Ax.ix (cl:=icl) z slc_26 z z hy) (Qe 6 z (Rx ⟨by kernel_rfl,freshL_of [] (by kernel_rfl) (by kernel_rfl),?_⟩))
  exact Tq z (Xi (v11+1,(W (v5+(W (y*x.Most))))) (An (An z h) (Es0 [11] z ⟨.imm (Sub.of_eq (show Ai (v11+1)=Ai (W (v11+1)) from congrArg Ai hw.symm)) z,u0⟩)))
 exact(lt_t hi hb_1).elim
theorem f121_ok {K:Nat} {a0:Net} {a1:List Int} {r:Int × Bool × Int} (h:f121 K a0 a1=some r):CallOK Tryz.prog 121 [.agg (Net.cl a0),.lst 1 (a1.map icl)] [] (.tup [Ai r.1,Ab r.2.1,Ai r.2.2]) []:=by
 refine Co Tryz.func121 z z (nl z) ?_
 unfold f121 at h
 refine Tp z (Tr (Qe 2 z ?_))
 obtain⟨⟨x13_0,x13_1,x13_2⟩,hc,h⟩:=bs h
 refine Qc z z z (args:=[.agg (Net.cl a0),.lst 1 (a1.map icl)]) (r:=.tup [optr Use_diffs.cl x13_0,Ab x13_1,Ai x13_2]) (calv z z fnok_235 z) (f235_ok hc) z (Qd z (Ts (Ts (Tri.join1 ⟨[(2,.ipt (Net.cl a0) 0),(7,optr Use_diffs.cl x13_0),(9,Ai x13_2),(22,Ab ((x13_2 != 0)||(!x13_1)))],[]⟩ ?_ ?_))))
 ·refine Tc (b:=((x13_2 != 0)||(!x13_1))) z (fun hb=>?_) (fun hb=>?_)
  ·have h:=cq hb h
   refine Tp z (Te ?_)
   refine Rr (fun r=>.tup [Ai r.1,Ab r.2.1,Ai r.2.2]) (fun r=>[]) [] h ?_ u0
   rfl
  have h:=cw hb h
  refine Tk (Ts (Td [[],[],[1],[1,2],[1,2,3],[0,1,2,3,4],[0,1,2,3,4,5],[0,1,2,3,4,5,6],[0,1,2,3,4,5,6,7]] hmix (by kernel_rfl) (Qe 2 z ?_)))
  obtain⟨y,hy,h⟩:=bs h
  refine Q1 z z z (v:=.ipt (Use_diffs.cl y) 0) (Ax.nil_fz z (optr_some hy)) (Qe 2 z ?_)
  obtain⟨x29,hc_1,h⟩:=bs h
  refine Qc z z z (args:=[.agg (Net.cl a0),.lst 1 (y.flow.map icl)]) (r:=Ai x29) (calv z z fnok_236 z) (f236_ok hc_1) z (Qe 3 z (Rx ⟨by kernel_rfl,freshL_of [] (by kernel_rfl) (by kernel_rfl),?_⟩))
  refine Te ?_
  refine Rr (fun r=>.tup [Ai r.1,Ab r.2.1,Ai r.2.2]) (fun r=>[]) [] h ?_ u0
  rfl
 refine Tri.region (Qe 3 z ?_)
 rcases b2 (x13_2 != 0) with hb_1 | hb_1
 ·exact Qk 19 hb_1 z (Qd z ((Es0 [22] z ⟨.imm (Sub.of_eq (show Ab ((x13_2 != 0)||(!x13_1))=Ab true by simp only [cond_true,cond_false,Bool.true_or,Bool.false_or,Bool.true_and,Bool.false_and,Bool.or_true,Bool.or_false,Bool.and_true,Bool.and_false,hb_1])) z,u0⟩)))
 exact Qk 19 hb_1 z (Qd z ((Es0 [22] z ⟨.imm (Sub.of_eq (show Ab ((x13_2 != 0)||(!x13_1))=Ab (!x13_1) by simp only [cond_true,cond_false,Bool.true_or,Bool.false_or,Bool.true_and,Bool.false_and,Bool.or_true,Bool.or_false,Bool.and_true,Bool.and_false,hb_1])) z,u0⟩)))
theorem f40_ok {K:Nat} {a0:Scene} {a1:List Int} {a2:Int} {a3:Int} {r:Span × Int} (h:f40 K a0 a1 a2 a3=some r):CallOK Tryz.prog 40 [.agg (Scene.cl a0),.lst 1 (a1.map icl),Ai a2,Ai a3] [] (.tup [.agg (Span.cl r.1),Ai r.2]) []:=by
 refine Co Tryz.func40 z z (nl z) ?_
 unfold f40 at h
 refine Tr (Qe 1 z (Qn z z z (v:=.ptr 8 0) (x:=some (.box (Span.cl (⟨0,0⟩:Span)))) (Al_ z z zer_49 z ⟨Sub.refl _,Sub.refl _,u0⟩) z z z z z (Qd z (Tr (Qn z z z (v:=.ptr 10 0) (x:=some (.box (Arr2_3.cl (⟨0,0⟩:Arr2_3)))) (Al_ z z zer_97 z ⟨Sub.refl _,Sub.refl _,u0⟩) z z z z z (Rx (Ts (Tr (Q1 z z z (v:=.lst 1 (([false,true]:List Bool).map bcl)) (Ax.sl (xs:=([false,true]:List Bool)) z slc_191 z z ⟨Sub.refl _,Sub.refl _,u0⟩ z bcl_len bcl_one bcl_im) (Q1 z z z (Ax.ln (cl:=bcl) (xs:=([false,true]:List Bool)) z slc_191 z) (Qd z (Tri.block ?_))))))))))))
 refine Tri.rolled 3 (Rnds.step (Tp z (Ts (Tri.cond_t z (Tk (Ts (Tri.block (Tr (Qe 1 z (Q1 z z z (Ax.ix (cl:=bcl) z slc_191 z z z) (Qd z (Tr ?_))))))))))))
 refine Qe 5 z ?_
 obtain⟨⟨x31_0,x31_1,x31_2⟩,hc,h⟩:=bs h
 refine Qc z z z (args:=[.agg (Scene.cl a0),.lst 1 (a1.map icl),Ai a2,Ai a3,Ab false]) (r:=.tup [optr Laid_basin.cl x31_0,.lst 1 (x31_1.map icl),Ai x31_2]) (calv z z fnok_120 z) (f120_ok hc) z (Qd z (Ts (Tp z (Tc (b:=(x31_2 != 0)) z (fun hb=>?_) (fun hb=>?_)))))
 ·have h:=cq hb h
  refine Tr (Q1 z z z (v:=.agg (Span.cl (⟨0,0⟩:Span))) (Ab_ z zer_49 (bld plc_49 zer_49) z ⟨Sub.refl _,Sub.refl _,u0⟩) (Qe 1 z (Qs z z (x:=some (.box (Span.cl (⟨0,0⟩:Span)))) (As z siz_49 z z z z z z z) (Qd z (Te ?_)))))
  refine Rr (fun r=>.tup [.agg (Span.cl r.1),Ai r.2]) (fun r=>[]) [] h ?_ u0
  rfl
 have h:=cw hb h
 refine Tk (Tr (Qe 1 z ?_))
 obtain⟨y,hy,h⟩:=bs h
 refine Q1 z z z (v:=.ipt (Laid_basin.cl y) 0) (Ax.nil_fz z (optr_some hy)) (Qe 3 z ?_)
 obtain⟨⟨x45_0,x45_1,x45_2⟩,hc_1,h⟩:=bs h
 refine Qc z z z (args:=[.agg (Net.cl y.net),.lst 1 (x31_1.map icl)]) (r:=.tup [Ai x45_0,Ab x45_1,Ai x45_2]) (calv z z fnok_121 z) (f121_ok hc_1) z (Qd z (Ts (Tp z (Tc (b:=(x45_2 != 0)) z (fun hb_1=>?_) (fun hb_1=>?_)))))
 ·have h:=cq hb_1 h
  refine Tr (Q1 z z z (v:=.agg (Span.cl (⟨0,0⟩:Span))) (Ab_ z zer_49 (bld plc_49 zer_49) z ⟨Sub.refl _,Sub.refl _,u0⟩) (Qe 1 z (Qs z z (x:=some (.box (Span.cl (⟨0,0⟩:Span)))) (As z siz_49 z z z z z z z) (Qd z (Te ?_)))))
  refine Rr (fun r=>.tup [.agg (Span.cl r.1),Ai r.2]) (fun r=>[]) [] h ?_ u0
  rfl
 have h:=cw hb_1 h
 refine Tk (Tri.region (Qe 2 z (Q1 z z z (Ax.index_ptr (k:=.i64) (n:=0) z arr_97 z z z (by decide) (by decide)) (Qs z z (x:=some (.box (Arr2_3.cl (⟨x45_0,0⟩:Arr2_3)))) (As z siz_3 z z z z z z z) (Rx (Tq z (Rnds.step (Tp z (Ts (Tri.cond_t z (Tk (Ts ?_))))))))))))
 refine Tri.block (Tr (Qe 1 z (Q1 z z z (Ax.ix (cl:=bcl) z slc_191 z z z) (Qd z (Tr (Qe 5 z ?_))))))
 obtain⟨⟨x31_0_1,x31_1_1,x31_2_1⟩,hc_2,h⟩:=bs h
 refine Qc z z z (args:=[.agg (Scene.cl a0),.lst 1 (a1.map icl),Ai a2,Ai a3,Ab true]) (r:=.tup [optr Laid_basin.cl x31_0_1,.lst 1 (x31_1_1.map icl),Ai x31_2_1]) (calv z z fnok_120 z) (f120_ok hc_2) z (Qd z (Ts (Tp z (Tc (b:=(x31_2_1 != 0)) z (fun hb_2=>?_) (fun hb_2=>?_)))))
 ·have h:=cq hb_2 h
  refine Tr (Q1 z z z (v:=.agg (Span.cl (⟨0,0⟩:Span))) (Ab_ z zer_49 (bld plc_49 zer_49) z ⟨Sub.refl _,Sub.refl _,u0⟩) (Qe 1 z (Qs z z (x:=some (.box (Span.cl (⟨0,0⟩:Span)))) (As z siz_49 z z z z z z z) (Qd z (Te ?_)))))
  refine Rr (fun r=>.tup [.agg (Span.cl r.1),Ai r.2]) (fun r=>[]) [] h ?_ u0
  rfl
 have h:=cw hb_2 h
 refine Tk (Tr (Qe 1 z ?_))
 obtain⟨y_1,hy_1,h⟩:=bs h
 refine Q1 z z z (v:=.ipt (Laid_basin.cl y_1) 0) (Ax.nil_fz z (optr_some hy_1)) (Qe 3 z ?_)
 obtain⟨⟨x45_0_1,x45_1_1,x45_2_1⟩,hc_3,h⟩:=bs h
 refine Qc z z z (args:=[.agg (Net.cl y_1.net),.lst 1 (x31_1_1.map icl)]) (r:=.tup [Ai x45_0_1,Ab x45_1_1,Ai x45_2_1]) (calv z z fnok_121 z) (f121_ok hc_3) z (Qd z (Ts (Tp z (Tc (b:=(x45_2_1 != 0)) z (fun hb_3=>?_) (fun hb_3=>?_)))))
 ·have h:=cq hb_3 h
  refine Tr (Q1 z z z (v:=.agg (Span.cl (⟨0,0⟩:Span))) (Ab_ z zer_49 (bld plc_49 zer_49) z ⟨Sub.refl _,Sub.refl _,u0⟩) (Qe 1 z (Qs z z (x:=some (.box (Span.cl (⟨0,0⟩:Span)))) (As z siz_49 z z z z z z z) (Qd z (Te ?_)))))
  refine Rr (fun r=>.tup [.agg (Span.cl r.1),Ai r.2]) (fun r=>[]) [] h ?_ u0
  rfl
 have h:=cw hb_3 h
 refine Tk (Tri.region (Qe 2 z (Q1 z z z (Ax.index_ptr (k:=.i64) (n:=1) z arr_97 z z z (by decide) (by decide)) (Qs z z (x:=some (.box (Arr2_3.cl (⟨x45_0,x45_0_1⟩:Arr2_3)))) (As z siz_3 z z z z z z z) (Rx (Tq z (Rnds.step (Tp z (Ts (Tri.cond_f z (Tri.exit (Tr ?_))))))))))))
 refine Q1 z z z (Ax.index_ptr (k:=.i64) (n:=0) z arr_97 z z z (by decide) (by decide)) (Qe 2 z (Q1 z z z (Ax.index_ptr (k:=.i64) (n:=1) z arr_97 z z z (by decide) (by decide)) (Qe 1 z (Q1 z z z (v:=.agg (Span.cl (⟨(W (-x45_0)),x45_0_1⟩:Span))) (Ab_ z zer_49 (bld plc_49 zer_49) z ⟨Sub.refl _,Sub.refl _,u0⟩) (Qs z z (x:=some (.box (Span.cl (⟨(W (-x45_0)),x45_0_1⟩:Span)))) (As z siz_49 z z z z z z z) (Qd z (Te ?_)))))))
 refine Rr (fun r=>.tup [.agg (Span.cl r.1),Ai r.2]) (fun r=>[]) [] h ?_ u0
 rfl
theorem f42_ok {K:Nat} {a0:List Sight} {r:List Sight} (h:f42 K a0=some r):CallOK Tryz.prog 42 [.lst 5 (a0.map Sight.cl)] [] (.lst 5 (r.map Sight.cl)) []:=by
 unfold f42 at h
 have hr:=(app_spec h).2
 rw [List.nil_append] at hr
 subst hr
 cases r with
 | nil=>
  refine CallOK.lst0 fun a cap=>(Co Tryz.func42 z z (nl z) (Tr (Q1 z z z (v:=.lst 5 (([]:List Sight).map Sight.cl)) (Ax.nl 5 z z) (Rx (Ts (Tr (Q1 z z z (v:=.sc (.slice a 0 cap)) (Ax.mv z z) (Q1 z z z (v:=Ab a.isNone) (Ax.nilc z uns_27 z z) (Rx (Tc (b:=a.isNone) z (fun hb=>?_) (fun hb=>?_)))))))))))
  ·refine Tr (Q1 z z z (v:=.lst 5 (([]:List Sight).map Sight.cl)) (Ax.nl 5 z z) (Rx (Te ?_)))
   exact RetQ.mk (vs:=[.lst 5 (([]:List Sight).map Sight.cl)]) (.inr z) ⟨_,_,z,.tmp z,z⟩ [] [] z z u0 (.rfl' z)
  refine Tk (Tr (Qn z z z (v:=.hnd 5) (x:=some (.arr 64 5 (([]:List Sight).map Sight.cl))) (Ax.slice_new z z slc_27) z z z z z (Q1 z z z (v:=.lst 5 (([]:List Sight).map Sight.cl)) (Ax.move (.inl z) (Sub.lstE _ _ _)) (Qa z z z (v:=.hnd 7) (x:=some (.arr 64 5 (([]:List Sight).map Sight.cl))) (Ax.app_l (cl:=Sight.cl) z z slc_27 z z z Sight_one Sight_im h z z) z z z z z (Q1 z z z (v:=.hnd 7) (Ax.as z z) (Rx (Te ?_)))))))
  exact RetQ.mk (vs:=[.hnd 7]) (.inr z) ⟨_,_,z,.tmp z,z⟩ [7] [] z z u0 (.frz (.hnd mh z (im_flat Sight_im [])) z)
 | cons x xs=>
  refine Co Tryz.func42 z z (nl z) (Tr (Q1 z z z (v:=.lst 5 (([]:List Sight).map Sight.cl)) (Ax.nl 5 z z) (Rx (Ts (Tr (Q1 z z z (v:=.lst 5 ((x::xs:List Sight).map Sight.cl)) (Ax.mv z z) (Q1 z z z (v:=Ab false) (Ax.nilcmp z uns_27 z (by simp)) (Rx (Tri.cond_f z (Tk (Tr (Qn z z z (v:=.hnd 5) (x:=some (.arr 64 5 (([]:List Sight).map Sight.cl))) (Ax.slice_new z z slc_27) z z z z z ?_))))))))))))
  refine Q1 z z z (v:=.lst 5 (((x::xs):List Sight).map Sight.cl)) (Ax.mv z z) (Qa z z z (v:=.hnd 7) (x:=some (.arr 64 5 (((x::xs):List Sight).map Sight.cl))) (Ax.app_l (cl:=Sight.cl) z z slc_27 z z z Sight_one Sight_im h z z) z z z z z (Q1 z z z (v:=.hnd 7) (Ax.as z z) (Rx (Te ?_))))
  exact RetQ.mk (vs:=[.hnd 7]) (.inr z) ⟨_,_,z,.tmp z,z⟩ [7] [] z z u0 (.frz (.hnd mh z (im_flat Sight_im (x::xs))) z)
theorem f42_fr {K:Nat} {a0:List Sight} {r:List Sight} (h:f42 K a0=some r):CallOK Tryz.prog 42 [.lst 5 (a0.map Sight.cl)] [] (.hnd 20270000) [(20270000,.arr 64 5 (r.map Sight.cl))]:=by
 unfold f42 at h
 have hr:=(app_spec h).2
 rw [List.nil_append] at hr
 subst hr
 cases r with
 | nil=>
  refine CallOK.lst0 fun a cap=>(Co Tryz.func42 z z (nl z) (Tr (Q1 z z z (v:=.lst 5 (([]:List Sight).map Sight.cl)) (Ax.nl 5 z z) (Rx (Ts (Tr (Q1 z z z (v:=.sc (.slice a 0 cap)) (Ax.mv z z) (Q1 z z z (v:=Ab a.isNone) (Ax.nilc z uns_27 z z) (Rx (Tc (b:=a.isNone) z (fun hb=>?_) (fun hb=>?_)))))))))))
  ·refine Tr (Qn z z z (v:=.hnd 2) (x:=some (.arr 64 5 (([]:List Sight).map Sight.cl))) (Ax.nil_new 64 5 (.inr z) z) z z z z z (Rx (Te ?_)))
   exact RetQ.mk (vs:=[.hnd 2]) (.inr z) ⟨_,_,z,.tmp z,z⟩ [] [(20270000,2,.arr 64 5 (([]:List Sight).map Sight.cl))] z z ⟨⟨_,z,.arr (im_flat Sight_im [])⟩,u0⟩ (.hnd mh)
  refine Tk (Tr (Qn z z z (v:=.hnd 5) (x:=some (.arr 64 5 (([]:List Sight).map Sight.cl))) (Ax.slice_new z z slc_27) z z z z z (Q1 z z z (v:=.lst 5 (([]:List Sight).map Sight.cl)) (Ax.move (.inl z) (Sub.lstE _ _ _)) (Qa z z z (v:=.hnd 7) (x:=some (.arr 64 5 (([]:List Sight).map Sight.cl))) (Ax.app_l (cl:=Sight.cl) z z slc_27 z z z Sight_one Sight_im h z z) z z z z z (Q1 z z z (v:=.hnd 7) (Ax.as z z) (Rx (Te ?_)))))))
  exact RetQ.mk (vs:=[.hnd 7]) (.inr z) ⟨_,_,z,.tmp z,z⟩ [] [(20270000,7,.arr 64 5 (([]:List Sight).map Sight.cl))] z z ⟨⟨_,z,.arr (im_flat Sight_im [])⟩,u0⟩ (.hnd mh)
 | cons x xs=>
  refine Co Tryz.func42 z z (nl z) (Tr (Q1 z z z (v:=.lst 5 (([]:List Sight).map Sight.cl)) (Ax.nl 5 z z) (Rx (Ts (Tr (Q1 z z z (v:=.lst 5 ((x::xs:List Sight).map Sight.cl)) (Ax.mv z z) (Q1 z z z (v:=Ab false) (Ax.nilcmp z uns_27 z (by simp)) (Rx (Tri.cond_f z (Tk (Tr (Qn z z z (v:=.hnd 5) (x:=some (.arr 64 5 (([]:List Sight).map Sight.cl))) (Ax.slice_new z z slc_27) z z z z z ?_))))))))))))
  refine Q1 z z z (v:=.lst 5 (((x::xs):List Sight).map Sight.cl)) (Ax.mv z z) (Qa z z z (v:=.hnd 7) (x:=some (.arr 64 5 (((x::xs):List Sight).map Sight.cl))) (Ax.app_l (cl:=Sight.cl) z z slc_27 z z z Sight_one Sight_im h z z) z z z z z (Q1 z z z (v:=.hnd 7) (Ax.as z z) (Rx (Te ?_))))
  exact RetQ.mk (vs:=[.hnd 7]) (.inr z) ⟨_,_,z,.tmp z,z⟩ [] [(20270000,7,.arr 64 5 (((x::xs):List Sight).map Sight.cl))] z z ⟨⟨_,z,.arr (im_flat Sight_im (x::xs))⟩,u0⟩ (.hnd mh)
theorem f43_ok {K:Nat} {a0:List Change} {r:List Change} (h:f43 K a0=some r):CallOK Tryz.prog 43 [.lst 5 (a0.map Change.cl)] [] (.lst 5 (r.map Change.cl)) []:=by
 unfold f43 at h
 have hr:=(app_spec h).2
 rw [List.nil_append] at hr
 subst hr
 cases r with
 | nil=>
  refine CallOK.lst0 fun a cap=>(Co Tryz.func43 z z (nl z) (Tr (Q1 z z z (v:=.lst 5 (([]:List Change).map Change.cl)) (Ax.nl 5 z z) (Rx (Ts (Tr (Q1 z z z (v:=.sc (.slice a 0 cap)) (Ax.mv z z) (Q1 z z z (v:=Ab a.isNone) (Ax.nilc z uns_28 z z) (Rx (Tc (b:=a.isNone) z (fun hb=>?_) (fun hb=>?_)))))))))))
  ·refine Tr (Q1 z z z (v:=.lst 5 (([]:List Change).map Change.cl)) (Ax.nl 5 z z) (Rx (Te ?_)))
   exact RetQ.mk (vs:=[.lst 5 (([]:List Change).map Change.cl)]) (.inr z) ⟨_,_,z,.tmp z,z⟩ [] [] z z u0 (.rfl' z)
  refine Tk (Tr (Qn z z z (v:=.hnd 5) (x:=some (.arr 67 5 (([]:List Change).map Change.cl))) (Ax.slice_new z z slc_28) z z z z z (Q1 z z z (v:=.lst 5 (([]:List Change).map Change.cl)) (Ax.move (.inl z) (Sub.lstE _ _ _)) (Qa z z z (v:=.hnd 7) (x:=some (.arr 67 5 (([]:List Change).map Change.cl))) (Ax.app_l (cl:=Change.cl) z z slc_28 z z z Change_one Change_im h z z) z z z z z (Q1 z z z (v:=.hnd 7) (Ax.as z z) (Rx (Te ?_)))))))
  exact RetQ.mk (vs:=[.hnd 7]) (.inr z) ⟨_,_,z,.tmp z,z⟩ [7] [] z z u0 (.frz (.hnd mh z (im_flat Change_im [])) z)
 | cons x xs=>
  refine Co Tryz.func43 z z (nl z) (Tr (Q1 z z z (v:=.lst 5 (([]:List Change).map Change.cl)) (Ax.nl 5 z z) (Rx (Ts (Tr (Q1 z z z (v:=.lst 5 ((x::xs:List Change).map Change.cl)) (Ax.mv z z) (Q1 z z z (v:=Ab false) (Ax.nilcmp z uns_28 z (by simp)) (Rx (Tri.cond_f z (Tk (Tr (Qn z z z (v:=.hnd 5) (x:=some (.arr 67 5 (([]:List Change).map Change.cl))) (Ax.slice_new z z slc_28) z z z z z ?_))))))))))))
  refine Q1 z z z (v:=.lst 5 (((x::xs):List Change).map Change.cl)) (Ax.mv z z) (Qa z z z (v:=.hnd 7) (x:=some (.arr 67 5 (((x::xs):List Change).map Change.cl))) (Ax.app_l (cl:=Change.cl) z z slc_28 z z z Change_one Change_im h z z) z z z z z (Q1 z z z (v:=.hnd 7) (Ax.as z z) (Rx (Te ?_))))
  exact RetQ.mk (vs:=[.hnd 7]) (.inr z) ⟨_,_,z,.tmp z,z⟩ [7] [] z z u0 (.frz (.hnd mh z (im_flat Change_im (x::xs))) z)
theorem f43_fr {K:Nat} {a0:List Change} {r:List Change} (h:f43 K a0=some r):CallOK Tryz.prog 43 [.lst 5 (a0.map Change.cl)] [] (.hnd 20280000) [(20280000,.arr 67 5 (r.map Change.cl))]:=by
 unfold f43 at h
 have hr:=(app_spec h).2
 rw [List.nil_append] at hr
 subst hr
 cases r with
 | nil=>
  refine CallOK.lst0 fun a cap=>(Co Tryz.func43 z z (nl z) (Tr (Q1 z z z (v:=.lst 5 (([]:List Change).map Change.cl)) (Ax.nl 5 z z) (Rx (Ts (Tr (Q1 z z z (v:=.sc (.slice a 0 cap)) (Ax.mv z z) (Q1 z z z (v:=Ab a.isNone) (Ax.nilc z uns_28 z z) (Rx (Tc (b:=a.isNone) z (fun hb=>?_) (fun hb=>?_)))))))))))
  ·refine Tr (Qn z z z (v:=.hnd 2) (x:=some (.arr 67 5 (([]:List Change).map Change.cl))) (Ax.nil_new 67 5 (.inr z) z) z z z z z (Rx (Te ?_)))
   exact RetQ.mk (vs:=[.hnd 2]) (.inr z) ⟨_,_,z,.tmp z,z⟩ [] [(20280000,2,.arr 67 5 (([]:List Change).map Change.cl))] z z ⟨⟨_,z,.arr (im_flat Change_im [])⟩,u0⟩ (.hnd mh)
  refine Tk (Tr (Qn z z z (v:=.hnd 5) (x:=some (.arr 67 5 (([]:List Change).map Change.cl))) (Ax.slice_new z z slc_28) z z z z z (Q1 z z z (v:=.lst 5 (([]:List Change).map Change.cl)) (Ax.move (.inl z) (Sub.lstE _ _ _)) (Qa z z z (v:=.hnd 7) (x:=some (.arr 67 5 (([]:List Change).map Change.cl))) (Ax.app_l (cl:=Change.cl) z z slc_28 z z z Change_one Change_im h z z) z z z z z (Q1 z z z (v:=.hnd 7) (Ax.as z z) (Rx (Te ?_)))))))
  exact RetQ.mk (vs:=[.hnd 7]) (.inr z) ⟨_,_,z,.tmp z,z⟩ [] [(20280000,7,.arr 67 5 (([]:List Change).map Change.cl))] z z ⟨⟨_,z,.arr (im_flat Change_im [])⟩,u0⟩ (.hnd mh)
 | cons x xs=>
  refine Co Tryz.func43 z z (nl z) (Tr (Q1 z z z (v:=.lst 5 (([]:List Change).map Change.cl)) (Ax.nl 5 z z) (Rx (Ts (Tr (Q1 z z z (v:=.lst 5 ((x::xs:List Change).map Change.cl)) (Ax.mv z z) (Q1 z z z (v:=Ab false) (Ax.nilcmp z uns_28 z (by simp)) (Rx (Tri.cond_f z (Tk (Tr (Qn z z z (v:=.hnd 5) (x:=some (.arr 67 5 (([]:List Change).map Change.cl))) (Ax.slice_new z z slc_28) z z z z z ?_))))))))))))
  refine Q1 z z z (v:=.lst 5 (((x::xs):List Change).map Change.cl)) (Ax.mv z z) (Qa z z z (v:=.hnd 7) (x:=some (.arr 67 5 (((x::xs):List Change).map Change.cl))) (Ax.app_l (cl:=Change.cl) z z slc_28 z z z Change_one Change_im h z z) z z z z z (Q1 z z z (v:=.hnd 7) (Ax.as z z) (Rx (Te ?_))))
  exact RetQ.mk (vs:=[.hnd 7]) (.inr z) ⟨_,_,z,.tmp z,z⟩ [] [(20280000,7,.arr 67 5 (((x::xs):List Change).map Change.cl))] z z ⟨⟨_,z,.arr (im_flat Change_im (x::xs))⟩,u0⟩ (.hnd mh)
theorem f249_ok {K:Nat} {a0:List Cell} {r:List Cell} (h:f249 K a0=some r):CallOK Tryz.prog 249 [.lst 4 (a0.map Cell.cl)] [] (.lst 4 (r.map Cell.cl)) []:=by
 unfold f249 at h
 have hr:=(app_spec h).2
 rw [List.nil_append] at hr
 subst hr
 cases r with
 | nil=>
  refine CallOK.lst0 fun a cap=>(Co Tryz.func249 z z (nl z) (Tr (Q1 z z z (v:=.lst 4 (([]:List Cell).map Cell.cl)) (Ax.nl 4 z z) (Rx (Ts (Tr (Q1 z z z (v:=.sc (.slice a 0 cap)) (Ax.mv z z) (Q1 z z z (v:=Ab a.isNone) (Ax.nilc z uns_22 z z) (Rx (Tc (b:=a.isNone) z (fun hb=>?_) (fun hb=>?_)))))))))))
  ·refine Tr (Q1 z z z (v:=.lst 4 (([]:List Cell).map Cell.cl)) (Ax.nl 4 z z) (Rx (Te ?_)))
   exact RetQ.mk (vs:=[.lst 4 (([]:List Cell).map Cell.cl)]) (.inr z) ⟨_,_,z,.tmp z,z⟩ [] [] z z u0 (.rfl' z)
  refine Tk (Tr (Qn z z z (v:=.hnd 5) (x:=some (.arr 56 4 (([]:List Cell).map Cell.cl))) (Ax.slice_new z z slc_22) z z z z z (Q1 z z z (v:=.lst 4 (([]:List Cell).map Cell.cl)) (Ax.move (.inl z) (Sub.lstE _ _ _)) (Qa z z z (v:=.hnd 7) (x:=some (.arr 56 4 (([]:List Cell).map Cell.cl))) (Ax.app_l (cl:=Cell.cl) z z slc_22 z z z Cell_one Cell_im h z z) z z z z z (Q1 z z z (v:=.hnd 7) (Ax.as z z) (Rx (Te ?_)))))))
  exact RetQ.mk (vs:=[.hnd 7]) (.inr z) ⟨_,_,z,.tmp z,z⟩ [7] [] z z u0 (.frz (.hnd mh z (im_flat Cell_im [])) z)
 | cons x xs=>
  refine Co Tryz.func249 z z (nl z) (Tr (Q1 z z z (v:=.lst 4 (([]:List Cell).map Cell.cl)) (Ax.nl 4 z z) (Rx (Ts (Tr (Q1 z z z (v:=.lst 4 ((x::xs:List Cell).map Cell.cl)) (Ax.mv z z) (Q1 z z z (v:=Ab false) (Ax.nilcmp z uns_22 z (by simp)) (Rx (Tri.cond_f z (Tk (Tr (Qn z z z (v:=.hnd 5) (x:=some (.arr 56 4 (([]:List Cell).map Cell.cl))) (Ax.slice_new z z slc_22) z z z z z ?_))))))))))))
  refine Q1 z z z (v:=.lst 4 (((x::xs):List Cell).map Cell.cl)) (Ax.mv z z) (Qa z z z (v:=.hnd 7) (x:=some (.arr 56 4 (((x::xs):List Cell).map Cell.cl))) (Ax.app_l (cl:=Cell.cl) z z slc_22 z z z Cell_one Cell_im h z z) z z z z z (Q1 z z z (v:=.hnd 7) (Ax.as z z) (Rx (Te ?_))))
  exact RetQ.mk (vs:=[.hnd 7]) (.inr z) ⟨_,_,z,.tmp z,z⟩ [7] [] z z u0 (.frz (.hnd mh z (im_flat Cell_im (x::xs))) z)
theorem f250_ok {K:Nat} {a0:List Arr2_3} {r:List Arr2_3} (h:f250 K a0=some r):CallOK Tryz.prog 250 [.lst 2 (a0.map Arr2_3.cl)] [] (.lst 2 (r.map Arr2_3.cl)) []:=by
 unfold f250 at h
 have hr:=(app_spec h).2
 rw [List.nil_append] at hr
 subst hr
 cases r with
 | nil=>
  refine CallOK.lst0 fun a cap=>(Co Tryz.func250 z z (nl z) (Tr (Q1 z z z (v:=.lst 2 (([]:List Arr2_3).map Arr2_3.cl)) (Ax.nl 2 z z) (Rx (Ts (Tr (Q1 z z z (v:=.sc (.slice a 0 cap)) (Ax.mv z z) (Q1 z z z (v:=Ab a.isNone) (Ax.nilc z uns_23 z z) (Rx (Tc (b:=a.isNone) z (fun hb=>?_) (fun hb=>?_)))))))))))
  ·refine Tr (Q1 z z z (v:=.lst 2 (([]:List Arr2_3).map Arr2_3.cl)) (Ax.nl 2 z z) (Rx (Te ?_)))
   exact RetQ.mk (vs:=[.lst 2 (([]:List Arr2_3).map Arr2_3.cl)]) (.inr z) ⟨_,_,z,.tmp z,z⟩ [] [] z z u0 (.rfl' z)
  refine Tk (Tr (Qn z z z (v:=.hnd 5) (x:=some (.arr 97 2 (([]:List Arr2_3).map Arr2_3.cl))) (Ax.slice_new z z slc_23) z z z z z (Q1 z z z (v:=.lst 2 (([]:List Arr2_3).map Arr2_3.cl)) (Ax.move (.inl z) (Sub.lstE _ _ _)) (Qa z z z (v:=.hnd 7) (x:=some (.arr 97 2 (([]:List Arr2_3).map Arr2_3.cl))) (Ax.app_l (cl:=Arr2_3.cl) z z slc_23 z z z Arr2_3_one Arr2_3_im h z z) z z z z z (Q1 z z z (v:=.hnd 7) (Ax.as z z) (Rx (Te ?_)))))))
  exact RetQ.mk (vs:=[.hnd 7]) (.inr z) ⟨_,_,z,.tmp z,z⟩ [7] [] z z u0 (.frz (.hnd mh z (im_flat Arr2_3_im [])) z)
 | cons x xs=>
  refine Co Tryz.func250 z z (nl z) (Tr (Q1 z z z (v:=.lst 2 (([]:List Arr2_3).map Arr2_3.cl)) (Ax.nl 2 z z) (Rx (Ts (Tr (Q1 z z z (v:=.lst 2 ((x::xs:List Arr2_3).map Arr2_3.cl)) (Ax.mv z z) (Q1 z z z (v:=Ab false) (Ax.nilcmp z uns_23 z (by simp)) (Rx (Tri.cond_f z (Tk (Tr (Qn z z z (v:=.hnd 5) (x:=some (.arr 97 2 (([]:List Arr2_3).map Arr2_3.cl))) (Ax.slice_new z z slc_23) z z z z z ?_))))))))))))
  refine Q1 z z z (v:=.lst 2 (((x::xs):List Arr2_3).map Arr2_3.cl)) (Ax.mv z z) (Qa z z z (v:=.hnd 7) (x:=some (.arr 97 2 (((x::xs):List Arr2_3).map Arr2_3.cl))) (Ax.app_l (cl:=Arr2_3.cl) z z slc_23 z z z Arr2_3_one Arr2_3_im h z z) z z z z z (Q1 z z z (v:=.hnd 7) (Ax.as z z) (Rx (Te ?_))))
  exact RetQ.mk (vs:=[.hnd 7]) (.inr z) ⟨_,_,z,.tmp z,z⟩ [7] [] z z u0 (.frz (.hnd mh z (im_flat Arr2_3_im (x::xs))) z)
theorem f131_ok {K:Nat} {a0:Scene} {r:Scene} (h:f131 K a0=some r):CallOK Tryz.prog 131 [.agg (Scene.cl a0)] [] (.agg (Scene.cl r)) []:=by
 refine Co Tryz.func131 z z (nl z) ?_
 unfold f131 at h
 refine Tr (Qn z z z (v:=.ptr 1 0) (x:=some (.box (Scene.cl a0))) (Ax.box_ptr z z z z) z z z z z (Qn z z z (v:=.ptr 2 0) (x:=some (.box [.lst 4 (([]:List Cell).map Cell.cl),.lst 2 (([]:List Arr2_3).map Arr2_3.cl),Ai 0,Ai 0,Ai 0,.lst 1 (([]:List Int).map icl),.sc (.slice none 0 0),.lst 5 (([]:List Change).map Change.cl)])) (Al_ z z zer_30 z ⟨Sub.nil _,Sub.nil _,Sub.refl _,Sub.refl _,Sub.refl _,Sub.nil _,Sub.refl _,Sub.nil _,u0⟩) z z z z z (Rx (Tn (Eg 2 6 900000206 64 5 (cells':=[.lst 4 (([]:List Cell).map Cell.cl),.lst 2 (([]:List Arr2_3).map Arr2_3.cl),Ai 0,Ai 0,Ai 0,.lst 1 (([]:List Int).map icl),.hnd 900000206,.lst 5 (([]:List Change).map Change.cl)]) z z z z) (Tr (Qe 3 z ?_))))))
 obtain⟨x6,hc,h⟩:=bs h
 refine Qc z z z (args:=[.lst 4 (a0.Basin.Cells.map Cell.cl)]) (r:=.lst 4 (x6.map Cell.cl)) (calv z z fnok_249 z) (f249_ok hc) z (Qe 2 z (Qs z z (x:=some (.box (Scene.cl (⟨(⟨x6,a0.Basin.Pairs,a0.Basin.Gain,a0.Basin.Slack,a0.Basin.Deep⟩:Basin),a0.Days,a0.Sights,a0.Changes⟩:Scene)))) (As z siz_22 z z z z z z z) (Rx (Tr (Qe 3 z ?_)))))
 obtain⟨x12,hc_1,h⟩:=bs h
 refine Qc z z z (args:=[.lst 2 (a0.Basin.Pairs.map Arr2_3.cl)]) (r:=.lst 2 (x12.map Arr2_3.cl)) (calv z z fnok_250 z) (f250_ok hc_1) z (Qe 2 z (Qs z z (x:=some (.box (Scene.cl (⟨(⟨x6,x12,a0.Basin.Gain,a0.Basin.Slack,a0.Basin.Deep⟩:Basin),a0.Days,a0.Sights,a0.Changes⟩:Scene)))) (As z siz_23 z z z z z z z) (Rx (Tr (Qe 2 z ?_)))))
 obtain⟨x17,hc_2,h⟩:=bs h
 refine Qc z z z (args:=[.lst 1 (a0.Days.map icl)]) (r:=.lst 1 (x17.map icl)) (calv z z fnok_85 z) (f85_ok hc_2) z (Qe 1 z (Qs z z (x:=some (.box (Scene.cl (⟨(⟨x6,x12,a0.Basin.Gain,a0.Basin.Slack,a0.Basin.Deep⟩:Basin),x17,a0.Sights,a0.Changes⟩:Scene)))) (As z siz_26 z z z z z z z) (Rx (Tr (Qe 2 z ?_)))))
 obtain⟨x21,hc_3,h⟩:=bs h
 refine Qo [] [(20270000,.arr 64 5 (x21.map Sight.cl))] [20270000] z z z (args:=[.lst 5 (a0.Sights.map Sight.cl)]) (r:=.hnd 20270000) (calv z z fnok_42 z) (f42_fr hc_3) u0 z z z z z (Qe 1 z (Qs z z (x:=some (.box [.lst 4 (x6.map Cell.cl),.lst 2 (x12.map Arr2_3.cl),Ai a0.Basin.Gain,Ai a0.Basin.Slack,Ai a0.Basin.Deep,.lst 1 (x17.map icl),.hnd 20270000,.lst 5 (a0.Changes.map Change.cl)])) (As z siz_27 z z z z z z z) (Rx (Tr (Qe 2 z ?_)))))
 obtain⟨x25,hc_4,h⟩:=bs h
 refine Qc z z z (args:=[.lst 5 (a0.Changes.map Change.cl)]) (r:=.lst 5 (x25.map Change.cl)) (calv z z fnok_43 z) (f43_ok hc_4) z (Qe 1 z (Qs z z (x:=some (.box [.lst 4 (x6.map Cell.cl),.lst 2 (x12.map Arr2_3.cl),Ai a0.Basin.Gain,Ai a0.Basin.Slack,Ai a0.Basin.Deep,.lst 1 (x17.map icl),.hnd 20270000,.lst 5 (x25.map Change.cl)])) (As z siz_28 z z z z z z z) (Rx (Tr (Qe 1 z (Qs z z (x:=some (.box [.lst 4 (x6.map Cell.cl),.lst 2 (x12.map Arr2_3.cl),Ai a0.Basin.Gain,Ai a0.Basin.Slack,Ai a0.Basin.Deep,.lst 1 (x17.map icl),.hnd 20270000,.lst 5 (x25.map Change.cl)])) (As z siz_30 z z z z z z z) (Rx (Te ?_))))))))
 refine RetQ.eq2 (fun r=>.agg (Scene.cl r)) (fun r=>[]) (Option.some.inj h) ?_
 exact RetQ.mk (vs:=[.agg [.lst 4 (x6.map Cell.cl),.lst 2 (x12.map Arr2_3.cl),Ai a0.Basin.Gain,Ai a0.Basin.Slack,Ai a0.Basin.Deep,.lst 1 (x17.map icl),.hnd 20270000,.lst 5 (x25.map Change.cl)]]) (.inr z) ⟨_,_,z,.cell_box z siz_30 z z z,z⟩ [20270000] [] z z u0 (.frz (.aggV ⟨(.imm z),(.imm z),(.imm z),(.imm z),(.imm z),(.imm z),(.hnd mh z (im_flat Sight_im x21)),(.imm z),u0⟩) z)
theorem f131_fr {K:Nat} {a0:Scene} {r:Scene} (h:f131 K a0=some r):CallOK Tryz.prog 131 [.agg (Scene.cl a0)] [] (.agg [.lst 4 (r.Basin.Cells.map Cell.cl),.lst 2 (r.Basin.Pairs.map Arr2_3.cl),Ai r.Basin.Gain,Ai r.Basin.Slack,Ai r.Basin.Deep,.lst 1 (r.Days.map icl),.hnd 1325007,.lst 5 (r.Changes.map Change.cl)]) [(1325007,.arr 64 5 (r.Sights.map Sight.cl))]:=by
 refine Co Tryz.func131 z z (nl z) ?_
 unfold f131 at h
 refine Tr (Qn z z z (v:=.ptr 1 0) (x:=some (.box (Scene.cl a0))) (Ax.box_ptr z z z z) z z z z z (Qn z z z (v:=.ptr 2 0) (x:=some (.box [.lst 4 (([]:List Cell).map Cell.cl),.lst 2 (([]:List Arr2_3).map Arr2_3.cl),Ai 0,Ai 0,Ai 0,.lst 1 (([]:List Int).map icl),.sc (.slice none 0 0),.lst 5 (([]:List Change).map Change.cl)])) (Al_ z z zer_30 z ⟨Sub.nil _,Sub.nil _,Sub.refl _,Sub.refl _,Sub.refl _,Sub.nil _,Sub.refl _,Sub.nil _,u0⟩) z z z z z (Rx (Tn (Eg 2 6 900000206 64 5 (cells':=[.lst 4 (([]:List Cell).map Cell.cl),.lst 2 (([]:List Arr2_3).map Arr2_3.cl),Ai 0,Ai 0,Ai 0,.lst 1 (([]:List Int).map icl),.hnd 900000206,.lst 5 (([]:List Change).map Change.cl)]) z z z z) (Tr (Qe 3 z ?_))))))
 obtain⟨x6,hc,h⟩:=bs h
 refine Qc z z z (args:=[.lst 4 (a0.Basin.Cells.map Cell.cl)]) (r:=.lst 4 (x6.map Cell.cl)) (calv z z fnok_249 z) (f249_ok hc) z (Qe 2 z (Qs z z (x:=some (.box (Scene.cl (⟨(⟨x6,a0.Basin.Pairs,a0.Basin.Gain,a0.Basin.Slack,a0.Basin.Deep⟩:Basin),a0.Days,a0.Sights,a0.Changes⟩:Scene)))) (As z siz_22 z z z z z z z) (Rx (Tr (Qe 3 z ?_)))))
 obtain⟨x12,hc_1,h⟩:=bs h
 refine Qc z z z (args:=[.lst 2 (a0.Basin.Pairs.map Arr2_3.cl)]) (r:=.lst 2 (x12.map Arr2_3.cl)) (calv z z fnok_250 z) (f250_ok hc_1) z (Qe 2 z (Qs z z (x:=some (.box (Scene.cl (⟨(⟨x6,x12,a0.Basin.Gain,a0.Basin.Slack,a0.Basin.Deep⟩:Basin),a0.Days,a0.Sights,a0.Changes⟩:Scene)))) (As z siz_23 z z z z z z z) (Rx (Tr (Qe 2 z ?_)))))
 obtain⟨x17,hc_2,h⟩:=bs h
 refine Qc z z z (args:=[.lst 1 (a0.Days.map icl)]) (r:=.lst 1 (x17.map icl)) (calv z z fnok_85 z) (f85_ok hc_2) z (Qe 1 z (Qs z z (x:=some (.box (Scene.cl (⟨(⟨x6,x12,a0.Basin.Gain,a0.Basin.Slack,a0.Basin.Deep⟩:Basin),x17,a0.Sights,a0.Changes⟩:Scene)))) (As z siz_26 z z z z z z z) (Rx (Tr (Qe 2 z ?_)))))
 obtain⟨x21,hc_3,h⟩:=bs h
 refine Qo [] [(20270000,.arr 64 5 (x21.map Sight.cl))] [20270000] z z z (args:=[.lst 5 (a0.Sights.map Sight.cl)]) (r:=.hnd 20270000) (calv z z fnok_42 z) (f42_fr hc_3) u0 z z z z z (Qe 1 z (Qs z z (x:=some (.box [.lst 4 (x6.map Cell.cl),.lst 2 (x12.map Arr2_3.cl),Ai a0.Basin.Gain,Ai a0.Basin.Slack,Ai a0.Basin.Deep,.lst 1 (x17.map icl),.hnd 20270000,.lst 5 (a0.Changes.map Change.cl)])) (As z siz_27 z z z z z z z) (Rx (Tr (Qe 2 z ?_)))))
 obtain⟨x25,hc_4,h⟩:=bs h
 refine Qc z z z (args:=[.lst 5 (a0.Changes.map Change.cl)]) (r:=.lst 5 (x25.map Change.cl)) (calv z z fnok_43 z) (f43_ok hc_4) z (Qe 1 z (Qs z z (x:=some (.box [.lst 4 (x6.map Cell.cl),.lst 2 (x12.map Arr2_3.cl),Ai a0.Basin.Gain,Ai a0.Basin.Slack,Ai a0.Basin.Deep,.lst 1 (x17.map icl),.hnd 20270000,.lst 5 (x25.map Change.cl)])) (As z siz_28 z z z z z z z) (Rx (Tr (Qe 1 z (Qs z z (x:=some (.box [.lst 4 (x6.map Cell.cl),.lst 2 (x12.map Arr2_3.cl),Ai a0.Basin.Gain,Ai a0.Basin.Slack,Ai a0.Basin.Deep,.lst 1 (x17.map icl),.hnd 20270000,.lst 5 (x25.map Change.cl)])) (As z siz_30 z z z z z z z) (Rx (Te ?_))))))))
 refine Rr (fun r=>.agg [.lst 4 (r.Basin.Cells.map Cell.cl),.lst 2 (r.Basin.Pairs.map Arr2_3.cl),Ai r.Basin.Gain,Ai r.Basin.Slack,Ai r.Basin.Deep,.lst 1 (r.Days.map icl),.hnd 1325007,.lst 5 (r.Changes.map Change.cl)]) (fun r=>[(1325007,.arr 64 5 (r.Sights.map Sight.cl))]) [20270000] h ?_ ?_
 ·rfl
 exact⟨imf Sight_im,u0⟩
theorem f53_ok {K:Nat} {a0:Scene} {a1:Sight} {r:Scene × Int} (h:f53 K a0 a1=some r):CallOK Tryz.prog 53 [.agg (Scene.cl a0),.agg (Sight.cl a1)] [] (.tup [.agg (Scene.cl r.1),Ai r.2]) []:=by
 refine Co Tryz.func53 z z (nl z) ?_
 unfold f53 at h
 refine Tr (Qe 2 z (Qn z z z (v:=.ptr 4 0) (x:=some (.box (Scene.cl (⟨(⟨([]:List Cell),([]:List Arr2_3),0,0,0⟩:Basin),([]:List Int),([]:List Sight),([]:List Change)⟩:Scene)))) (Al_ z z zer_30 z ⟨Sub.nil _,Sub.nil _,Sub.refl _,Sub.refl _,Sub.refl _,Sub.nil _,Sub.nil _,Sub.nil _,u0⟩) z z z z z (Qd z (Ts (Tr (Qe 1 z ?_))))))
 obtain⟨x9,hc,h⟩:=bs h
 refine Qc z z z (args:=[.agg (Scene.cl a0)]) (r:=Ai x9) (calv z z fnok_66 z) (f66_ok hc) z (Qd z (Tp z (Tc (b:=(x9 != 0)) z (fun hb=>?_) (fun hb=>?_))))
 ·have h:=cq hb h
  refine Tr (Q1 z z z (v:=.agg (Scene.cl (⟨(⟨([]:List Cell),([]:List Arr2_3),0,0,0⟩:Basin),([]:List Int),([]:List Sight),([]:List Change)⟩:Scene))) (Ab_ z zer_30 (bld plc_30 zer_30) z ⟨Sub.nil _,Sub.nil _,Sub.refl _,Sub.refl _,Sub.refl _,Sub.nil _,Sub.nil _,Sub.nil _,u0⟩) (Qe 1 z (Qs z z (x:=some (.box (Scene.cl (⟨(⟨([]:List Cell),([]:List Arr2_3),0,0,0⟩:Basin),([]:List Int),([]:List Sight),([]:List Change)⟩:Scene)))) (As z siz_30 z z z z z z z) (Qd z (Te ?_)))))
  refine Rr (fun r=>.tup [.agg (Scene.cl r.1),Ai r.2]) (fun r=>[]) [] h ?_ u0
  rfl
 have h:=cw hb h
 refine Tk (Ts (Tr (Qe 2 z (Q1 z z z (Ax.ln (cl:=Sight.cl) z slc_27 z) (Qd z (Tc (b:=((a0.Sights.length:Int)==256)) z (fun hb_1=>?_) (fun hb_1=>?_)))))))
 ·have h:=cq hb_1 h
  refine Tr (Q1 z z z (v:=.agg (Scene.cl (⟨(⟨([]:List Cell),([]:List Arr2_3),0,0,0⟩:Basin),([]:List Int),([]:List Sight),([]:List Change)⟩:Scene))) (Ab_ z zer_30 (bld plc_30 zer_30) z ⟨Sub.nil _,Sub.nil _,Sub.refl _,Sub.refl _,Sub.refl _,Sub.nil _,Sub.nil _,Sub.nil _,u0⟩) (Qs z z (x:=some (.box (Scene.cl (⟨(⟨([]:List Cell),([]:List Arr2_3),0,0,0⟩:Basin),([]:List Int),([]:List Sight),([]:List Change)⟩:Scene)))) (As z siz_30 z z z z z z z) (Qd z (Te ?_))))
  refine Rr (fun r=>.tup [.agg (Scene.cl r.1),Ai r.2]) (fun r=>[]) [] h ?_ u0
  rfl
 have h:=cw hb_1 h
 refine Tk (Ts (Tr (Qe 2 z ?_)))
 obtain⟨x21,hc_1,h⟩:=bs h
 refine Qc z z z (args:=[.agg (Scene.cl a0),.agg (Sight.cl a1)]) (r:=Ab x21) (calv z z fnok_130 z) (f130_ok hc_1) z (Qd z (Tc (b:=(!x21)) z (fun hb_2=>?_) (fun hb_2=>?_)))
 ·have h:=cq hb_2 h
  refine Tr (Q1 z z z (v:=.agg (Scene.cl (⟨(⟨([]:List Cell),([]:List Arr2_3),0,0,0⟩:Basin),([]:List Int),([]:List Sight),([]:List Change)⟩:Scene))) (Ab_ z zer_30 (bld plc_30 zer_30) z ⟨Sub.nil _,Sub.nil _,Sub.refl _,Sub.refl _,Sub.refl _,Sub.nil _,Sub.nil _,Sub.nil _,u0⟩) (Qs z z (x:=some (.box (Scene.cl (⟨(⟨([]:List Cell),([]:List Arr2_3),0,0,0⟩:Basin),([]:List Int),([]:List Sight),([]:List Change)⟩:Scene)))) (As z siz_30 z z z z z z z) (Qd z (Te ?_))))
  refine Rr (fun r=>.tup [.agg (Scene.cl r.1),Ai r.2]) (fun r=>[]) [] h ?_ u0
  rfl
 have h:=cw hb_2 h
 refine Tk (Tr (Qe 1 z ?_))
 obtain⟨x25,hc_2,h⟩:=bs h
 refine Qo [] [(1325007,.arr 64 5 (x25.Sights.map Sight.cl))] [1325007] z z z (args:=[.agg (Scene.cl a0)]) (r:=.agg [.lst 4 (x25.Basin.Cells.map Cell.cl),.lst 2 (x25.Basin.Pairs.map Arr2_3.cl),Ai x25.Basin.Gain,Ai x25.Basin.Slack,Ai x25.Basin.Deep,.lst 1 (x25.Days.map icl),.hnd 1325007,.lst 5 (x25.Changes.map Change.cl)]) (calv z z fnok_131 z) (f131_fr hc_2) u0 z z z z z (Qn z z z (v:=.ptr 7 0) (x:=some (.box [.lst 4 (([]:List Cell).map Cell.cl),.lst 2 (([]:List Arr2_3).map Arr2_3.cl),Ai 0,Ai 0,Ai 0,.lst 1 (([]:List Int).map icl),.sc (.slice none 0 0),.lst 5 (([]:List Change).map Change.cl)])) (Al_ z z zer_30 z ⟨Sub.nil _,Sub.nil _,Sub.refl _,Sub.refl _,Sub.refl _,Sub.nil _,Sub.refl _,Sub.nil _,u0⟩) z z z z z (Qs z z (x:=some (.box [.lst 4 (x25.Basin.Cells.map Cell.cl),.lst 2 (x25.Basin.Pairs.map Arr2_3.cl),Ai x25.Basin.Gain,Ai x25.Basin.Slack,Ai x25.Basin.Deep,.lst 1 (x25.Days.map icl),.hnd 1325007,.lst 5 (x25.Changes.map Change.cl)])) (As z siz_30 z z z z z z z) (Rx (Tr (Qe 3 z (Q1 z z z (v:=.lst 5 (([a1]:List Sight).map Sight.cl)) (Ax.sl (xs:=([a1]:List Sight)) z slc_27 z z ⟨Sub.refl _,Sub.refl _,Sub.refl _,Sub.refl _,Sub.refl _,u0⟩ z Sight_len Sight_one Sight_im) ?_))))))
 obtain⟨z30,hz,h⟩:=bs h
 refine Qa z z z (v:=.hnd 30) (x:=some (.arr 64 5 (z30.map Sight.cl))) (Ax.app_l (cl:=Sight.cl) z z slc_27 z z z Sight_one Sight_im hz z z) z z z z z (Qe 1 z (Qs z z (x:=some (.box [.lst 4 (x25.Basin.Cells.map Cell.cl),.lst 2 (x25.Basin.Pairs.map Arr2_3.cl),Ai x25.Basin.Gain,Ai x25.Basin.Slack,Ai x25.Basin.Deep,.lst 1 (x25.Days.map icl),.hnd 30,.lst 5 (x25.Changes.map Change.cl)])) (As z siz_27 z z z z z z z) (Rx (Tr (Qe 1 z (Qs z z (x:=some (.box [.lst 4 (x25.Basin.Cells.map Cell.cl),.lst 2 (x25.Basin.Pairs.map Arr2_3.cl),Ai x25.Basin.Gain,Ai x25.Basin.Slack,Ai x25.Basin.Deep,.lst 1 (x25.Days.map icl),.hnd 30,.lst 5 (x25.Changes.map Change.cl)])) (As z siz_30 z z z z z z z) (Qd z (Te ?_))))))))
 refine RetQ.eq2 (fun r=>.tup [.agg (Scene.cl r.1),Ai r.2]) (fun r=>[]) (Option.some.inj h) ?_
 exact RetQ.mk (vs:=[.agg [.lst 4 (x25.Basin.Cells.map Cell.cl),.lst 2 (x25.Basin.Pairs.map Arr2_3.cl),Ai x25.Basin.Gain,Ai x25.Basin.Slack,Ai x25.Basin.Deep,.lst 1 (x25.Days.map icl),.hnd 30,.lst 5 (x25.Changes.map Change.cl)],Ai 0]) (.inr z) ⟨_,_,z,.cell_box z siz_30 z z z,⟨_,_,z,.tmp z,z⟩⟩ [30] [] z z u0 (.tupV ⟨.frz (.aggV ⟨(.imm z),(.imm z),(.imm z),(.imm z),(.imm z),(.imm z),(.hnd mh z (im_flat Sight_im z30)),(.imm z),u0⟩) z,.rfl' z,u0⟩)
theorem f252_ok {K:Nat} {a0:List Int} {r:List Int} (h:f252 K a0=some r):CallOK Tryz.prog 252 [.hnd 20260000] [(20260000,.arr 3 1 (a0.map icl))] (.tup []) [(20260000,.arr 3 1 (r.map icl))]:=by
 refine Co Tryz.func252 z z (nl z) ?_
 unfold f252 at h
 refine Tr (Qe 1 z (Q1 z z z (Ax.lnh (cl:=icl) z slc_26 z z) (Qd z ?_)))
 obtain⟨vok0,hj,h⟩:=bs h
 refine Tri.whlv hj (fun p=>⟨[(0,.hnd 20260000),(2,Ai p.2.1),(3,Ai p.2.2)],[(20260000,some (.arr 3 1 (p.1.map icl)))]⟩) (fun(y:List Int)=>⟨[],[(20260000,some (.arr 3 1 (y.map icl)))]⟩) (Ee [20260000] z ⟨imf icl_im,u0⟩) ?_ ?_
 ·refine RetQ.eq2 (fun r=>.tup []) (fun r=>[(20260000,.arr 3 1 (r.map icl))]) (Option.some.inj h) ?_
  exact RetQ.mk (vs:=[]) (.inl z) z [] [(20260000,20260000,.arr 3 1 (vok0.map icl))] z z ⟨⟨_,z,.arr (im_flat icl_im vok0)⟩,u0⟩ (.tupV u0)
 rintro nx ⟨vo0,v2,v3⟩ h
 refine Ts (Tp z (Tc (b:=(decide (v2 < v3))) z (fun hb=>?_) (fun hb=>?_)))
 ·have h:=cq hb h
  refine Tk (Ts (Tri.block (Td [[],[],[],[],[],[],[4,5],[4,5,6],[],[],[8,9],[8,9,10],[0,1,4,5,6,7,8,9,10,11],[0,1,4,5,6,7,8,9,10,11,12],[0,1,2,3,4,5,6,7,8,9,10,11,12,13],[0,1,2,3,4,5,6,7,8,9,10,11,12,13,14]] hmix (by kernel_rfl) (Qe 6 z ?_))))
  obtain⟨y,hy,h⟩:=bs h
  refine Q1 z z z (Ax.ixh (cl:=icl) z slc_26 z z z hy) (Q1 z z z (Ax.l1_arr (cl:=icl) z siz_3 z z hy z) (Qe 2 z ?_))
  obtain⟨y_1,hy_1,h⟩:=bs h
  refine Q1 z z z (Ax.ixh (cl:=icl) z slc_26 z z z hy_1) (Q1 z z z (Ax.l1_arr (cl:=icl) z siz_3 z z hy_1 z) (Q1 z z z (Ax.ixh (cl:=icl) z slc_26 z z z hy_1) (Qs z z (x:=some (.arr 3 1 ((vo0.set (Int.toNat v2) y).map icl))) (Ax.st_arr (cl:=icl) (q:=y) z siz_3 z z hy_1 z z z z z z) ?_)))
  obtain⟨y_2,hy_2,h⟩:=bs h
  refine Q1 z z z (Ax.ixh (cl:=icl) z slc_26 z z z hy_2) (Qs z z (x:=some (.arr 3 1 (((vo0.set (Int.toNat v2) y).set (Int.toNat v3) y_1).map icl))) (Ax.st_arr (cl:=icl) (q:=y_1) z siz_3 z z hy_2 z z z z z z) (Rx ⟨by kernel_rfl,freshL_of [] (by kernel_rfl) (by kernel_rfl),?_⟩))
  exact Tq z (Xi (((vo0.set (Int.toNat v2) y).set (Int.toNat v3) y_1),(W (v2+1)),(W (v3 - 1))) (An h (Ee [20260000] z ⟨imf icl_im,u0⟩)))
 have h:=cw hb h
 exact Tri.exit (Xi vo0 (An h (Ee [20260000] z ⟨imf icl_im,u0⟩)))
theorem f132_ok {K:Nat} {a0:Net} {r:List Int × Bool × Int} (h:f132 K a0=some r):CallOK Tryz.prog 132 [.agg (Net.cl a0)] [] (.tup [.lst 1 (r.1.map icl),Ab r.2.1,Ai r.2.2]) []:=by
 refine Co Tryz.func132 z z (nl z) ?_
 unfold f132 at h
 refine Tr (Qe 1 z (Q1 z z z (v:=.lst 1 (([]:List Int).map icl)) (Ax.nl 1 z z) (Qd z (Ts (Tr (Qe 1 z ?_))))))
 obtain⟨x13,hc,h⟩:=bs h
 refine Qc z z z (args:=[.agg (Net.cl a0)]) (r:=Ai x13) (calv z z fnok_227 z) (f227_ok hc) z (Qd z (Tp z (Tc (b:=(x13 != 0)) z (fun hb=>?_) (fun hb=>?_))))
 ·have h:=cq hb h
  refine Tr (Qe 1 z (Q1 z z z (v:=.lst 1 (([]:List Int).map icl)) (Ax.nl 1 z z) (Qd z (Te ?_))))
  refine Rr (fun r=>.tup [.lst 1 (r.1.map icl),Ab r.2.1,Ai r.2.2]) (fun r=>[]) [] h ?_ u0
  rfl
 have h:=cw hb h
 refine Tk (Tr (Qe 1 z (Q1 z z z (v:=.agg (Plain_diffs.cl (⟨a0⟩:Plain_diffs))) (Ab_ z zer_322 (bld plc_322 zer_322) z ⟨Sub.refl _,Sub.refl _,u0⟩) (Q1 z z z (v:=.ifc 322 (.agg (Plain_diffs.cl (⟨a0⟩:Plain_diffs)))) (Ax.ifc' z nif_322 z) ?_))))
 obtain⟨⟨x21_0,x21_1,x21_2⟩,hc_1,h⟩:=bs h
 refine Qc z z z (args:=[.ifc 322 (.fz (.agg (Plain_diffs.cl (⟨a0⟩:Plain_diffs))))]) (r:=.tup [.lst 1 (x21_0.map icl),.agg (Tree_diffs.cl x21_1),Ai x21_2]) (calw z z fnok_251 ⟨Sub.fz z,u0⟩) (f251_ok ⟨⟨386,fnok_386,meth_322_386,fun _ hr=>(f386_ok (K:=K) hr).fz1⟩,⟨387,fnok_387,meth_322_387,fun _ hr=>(f387_ok (K:=K) hr).fz1⟩,z,z⟩ hc_1) z (Qe 4 z (Qn z z z (v:=.ptr 7 0) (x:=some (.box (Tree_diffs.cl (⟨([]:List Int),([]:List Bool),([]:List Int)⟩:Tree_diffs)))) (Al_ z z zer_318 z ⟨Sub.nil _,Sub.nil _,Sub.nil _,u0⟩) z z z z z (Qe 1 z (Qs z z (x:=some (.box (Tree_diffs.cl x21_1))) (As z siz_318 z z z z z z z) (Qd z (Ts (Tp z (Tc (b:=(decide (x21_2 < 0))) z (fun hb_1=>?_) (fun hb_1=>?_)))))))))
 ·have h:=cq hb_1 h
  refine Tr (Q1 z z z (v:=.lst 1 (([]:List Int).map icl)) (Ax.nl 1 z z) (Qd z (Te ?_)))
  refine Rr (fun r=>.tup [.lst 1 (r.1.map icl),Ab r.2.1,Ai r.2.2]) (fun r=>[]) [] h ?_ u0
  rfl
 have h:=cw hb_1 h
 refine Tk (Tr (Qn z z z (v:=.hnd 9) (x:=some (.arr 3 1 (([]:List Int).map icl))) (Ax.nil_new 3 1 (.inr z) z) z z z z z (Rx (Ts (Tp z ?_)))))
 obtain⟨vo9_1,hj,h⟩:=bs h
 refine Tri.whlv hj (fun p=>⟨[(1,.ipt (Net.cl a0) 0),(7,.ptr 7 0),(8,Ai x21_2),(9,.hnd 9),(10,Ai p.2)],[(7,some (.box (Tree_diffs.cl x21_1))),(9,some (.arr 3 1 (p.1.map icl)))]⟩) (fun(y:List Int)=>⟨[(9,.hnd 36)],[(36,some (.arr 3 1 (y.map icl)))]⟩) (Ee [7,9] z ⟨im_flat icl_im ([]:List Int),u0⟩) ?_ ?_
 ·refine Ts (Tn (Ent.norm [] [(20260000,36,.arr 3 1 (vo9_1.map icl))] [(9,.hnd 20260000)] z ⟨⟨_,z,.arr (im_flat icl_im vo9_1)⟩,u0⟩ ⟨.hnd mh,u0⟩) (Tri.region (Qe 1 z ?_)))
  obtain⟨x47,hc_2,h⟩:=bs h
  refine Qo [(20260000,.arr 3 1 (vo9_1.map icl))] [(20260000,.arr 3 1 (x47.map icl))] [] z z z (args:=[.hnd 20260000]) (r:=.tup []) (calv z z fnok_252 z) (f252_ok hc_2) ⟨z,u0⟩ z z z z z (Rx (Tp z (Te ?_)))
  refine RetQ.eq2 (fun r=>.tup [.lst 1 (r.1.map icl),Ab r.2.1,Ai r.2.2]) (fun r=>[]) (Option.some.inj h) ?_
  exact RetQ.mk (vs:=[.hnd 20260000,Ab true,Ai 0]) (.inr z) ⟨_,_,z,.tmp z,⟨_,_,z,.tmp z,⟨_,_,z,.tmp z,z⟩⟩⟩ [20260000] [] z z u0 (.tupV ⟨.frz (.hnd mh z (im_flat icl_im x47)) z,.rfl' z,.rfl' z,u0⟩)
 rintro nx ⟨vo9,v10⟩ h
 refine Tri.block (Tr (Qe 3 z ?_))
 obtain⟨y,hy,h⟩:=bs h
 refine Q1 z z z (Ax.ix (cl:=icl) z slc_26 z z hy) (Qd z (Tr (Qe 2 z (Q1 z z z (v:=.lst 1 (([y]:List Int).map icl)) (Ax.sl (xs:=([y]:List Int)) z slc_26 z z ⟨Sub.refl _,u0⟩ z icl_len icl_one icl_im) ?_))))
 obtain⟨z36,hz,h⟩:=bs h
 refine Qa z z z (v:=.hnd 36) (x:=some (.arr 3 1 (z36.map icl))) (Ax.app_l (cl:=icl) z z slc_26 z z z icl_one icl_im hz z z) z z z z z (Qd z (Tr (Qe 3 z ?_)))
 obtain⟨y_1,hy_1,h⟩:=bs h
 refine Q1 z z z (Ax.ix (cl:=Diff.cl) z slc_32 z z hy_1) (Qd z (Tp z (Tc (b:=(y_1.From==x21_2)) z (fun hb_2=>?_) (fun hb_2=>?_))))
 ·have h:=cq hb_2 h
  exact Tri.exit (Xi z36 (An h (Ee [36] z ⟨imf icl_im,u0⟩)))
 have h:=cw hb_2 h
 exact Tk (Xi (z36,y_1.From) (An h (Ee [7,36] z ⟨imf icl_im,u0⟩)))
theorem f350_ok {K:Nat} {a0:Int} {r:Bool} (h:f350 K a0=some r):CallOK Tryz.prog 350 [Ai a0] [] (Ab r) []:=by
 refine Co Tryz.func350 z z (nl z) ?_
 unfold f350 at h
 refine Tp z (Tp z (Te ?_))
 exact Rb h z
theorem f319_ok {K:Nat} {a0:Int} {a1:Int} {r:Bool} (h:f319 K a0 a1=some r):CallOK Tryz.prog 319 [Ai a0,Ai a1] [] (Ab r) []:=by
 refine Co Tryz.func319 z z (nl z) ?_
 unfold f319 at h
 refine Tp z (Ts ?_)
 obtain⟨v4,hj,h⟩:=bs h
 refine Tri.joinv v4 (fun(y:Bool)=>⟨[(4,Ab y)],[]⟩) ?_ ?_
 ·refine Te ?_
  exact Rb h z
 have h:=hj
 refine Tri.region (Qe 1 z ?_)
 obtain⟨x6,hc,h⟩:=bs h
 refine Qc z z z (args:=[Ai a0]) (r:=Ab x6) (calv z z fnok_350 z) (f350_ok hc) z (Qe 1 z ?_)
 rcases b2 x6 with hb | hb
 ·have h:=cq hb h
  refine Qk 7 hb z (Qe 1 z ?_)
  obtain⟨x9,hc_1,h⟩:=bs h
  refine Qc z z z (args:=[Ai a1]) (r:=Ab x9) (calv z z fnok_350 z) (f350_ok hc_1) z (Qe 3 z ?_)
  rcases b2 (!x9) with hb_1 | hb_1
  ·have h:=cq hb_1 h
   exact Qk 12 hb_1 z (Qd z (Xi true (An h (E0 z))))
  have h:=cw hb_1 h
  exact Qk 12 hb_1 z (Qd z (Xi (decide (a0 < a1)) (An h (E0 z))))
 have h:=cw hb h
 exact Qk 7 hb z (Qd z (Xi (decide (a0 < a1)) (An h (E0 z))))
theorem f313_ok {K:Nat} {a0:List Int} {a1:Int} {a2:Int} {r:List Int} (h:f313 K a0 a1 a2=some r):CallOK Tryz.prog 313 [.hnd 20260000,Ai a1,Ai a2] [(20260000,.arr 3 1 (a0.map icl))] (.tup []) [(20260000,.arr 3 1 (r.map icl))]:=by
 refine Co Tryz.func313 z z (nl z) ?_
 unfold f313 at h
 refine Tp z ?_
 obtain⟨vok0,hj,h⟩:=bs h
 refine Tri.rngNv hj (fun p=>⟨[(0,.hnd 20260000),(1,Ai a1),(2,Ai a2),(6,Ai p.1)],[(20260000,some (.arr 3 1 (p.2.map icl)))]⟩) (fun(y:List Int)=>⟨[],[(20260000,some (.arr 3 1 (y.map icl)))]⟩) (Ee [20260000] z ⟨imf icl_im,u0⟩) ?_ ?_ ?_
 ·refine RetQ.eq2 (fun r=>.tup []) (fun r=>[(20260000,.arr 3 1 (r.map icl))]) (Option.some.inj h) ?_
  exact RetQ.mk (vs:=[]) (.inl z) z [] [(20260000,20260000,.arr 3 1 (vok0.map icl))] z z ⟨⟨_,z,.arr (im_flat icl_im vok0)⟩,u0⟩ (.tupV u0)
 ·rintro v6 vo0 hi _ h
  refine Ts (Tp z (Tc (b:=(decide (v6 < a2))) z (fun hb=>?_) (fun hb=>?_)))
  ·exact(lt_f hi hb).elim
  exact Tri.exit (Xi vo0 (An h (Ee [20260000] z ⟨imf icl_im,u0⟩)))
 rintro nx v6 vo0 _ hi hw h
 refine Ts (Tp z (Tc (b:=(decide (v6 < a2))) z (fun hb_1=>?_) (fun hb_1=>?_)))
 ·refine Tk (Ts (Tri.block (Tp z ?_)))
  obtain⟨vo0_2,hj_1,h⟩:=bs h
  refine Tri.whlv hj_1 (fun p=>⟨[(0,.hnd 20260000),(1,Ai a1),(2,Ai a2),(6,Ai v6),(7,Ai p.2)],[(20260000,some (.arr 3 1 (p.1.map icl)))]⟩) (fun(y:List Int)=>⟨[(0,.hnd 20260000),(1,Ai a1),(2,Ai a2),(6,Ai v6)],[(20260000,some (.arr 3 1 (y.map icl)))]⟩) (Ee [20260000] z ⟨imf icl_im,u0⟩) ?_ ?_
  ·exact Tq z (Xi (v6+1,vo0_2) (An (An z h) (Es [20260000] [6] z ⟨imf icl_im,u0⟩ ⟨.imm (Sub.of_eq (show Ai (v6+1)=Ai (W (v6+1)) from congrArg Ai hw.symm)) z,u0⟩)))
  rintro nx_1 ⟨vo0_1,v7⟩ h
  refine Ts (Ts ?_)
  obtain⟨v30,hj_2,h⟩:=bs h
  refine Tri.joinv v30 (fun(y:Bool)=>⟨[(0,.hnd 20260000),(1,Ai a1),(2,Ai a2),(6,Ai v6),(7,Ai v7),(30,Ab y)],[(20260000,some (.arr 3 1 (vo0_1.map icl)))]⟩) ?_ ?_
  ·refine Tc (b:=v30) z (fun hb_2=>?_) (fun hb_2=>?_)
   ·have h:=cq hb_2 h
    refine Tk (Ts (Tri.block (Td [[],[],[],[],[3],[],[],[6],[5,6,7],[5,6,7,8],[],[],[10,11],[10,11,12],[0,1,5,6,7,8,9,10,11,12,13],[0,1,5,6,7,8,9,10,11,12,13,14],[0,1,2,3,4,5,6,7,8,9,10,11,12,13,14,15],[0,1,2,3,4,5,6,7,8,9,10,11,12,13,14,15,16]] hmix (by kernel_rfl) (Qe 8 z ?_))))
    obtain⟨y,hy,h⟩:=bs h
    refine Q1 z z z (Ax.ixh (cl:=icl) z slc_26 z z z hy) (Q1 z z z (Ax.l1_arr (cl:=icl) z siz_3 z z hy z) (Qe 2 z ?_))
    obtain⟨y_1,hy_1,h⟩:=bs h
    refine Q1 z z z (Ax.ixh (cl:=icl) z slc_26 z z z hy_1) (Q1 z z z (Ax.l1_arr (cl:=icl) z siz_3 z z hy_1 z) (Q1 z z z (Ax.ixh (cl:=icl) z slc_26 z z z hy_1) (Qs z z (x:=some (.arr 3 1 ((vo0_1.set (Int.toNat v7) y).map icl))) (Ax.st_arr (cl:=icl) (q:=y) z siz_3 z z hy_1 z z z z z z) ?_)))
    obtain⟨y_2,hy_2,h⟩:=bs h
    refine Q1 z z z (Ax.ixh (cl:=icl) z slc_26 z z z hy_2) (Qs z z (x:=some (.arr 3 1 (((vo0_1.set (Int.toNat v7) y).set (Int.toNat (W (v7 - 1))) y_1).map icl))) (Ax.st_arr (cl:=icl) (q:=y_1) z siz_3 z z hy_2 z z z z z z) (Rx ⟨by kernel_rfl,freshL_of [] (by kernel_rfl) (by kernel_rfl),?_⟩))
    exact Tq z (Xi (((vo0_1.set (Int.toNat v7) y).set (Int.toNat (W (v7 - 1))) y_1),(W (v7 - 1))) (An h (Ee [20260000] z ⟨imf icl_im,u0⟩)))
   have h:=cw hb_2 h
   exact Tri.exit (Xi vo0_1 (An h (Ee [20260000] z ⟨imf icl_im,u0⟩)))
  have h:=hj_2
  refine Td [[],[],[0,1],[0,1,2],[0,1,2,3],[0,1,2,3],[0,1,2,3,4,5],[0,1,2,3,4,5,6],[0,1,2,3],[0,1,2,3],[0,1,2,3,9],[0,1,2,3,8,9,10],[0,1,2,3,8,9,10,11],[0,1,2,3,4,5,6,7,8,9,10,11,12],[0,1,2,3,4,5,6,7,8,9,10,11,12,13]] hmix (by kernel_rfl) (Qe 4 z ?_)
  rcases b2 (decide (v7 > a1)) with hb_3 | hb_3
  ·have h:=cq hb_3 h
   refine Qk 19 hb_3 z (Qe 2 z ?_)
   obtain⟨y_3,hy_3,h⟩:=bs h
   refine Q1 z z z (Ax.ixh (cl:=icl) z slc_26 z z z hy_3) (Q1 z z z (Ax.l1_arr (cl:=icl) z siz_3 z z hy_3 z) (Qe 3 z ?_))
   obtain⟨y_4,hy_4,h⟩:=bs h
   refine Q1 z z z (Ax.ixh (cl:=icl) z slc_26 z z z hy_4) (Q1 z z z (Ax.l1_arr (cl:=icl) z siz_3 z z hy_4 z) ?_)
   obtain⟨x29,hc,h⟩:=bs h
   refine Qc z z z (args:=[Ai y_3,Ai y_4]) (r:=Ab x29) (calv z z fnok_319 z) (f319_ok hc) z (Qe 1 z (Rx ⟨by kernel_rfl,freshL_of [] (by kernel_rfl) (by kernel_rfl),?_⟩))
   exact Xi x29 (An h (Ee [20260000] z ⟨imf icl_im,u0⟩))
  have h:=cw hb_3 h
  refine Qk 19 hb_3 z (Qe 11 z (Rx ⟨by kernel_rfl,freshL_of [] (by kernel_rfl) (by kernel_rfl),?_⟩))
  exact Xi false (An h (Ee [20260000] z ⟨imf icl_im,u0⟩))
 exact(lt_t hi hb_1).elim
theorem f345_ok {K:Nat} {a0:List Int} {a1:Int} {a2:Int} {a3:Int} {r:List Int} (h:f345 K a0 a1 a2 a3=some r):CallOK Tryz.prog 345 [.hnd 20260000,Ai a1,Ai a2,Ai a3] [(20260000,.arr 3 1 (a0.map icl))] (.tup []) [(20260000,.arr 3 1 (r.map icl))]:=by
 refine Co Tryz.func345 z z (nl z) ?_
 unfold f345 at h
 refine Tp z ?_
 obtain⟨j,hj,h⟩:=jo h
 refine Tri.whl h (fun p=>⟨[(0,.hnd 20260000),(2,Ai a2),(3,Ai a3),(8,Ai p.2)],[(20260000,some (.arr 3 1 (p.1.map icl)))]⟩) (fun y=>j y=some r) (fun(y:List Int)=>⟨[],[(20260000,some (.arr 3 1 (y.map icl)))]⟩) (Ee [20260000] z ⟨imf icl_im,u0⟩) ?_ ?_
 ·rintro vok0 h
  subst hj
  refine RetQ.eq2 (fun r=>.tup []) (fun r=>[(20260000,.arr 3 1 (r.map icl))]) (Option.some.inj h) ?_
  exact RetQ.mk (vs:=[]) (.inl z) z [] [(20260000,20260000,.arr 3 1 (vok0.map icl))] z z ⟨⟨_,z,.arr (im_flat icl_im vok0)⟩,u0⟩ (.tupV u0)
 rintro nx ⟨vo0,v8⟩ h
 refine Tri.block (Tp z (Ts (Tp z (Tc (b:=(decide ((W ((W (2*v8))+1))≥a2))) z (fun hb=>?_) (fun hb=>?_)))))
 ·have h:=cq hb h
  exact Tri.exit (Xi vo0 (An h (Ee [20260000] z ⟨imf icl_im,u0⟩)))
 have h:=cw hb h
 refine Tk (Ts (Ts ?_))
 obtain⟨v36,hj_1,h⟩:=bs h
 refine Tri.joinv v36 (fun(y:Bool)=>⟨[(0,.hnd 20260000),(2,Ai a2),(3,Ai a3),(8,Ai v8),(9,Ai (W ((W (2*v8))+1))),(36,Ab y)],[(20260000,some (.arr 3 1 (vo0.map icl)))]⟩) ?_ ?_
 ·obtain⟨v9,hv,h⟩:=lt h
  refine Tri.join1 ⟨[(0,.hnd 20260000),(2,Ai a2),(3,Ai a3),(8,Ai v8),(9,Ai v9)],[(20260000,some (.arr 3 1 (vo0.map icl)))]⟩ ?_ ?_
  ·refine Ts (Ts (Td [[],[],[],[1,2],[0,1,2,3],[0,1,2,3,4],[],[],[],[7,8],[6,7,8,9],[6,7,8,9,10],[0,1,2,3,4,5,6,7,8,9,10,11],[0,1,2,3,4,5,6,7,8,9,10,11,12]] hmix (by kernel_rfl) (Qe 4 z ?_)))
   obtain⟨y,hy,h⟩:=bs h
   refine Q1 z z z (Ax.ixh (cl:=icl) z slc_26 z z z hy) (Q1 z z z (Ax.l1_arr (cl:=icl) z siz_3 z z hy z) (Qe 4 z ?_))
   obtain⟨y_1,hy_1,h⟩:=bs h
   refine Q1 z z z (Ax.ixh (cl:=icl) z slc_26 z z z hy_1) (Q1 z z z (Ax.l1_arr (cl:=icl) z siz_3 z z hy_1 z) ?_)
   obtain⟨x51,hc,h⟩:=bs h
   refine Qc z z z (args:=[Ai y,Ai y_1]) (r:=Ab x51) (calv z z fnok_319 z) (f319_ok hc) z (Qe 1 z (Rx ⟨by kernel_rfl,freshL_of [] (by kernel_rfl) (by kernel_rfl),?_⟩))
   refine Tc (b:=(!x51)) z (fun hb_1=>?_) (fun hb_1=>?_)
   ·have h:=cq hb_1 h
    refine Te ?_
    refine RetQ.eq2 (fun r=>.tup []) (fun r=>[(20260000,.arr 3 1 (r.map icl))]) (Option.some.inj h) ?_
    exact RetQ.mk (vs:=[]) (.inr z) z [] [(20260000,20260000,.arr 3 1 (vo0.map icl))] z z ⟨⟨_,z,.arr (im_flat icl_im vo0)⟩,u0⟩ (.tupV u0)
   have h:=cw hb_1 h
   refine Tk (Ts (Td [[],[],[],[1,2],[],[],[],[5,6],[],[],[],[9,10],[8,9,10,11],[8,9,10,11,12],[],[],[],[15,16],[14,15,16,17],[14,15,16,17,18],[0,1,2,3,8,9,10,11,12,13,14,15,16,17,18,19],[0,1,2,3,8,9,10,11,12,13,14,15,16,17,18,19,20],[0,1,2,3,4,5,6,7,8,9,10,11,12,13,14,15,16,17,18,19,20,21],[0,1,2,3,4,5,6,7,8,9,10,11,12,13,14,15,16,17,18,19,20,21,22]] hmix (by kernel_rfl) (Qe 12 z (Q1 z z z (Ax.ixh (cl:=icl) z slc_26 z z z hy_1) (Q1 z z z (Ax.l1_arr (cl:=icl) z siz_3 z z hy_1 z) (Qe 4 z (Q1 z z z (Ax.ixh (cl:=icl) z slc_26 z z z hy) (Q1 z z z (Ax.l1_arr (cl:=icl) z siz_3 z z hy z) (Q1 z z z (Ax.ixh (cl:=icl) z slc_26 z z z hy) (Qs z z (x:=some (.arr 3 1 ((vo0.set (Int.toNat (W (a3+v8))) y_1).map icl))) (Ax.st_arr (cl:=icl) (q:=y_1) z siz_3 z z hy z z z z z z) ?_))))))))))
   obtain⟨y_2,hy_2,h⟩:=bs h
   refine Q1 z z z (Ax.ixh (cl:=icl) z slc_26 z z z hy_2) (Qs z z (x:=some (.arr 3 1 (((vo0.set (Int.toNat (W (a3+v8))) y_1).set (Int.toNat (W (a3+v9))) y).map icl))) (Ax.st_arr (cl:=icl) (q:=y) z siz_3 z z hy_2 z z z z z z) (Rx ⟨by kernel_rfl,freshL_of [] (by kernel_rfl) (by kernel_rfl),?_⟩))
   exact Tq z (Xi (((vo0.set (Int.toNat (W (a3+v8))) y_1).set (Int.toNat (W (a3+v9))) y),v9) (An h (Ee [20260000] z ⟨imf icl_im,u0⟩)))
  refine Tc (b:=v36) z (fun hb_2=>?_) (fun hb_2=>?_)
  ·exact Tq z ((Es [20260000] [9] z ⟨imf icl_im,u0⟩ ⟨.imm (Sub.of_eq (show Ai v9=Ai (W ((W ((W (2*v8))+1))+1)) by simp only [cond_true,cond_false,Bool.true_or,Bool.false_or,Bool.true_and,Bool.false_and,Bool.or_true,Bool.or_false,Bool.and_true,Bool.and_false,hv,hb,hb_2])) z,u0⟩))
  exact Tk ((Es [20260000] [9] z ⟨imf icl_im,u0⟩ ⟨.imm (Sub.of_eq (show Ai v9=Ai (W ((W (2*v8))+1)) by simp only [cond_true,cond_false,Bool.true_or,Bool.false_or,Bool.true_and,Bool.false_and,Bool.or_true,Bool.or_false,Bool.and_true,Bool.and_false,hv,hb,hb_2])) z,u0⟩))
 have h:=hj_1
 refine Td [[],[0],[],[0,1,2],[0,1,2,3],[0,1,2,3,4],[0,1,2,3,4],[0,1,2,3,4],[0,1,2,3,4,6,7],[0,1,2,3,4,5,6,7,8],[0,1,2,3,4,5,6,7,8,9],[0,1,2,3,4],[0,1,2,3,4],[0,1,2,3,4],[0,1,2,3,4,12,13],[0,1,2,3,4,12,13,14],[0,1,2,3,4,11,12,13,14,15],[0,1,2,3,4,11,12,13,14,15,16],[0,1,2,3,4,5,6,7,8,9,10,11,12,13,14,15,16,17],[0,1,2,3,4,5,6,7,8,9,10,11,12,13,14,15,16,17,18]] hmix (by kernel_rfl) (Qe 5 z ?_)
 rcases b2 (decide ((W ((W ((W (2*v8))+1))+1)) < a2)) with hb_3 | hb_3
 ·have h:=cq hb_3 h
  refine Qk 21 hb_3 z (Qe 4 z ?_)
  obtain⟨y_3,hy_3,h⟩:=bs h
  refine Q1 z z z (Ax.ixh (cl:=icl) z slc_26 z z z hy_3) (Q1 z z z (Ax.l1_arr (cl:=icl) z siz_3 z z hy_3 z) (Qe 5 z ?_))
  obtain⟨y_4,hy_4,h⟩:=bs h
  refine Q1 z z z (Ax.ixh (cl:=icl) z slc_26 z z z hy_4) (Q1 z z z (Ax.l1_arr (cl:=icl) z siz_3 z z hy_4 z) ?_)
  obtain⟨x35,hc_1,h⟩:=bs h
  refine Qc z z z (args:=[Ai y_3,Ai y_4]) (r:=Ab x35) (calv z z fnok_319 z) (f319_ok hc_1) z (Qe 1 z (Rx ⟨by kernel_rfl,freshL_of [] (by kernel_rfl) (by kernel_rfl),?_⟩))
  exact Xi x35 (An h (Ee [20260000] z ⟨imf icl_im,u0⟩))
 have h:=cw hb_3 h
 refine Qk 21 hb_3 z (Qe 15 z (Rx ⟨by kernel_rfl,freshL_of [] (by kernel_rfl) (by kernel_rfl),?_⟩))
 exact Xi false (An h (Ee [20260000] z ⟨imf icl_im,u0⟩))
theorem f314_ok {K:Nat} {a0:List Int} {a1:Int} {a2:Int} {r:List Int} (h:f314 K a0 a1 a2=some r):CallOK Tryz.prog 314 [.hnd 20260000,Ai a1,Ai a2] [(20260000,.arr 3 1 (a0.map icl))] (.tup []) [(20260000,.arr 3 1 (r.map icl))]:=by
 refine Co Tryz.func314 z z (nl z) ?_
 unfold f314 at h
 refine Tp z (Tp z (Tp z (Ts (Tr (Qe 2 z (Q1 z z z (v:=Ai (W (Int.tdiv (W ((W (a2 - a1)) - 1)) 2))) (Ax.div z z z (.inl z) (by decide)) (Qd z ?_)))))))
 obtain⟨vo0_1,hj,h⟩:=bs h
 refine Tri.whlv hj (fun p=>⟨[(0,.hnd 20260000),(6,Ai a1),(7,Ai 0),(8,Ai (W (a2 - a1))),(9,Ai p.2)],[(20260000,some (.arr 3 1 (p.1.map icl)))]⟩) (fun(y:List Int)=>⟨[(0,.hnd 20260000),(6,Ai a1),(7,Ai 0),(8,Ai (W (a2 - a1)))],[(20260000,some (.arr 3 1 (y.map icl)))]⟩) (Ee [20260000] z ⟨imf icl_im,u0⟩) ?_ ?_
 ·refine Tp z ?_
  obtain⟨vok0,hj_1,h⟩:=bs h
  refine Tri.whlv hj_1 (fun p=>⟨[(0,.hnd 20260000),(6,Ai a1),(7,Ai 0),(10,Ai p.2)],[(20260000,some (.arr 3 1 (p.1.map icl)))]⟩) (fun(y:List Int)=>⟨[],[(20260000,some (.arr 3 1 (y.map icl)))]⟩) (Ee [20260000] z ⟨imf icl_im,u0⟩) ?_ ?_
  ·refine RetQ.eq2 (fun r=>.tup []) (fun r=>[(20260000,.arr 3 1 (r.map icl))]) (Option.some.inj h) ?_
   exact RetQ.mk (vs:=[]) (.inl z) z [] [(20260000,20260000,.arr 3 1 (vok0.map icl))] z z ⟨⟨_,z,.arr (im_flat icl_im vok0)⟩,u0⟩ (.tupV u0)
  rintro nx_1 ⟨vo0_2,v10⟩ h
  refine Ts (Tp z (Tc (b:=(decide (v10≥0))) z (fun hb=>?_) (fun hb=>?_)))
  ·have h:=cq hb h
   refine Tk (Ts (Tri.block (Ts (Td [[],[],[],[],[],[3,4],[],[],[],[7,8],[6,7,8,9],[6,7,8,9,10],[],[],[12,13],[12,13,14],[0,1,6,7,8,9,10,11,12,13,14,15],[0,1,6,7,8,9,10,11,12,13,14,15,16],[0,1,2,3,4,5,6,7,8,9,10,11,12,13,14,15,16,17],[0,1,2,3,4,5,6,7,8,9,10,11,12,13,14,15,16,17,18]] hmix (by kernel_rfl) (Qe 10 z ?_)))))
   obtain⟨y,hy,h⟩:=bs h
   refine Q1 z z z (Ax.ixh (cl:=icl) z slc_26 z z z hy) (Q1 z z z (Ax.l1_arr (cl:=icl) z siz_3 z z hy z) (Qe 2 z ?_))
   obtain⟨y_1,hy_1,h⟩:=bs h
   refine Q1 z z z (Ax.ixh (cl:=icl) z slc_26 z z z hy_1) (Q1 z z z (Ax.l1_arr (cl:=icl) z siz_3 z z hy_1 z) (Q1 z z z (Ax.ixh (cl:=icl) z slc_26 z z z hy_1) (Qs z z (x:=some (.arr 3 1 ((vo0_2.set (Int.toNat a1) y).map icl))) (Ax.st_arr (cl:=icl) (q:=y) z siz_3 z z hy_1 z z z z z z) ?_)))
   obtain⟨y_2,hy_2,h⟩:=bs h
   refine Q1 z z z (Ax.ixh (cl:=icl) z slc_26 z z z hy_2) (Qs z z (x:=some (.arr 3 1 (((vo0_2.set (Int.toNat a1) y).set (Int.toNat (W (a1+v10))) y_1).map icl))) (Ax.st_arr (cl:=icl) (q:=y_1) z siz_3 z z hy_2 z z z z z z) (Rx ⟨by kernel_rfl,freshL_of [] (by kernel_rfl) (by kernel_rfl),?_⟩))
   refine Tri.region (Qe 4 z ?_)
   obtain⟨x55,hc,h⟩:=bs h
   exact Qo [(20260000,.arr 3 1 (((vo0_2.set (Int.toNat a1) y).set (Int.toNat (W (a1+v10))) y_1).map icl))] [(20260000,.arr 3 1 (x55.map icl))] [] z z z (args:=[.hnd 20260000,Ai 0,Ai v10,Ai a1]) (r:=.tup []) (calv z z fnok_345 z) (f345_ok hc) ⟨z,u0⟩ z z z z z (Rx (Tq z (Xi (x55,(W (v10 - 1))) (An h (Ee [20260000] z ⟨imf icl_im,u0⟩)))))
  have h:=cw hb h
  exact Tri.exit (Xi vo0_2 (An h (Ee [20260000] z ⟨imf icl_im,u0⟩)))
 rintro nx ⟨vo0,v9⟩ h
 refine Ts (Tp z (Tc (b:=(decide (v9≥0))) z (fun hb_1=>?_) (fun hb_1=>?_)))
 ·have h:=cq hb_1 h
  refine Tk (Ts (Tri.block (Tri.region (Qe 4 z ?_))))
  obtain⟨x26,hc_1,h⟩:=bs h
  exact Qo [(20260000,.arr 3 1 (vo0.map icl))] [(20260000,.arr 3 1 (x26.map icl))] [] z z z (args:=[.hnd 20260000,Ai v9,Ai (W (a2 - a1)),Ai a1]) (r:=.tup []) (calv z z fnok_345 z) (f345_ok hc_1) ⟨z,u0⟩ z z z z z (Rx (Tq z (Xi (x26,(W (v9 - 1))) (An h (Ee [20260000] z ⟨imf icl_im,u0⟩)))))
 have h:=cw hb_1 h
 exact Tri.exit (Xi vo0 (An h (Ee [20260000] z ⟨imf icl_im,u0⟩)))
theorem f362_ok {K:Nat} {a0:List Int} {a1:Int} {a2:Int} {a3:Int} {r:Int × Int × Int} (h:f362 K a0 a1 a2 a3=some r):CallOK Tryz.prog 362 [.lst 1 (a0.map icl),Ai a1,Ai a2,.ptr 80003000 0] [(80003000,.box (icl a3))] (.tup [Ai r.1,Ai r.2.1]) [(80003000,.box (icl r.2.2))]:=by
 refine Co Tryz.func362 z z (nl z) ?_
 unfold f362 at h
 refine Tp z (Ts (Ts (Td [[],[],[0,1],[0,1,2],[],[],[4,5],[4,5,6],[0,1,2,3,4,5,6,7]] hmix (by kernel_rfl) (Qe 2 z ?_))))
 obtain⟨y,hy,h⟩:=bs h
 refine Q1 z z z (Ax.ix (cl:=icl) z slc_26 z z hy) (Qe 3 z ?_)
 obtain⟨y_1,hy_1,h⟩:=bs h
 refine Q1 z z z (Ax.ix (cl:=icl) z slc_26 z z hy_1) (Qe 1 z ?_)
 obtain⟨x18,hc,h⟩:=bs h
 refine Qc z z z (args:=[Ai y,Ai y_1]) (r:=Ab x18) (calv z z fnok_319 z) (f319_ok hc) z (Rx ⟨by kernel_rfl,freshL_of [] (by kernel_rfl) (by kernel_rfl),?_⟩)
 refine Tc (b:=x18) z (fun hb=>?_) (fun hb=>?_)
 ·have h:=cq hb h
  refine Tr (Qe 1 z (Q1 z z z (Ax.nil_ptr z z z) (Qe 2 z (Q1 z z z (Ax.nil_ptr z z z) (Qs z z (x:=some (.box (icl (W (a3+1))))) (As z siz_3 z z z z z z z) (Rx (Tp z (Te ?_))))))))
  refine Rr (fun r=>.tup [Ai r.1,Ai r.2.1]) (fun r=>[(80003000,.box (icl r.2.2))]) [80003000] h ?_ ?_
  ·rfl
  exact u0
 have h:=cw hb h
 refine Tk (Tp z (Te ?_))
 refine Rr (fun r=>.tup [Ai r.1,Ai r.2.1]) (fun r=>[(80003000,.box (icl r.2.2))]) [80003000] h ?_ ?_
 ·rfl
 exact u0
theorem f349_ok {K:Nat} {a0:List Int} {a1:Int} {a2:Int} {a3:Int} {a4:Int} {r:Int × Int} (h:f349 K a0 a1 a2 a3 a4=some r):CallOK Tryz.prog 349 [.lst 1 (a0.map icl),Ai a1,Ai a2,Ai a3,.ptr 80003000 0] [(80003000,.box (icl a4))] (Ai r.1) [(80003000,.box (icl r.2))]:=by
 refine Co Tryz.func349 z z (nl z) ?_
 unfold f349 at h
 refine Tp z (Tr (Qe 4 z ?_))
 obtain⟨⟨x16_0,x16_1,x16_2⟩,hc,h⟩:=bs h
 refine Qo [(80003000,.box (icl a4))] [(80003000,.box (icl x16_2))] [] z z z (args:=[.lst 1 (a0.map icl),Ai a1,Ai a2,.ptr 80003000 0]) (r:=.tup [Ai x16_0,Ai x16_1]) (calv z z fnok_362 z) (f362_ok hc) ⟨z,u0⟩ z z z z z (Qd z (Tr (Qe 4 z ?_)))
 obtain⟨⟨x24_0,x24_1,x24_2⟩,hc_1,h⟩:=bs h
 refine Qo [(80003000,.box (icl x16_2))] [(80003000,.box (icl x24_2))] [] z z z (args:=[.lst 1 (a0.map icl),Ai x16_1,Ai a3,.ptr 80003000 0]) (r:=.tup [Ai x24_0,Ai x24_1]) (calv z z fnok_362 z) (f362_ok hc_1) ⟨z,u0⟩ z z z z z (Qd z (Tr (Qe 4 z ?_)))
 obtain⟨⟨x32_0,x32_1,x32_2⟩,hc_2,h⟩:=bs h
 refine Qo [(80003000,.box (icl x24_2))] [(80003000,.box (icl x32_2))] [] z z z (args:=[.lst 1 (a0.map icl),Ai x16_0,Ai x24_0,.ptr 80003000 0]) (r:=.tup [Ai x32_0,Ai x32_1]) (calv z z fnok_362 z) (f362_ok hc_2) ⟨z,u0⟩ z z z z z (Qd z (Tp z (Te ?_)))
 refine Rr (fun r=>Ai r.1) (fun r=>[(80003000,.box (icl r.2))]) [80003000] h ?_ ?_
 ·rfl
 exact u0
theorem f348_ok {K:Nat} {a0:List Int} {a1:Int} {a2:Int} {r:Int × Int} (h:f348 K a0 a1 a2=some r):CallOK Tryz.prog 348 [.lst 1 (a0.map icl),Ai a1,.ptr 80003000 0] [(80003000,.box (icl a2))] (Ai r.1) [(80003000,.box (icl r.2))]:=by
 refine Co Tryz.func348 z z (nl z) ?_
 unfold f348 at h
 refine Tp z (Tr (Qe 7 z ?_))
 obtain⟨⟨x14_0,x14_1⟩,hc,h⟩:=bs h
 refine Qo [(80003000,.box (icl a2))] [(80003000,.box (icl x14_1))] [] z z z (args:=[.lst 1 (a0.map icl),Ai (W (a1 - 1)),Ai a1,Ai (W (a1+1)),.ptr 80003000 0]) (r:=Ai x14_0) (calv z z fnok_349 z) (f349_ok hc) ⟨z,u0⟩ z z z z z (Qd z (Te ?_))
 refine Rr (fun r=>Ai r.1) (fun r=>[(80003000,.box (icl r.2))]) [80003000] h ?_ ?_
 ·rfl
 exact u0
theorem f316_ok {K:Nat} {a0:List Int} {a1:Int} {a2:Int} {r:Int × Int} (h:f316 K a0 a1 a2=some r):CallOK Tryz.prog 316 [.lst 1 (a0.map icl),Ai a1,Ai a2] [] (.tup [Ai r.1,Ai r.2]) []:=by
 refine Co Tryz.func316 z z (nl z) ?_
 unfold f316 at h
 refine Tp z (Tp z (Tr (Qn z z z (v:=.ptr 9 0) (x:=some (.box (icl 0))) (Al_ z z zer_3 z ⟨Sub.refl _,u0⟩) z z z z z (Rx (Tr (Qe 2 z (Q1 z z z (v:=Ai (W (Int.tdiv (W (a2 - a1)) 4))) (Ax.div z z z (.inl z) (by decide)) (Qd z (Tr (Qe 2 z (Q1 z z z (v:=Ai (W (Int.tdiv (W (a2 - a1)) 4))) (Ax.div z z z (.inl z) (by decide)) (Qd z ?_))))))))))))
 refine Tr (Qe 2 z (Q1 z z z (v:=Ai (W (Int.tdiv (W (a2 - a1)) 4))) (Ax.div z z z (.inl z) (by decide)) (Qd z (Ts (Tp z ?_)))))
 obtain⟨⟨vo9_0,v11⟩,hj_1,h⟩:=bs h
 refine Tri.joinv (vo9_0,v11) (fun(y:Int × Int)=>⟨[(9,.ptr 80003000 0),(11,Ai y.2)],[(80003000,some (.box (icl y.1)))]⟩) ?_ ?_
 ·refine Tp z (Tri.block (Tp z (Tc (b:=(vo9_0==0)) z (fun hb=>?_) (fun hb=>?_))))
  ·have h:=cq hb h
   refine Tp z (Te ?_)
   refine Rr (fun r=>.tup [Ai r.1,Ai r.2]) (fun r=>[]) [] h ?_ u0
   rfl
  have h:=cw hb h
  refine Tp z (Tc (b:=(vo9_0==12)) z (fun hb_1=>?_) (fun hb_1=>?_))
  ·have h:=cq hb_1 h
   refine Tp z (Te ?_)
   refine Rr (fun r=>.tup [Ai r.1,Ai r.2]) (fun r=>[]) [] h ?_ u0
   rfl
  have h:=cw hb_1 h
  refine Tp z (Te ?_)
  refine Rr (fun r=>.tup [Ai r.1,Ai r.2]) (fun r=>[]) [] h ?_ u0
  rfl
 have h:=hj_1
 refine Tc (b:=(decide ((W (a2 - a1))≥8))) z (fun hb_2=>?_) (fun hb_2=>?_)
 ·have h:=cq hb_2 h
  refine Ts (Tp z ?_)
  obtain⟨⟨vo9_0_1,v10,v11_1,v12⟩,hj,h⟩:=bs h
  refine Tri.joinv (vo9_0_1,v10,v11_1,v12) (fun(y:Int × Int × Int × Int)=>⟨[(0,.lst 1 (a0.map icl)),(9,.ptr 80003000 0),(10,Ai y.2.1),(11,Ai y.2.2.1),(12,Ai y.2.2.2)],[(80003000,some (.box (icl y.1)))]⟩) ?_ ?_
  ·refine Tri.region (Qe 4 z ?_)
   obtain⟨⟨x48_0,x48_1⟩,hc,h⟩:=bs h
   exact Qo [(80003000,.box (icl vo9_0_1))] [(80003000,.box (icl x48_1))] [] z z z (args:=[.lst 1 (a0.map icl),Ai v10,Ai v11_1,Ai v12,.ptr 80003000 0]) (r:=Ai x48_0) (calv z z fnok_349 z) (f349_ok hc) ⟨z,u0⟩ z z z z z (Qd z (Xi (x48_1,x48_0) (An h (Ee [80003000] z u0))))
  have h:=hj
  refine Tc (b:=(decide ((W (a2 - a1))≥50))) z (fun hb_3=>?_) (fun hb_3=>?_)
  ·have h:=cq hb_3 h
   refine Ts (Tn (Ent.norm [] [(80003000,9,.box (icl 0))] [(0,.lst 1 (a0.map icl)),(9,.ptr 80003000 0),(10,Ai (W (a1+(W ((W (Int.tdiv (W (a2 - a1)) 4))*1))))),(11,Ai (W (a1+(W ((W (Int.tdiv (W (a2 - a1)) 4))*2))))),(12,Ai (W (a1+(W ((W (Int.tdiv (W (a2 - a1)) 4))*3)))))] z ⟨⟨_,z,.boxV ⟨.rfl' z,u0⟩⟩,u0⟩ ⟨.rfl' z,.ptr mh,.rfl' z,.rfl' z,.rfl' z,u0⟩) (Tri.region (Qe 2 z ?_)))
   obtain⟨⟨x37_0,x37_1⟩,hc_1,h⟩:=bs h
   refine Qo [(80003000,.box (icl 0))] [(80003000,.box (icl x37_1))] [] z z z (args:=[.lst 1 (a0.map icl),Ai (W (a1+(W ((W (Int.tdiv (W (a2 - a1)) 4))*1)))),.ptr 80003000 0]) (r:=Ai x37_0) (calv z z fnok_348 z) (f348_ok hc_1) ⟨z,u0⟩ z z z z z (Qd z (Tr (Qe 2 z ?_)))
   obtain⟨⟨x40_0,x40_1⟩,hc_2,h⟩:=bs h
   refine Qo [(80003000,.box (icl x37_1))] [(80003000,.box (icl x40_1))] [] z z z (args:=[.lst 1 (a0.map icl),Ai (W (a1+(W ((W (Int.tdiv (W (a2 - a1)) 4))*2)))),.ptr 80003000 0]) (r:=Ai x40_0) (calv z z fnok_348 z) (f348_ok hc_2) ⟨z,u0⟩ z z z z z (Qd z (Tri.region (Qe 2 z ?_)))
   obtain⟨⟨x43_0,x43_1⟩,hc_3,h⟩:=bs h
   exact Qo [(80003000,.box (icl x40_1))] [(80003000,.box (icl x43_1))] [] z z z (args:=[.lst 1 (a0.map icl),Ai (W (a1+(W ((W (Int.tdiv (W (a2 - a1)) 4))*3)))),.ptr 80003000 0]) (r:=Ai x43_0) (calv z z fnok_348 z) (f348_ok hc_3) ⟨z,u0⟩ z z z z z (Qd z (Xi (x43_1,x37_0,x40_0,x43_0) (An h (Ee [80003000] z u0))))
  have h:=cw hb_3 h
  exact Tk (Xi (0,(W (a1+(W ((W (Int.tdiv (W (a2 - a1)) 4))*1)))),(W (a1+(W ((W (Int.tdiv (W (a2 - a1)) 4))*2)))),(W (a1+(W ((W (Int.tdiv (W (a2 - a1)) 4))*3))))) (An h (Ee [9] z u0)))
 have h:=cw hb_2 h
 exact Tk (Xi (0,(W (a1+(W ((W (Int.tdiv (W (a2 - a1)) 4))*2))))) (An h (Ee [9] z u0)))
theorem f317_ok {K:Nat} {a0:List Int} {a1:Int} {a2:Int} {r:List Int} (h:f317 K a0 a1 a2=some r):CallOK Tryz.prog 317 [.hnd 20260000,Ai a1,Ai a2] [(20260000,.arr 3 1 (a0.map icl))] (.tup []) [(20260000,.arr 3 1 (r.map icl))]:=by
 refine Co Tryz.func317 z z (nl z) ?_
 unfold f317 at h
 refine Tp z (Tp z ?_)
 obtain⟨vok0,hj,h⟩:=bs h
 refine Tri.whlv hj (fun p=>⟨[(0,.hnd 20260000),(6,Ai p.2.1),(7,Ai p.2.2)],[(20260000,some (.arr 3 1 (p.1.map icl)))]⟩) (fun(y:List Int)=>⟨[],[(20260000,some (.arr 3 1 (y.map icl)))]⟩) (Ee [20260000] z ⟨imf icl_im,u0⟩) ?_ ?_
 ·refine RetQ.eq2 (fun r=>.tup []) (fun r=>[(20260000,.arr 3 1 (r.map icl))]) (Option.some.inj h) ?_
  exact RetQ.mk (vs:=[]) (.inl z) z [] [(20260000,20260000,.arr 3 1 (vok0.map icl))] z z ⟨⟨_,z,.arr (im_flat icl_im vok0)⟩,u0⟩ (.tupV u0)
 rintro nx ⟨vo0,v6,v7⟩ h
 refine Ts (Tp z (Tc (b:=(decide (v6 < v7))) z (fun hb=>?_) (fun hb=>?_)))
 ·have h:=cq hb h
  refine Tk (Tri.block (Ts (Td [[],[],[],[],[],[],[4,5],[4,5,6],[],[],[8,9],[8,9,10],[0,1,4,5,6,7,8,9,10,11],[0,1,4,5,6,7,8,9,10,11,12],[0,1,2,3,4,5,6,7,8,9,10,11,12,13],[0,1,2,3,4,5,6,7,8,9,10,11,12,13,14]] hmix (by kernel_rfl) (Qe 6 z ?_))))
  obtain⟨y,hy,h⟩:=bs h
  refine Q1 z z z (Ax.ixh (cl:=icl) z slc_26 z z z hy) (Q1 z z z (Ax.l1_arr (cl:=icl) z siz_3 z z hy z) (Qe 2 z ?_))
  obtain⟨y_1,hy_1,h⟩:=bs h
  refine Q1 z z z (Ax.ixh (cl:=icl) z slc_26 z z z hy_1) (Q1 z z z (Ax.l1_arr (cl:=icl) z siz_3 z z hy_1 z) (Q1 z z z (Ax.ixh (cl:=icl) z slc_26 z z z hy_1) (Qs z z (x:=some (.arr 3 1 ((vo0.set (Int.toNat v6) y).map icl))) (Ax.st_arr (cl:=icl) (q:=y) z siz_3 z z hy_1 z z z z z z) ?_)))
  obtain⟨y_2,hy_2,h⟩:=bs h
  refine Q1 z z z (Ax.ixh (cl:=icl) z slc_26 z z z hy_2) (Qs z z (x:=some (.arr 3 1 (((vo0.set (Int.toNat v6) y).set (Int.toNat v7) y_1).map icl))) (Ax.st_arr (cl:=icl) (q:=y_1) z siz_3 z z hy_2 z z z z z z) (Rx ⟨by kernel_rfl,freshL_of [] (by kernel_rfl) (by kernel_rfl),?_⟩))
  exact Tp z (Tq z (Xi (((vo0.set (Int.toNat v6) y).set (Int.toNat v7) y_1),(W (v6+1)),(W (v7 - 1))) (An h (Ee [20260000] z ⟨imf icl_im,u0⟩))))
 have h:=cw hb h
 exact Tri.exit (Xi vo0 (An h (Ee [20260000] z ⟨imf icl_im,u0⟩)))
theorem f318_ok {K:Nat} {a0:List Int} {a1:Int} {a2:Int} {r:Bool × List Int} (h:f318 K a0 a1 a2=some r):CallOK Tryz.prog 318 [.hnd 20260000,Ai a1,Ai a2] [(20260000,.arr 3 1 (a0.map icl))] (Ab r.1) [(20260000,.arr 3 1 (r.2.map icl))]:=by
 refine Co Tryz.func318 z z (nl z) ?_
 unfold f318 at h
 refine Tp z (Tp z (Ts (Tp z ?_)))
 obtain⟨j,hj,h⟩:=jo h
 refine Tri.rngN h (fun p=>⟨[(0,.hnd 20260000),(1,Ai a1),(2,Ai a2),(7,Ai p.2.2),(8,Ai p.1)],[(20260000,some (.arr 3 1 (p.2.1.map icl)))]⟩) (fun y=>j y=some r) (fun(y:List Int)=>⟨[],[(20260000,some (.arr 3 1 (y.map icl)))]⟩) (Ee [20260000] z ⟨imf icl_im,u0⟩) ?_ ?_ ?_
 ·rintro vok0 h
  subst hj
  refine Tp z (Te ?_)
  refine Rr (fun r=>Ab r.1) (fun r=>[(20260000,.arr 3 1 (r.2.map icl))]) [20260000] h ?_ ?_
  ·rfl
  exact⟨imf icl_im,u0⟩
 ·rintro v8 ⟨vo0,v7⟩ hi _ h
  refine Ts (Tp z (Tc (b:=(decide (v8 < 5))) z (fun hb=>?_) (fun hb=>?_)))
  ·exact(lt_f hi hb).elim
  exact Tri.exit (Xi vo0 (An h (Ee [20260000] z ⟨imf icl_im,u0⟩)))
 rintro nx v8 ⟨vo0,v7⟩ _ hi hw h
 refine Ts (Tp z (Tc (b:=(decide (v8 < 5))) z (fun hb_1=>?_) (fun hb_1=>?_)))
 ·refine Tk (Ts (Tri.block (Ts ?_)))
  obtain⟨v7_2,hj_1,h⟩:=bs h
  refine Tri.whlv hj_1 (fun p=>⟨[(0,.hnd 20260000),(1,Ai a1),(2,Ai a2),(7,Ai p),(8,Ai v8)],[(20260000,some (.arr 3 1 (vo0.map icl)))]⟩) (fun(y:Int)=>⟨[(0,.hnd 20260000),(1,Ai a1),(2,Ai a2),(7,Ai y),(8,Ai v8)],[(20260000,some (.arr 3 1 (vo0.map icl)))]⟩) (Ee [20260000] z ⟨imf icl_im,u0⟩) ?_ ?_
  ·refine Ts (Tp z (Tc (b:=(v7_2==a2)) z (fun hb_2=>?_) (fun hb_2=>?_)))
   ·have h:=cq hb_2 h
    refine Tp z (Te ?_)
    refine Rr (fun r=>Ab r.1) (fun r=>[(20260000,.arr 3 1 (r.2.map icl))]) [20260000] h ?_ ?_
    ·rfl
    exact⟨imf icl_im,u0⟩
   have h:=cw hb_2 h
   refine Tk (Ts (Tp z (Tc (b:=(decide ((W (a2 - a1)) < 50))) z (fun hb_3=>?_) (fun hb_3=>?_))))
   ·have h:=cq hb_3 h
    refine Tp z (Te ?_)
    refine Rr (fun r=>Ab r.1) (fun r=>[(20260000,.arr 3 1 (r.2.map icl))]) [20260000] h ?_ ?_
    ·rfl
    exact⟨imf icl_im,u0⟩
   have h:=cw hb_3 h
   refine Tk (Ts (Td [[],[],[],[],[3],[],[],[6],[5,6,7],[5,6,7,8],[],[],[10,11],[10,11,12],[0,1,5,6,7,8,9,10,11,12,13],[0,1,5,6,7,8,9,10,11,12,13,14],[0,1,2,3,4,5,6,7,8,9,10,11,12,13,14,15],[0,1,2,3,4,5,6,7,8,9,10,11,12,13,14,15,16]] hmix (by kernel_rfl) (Qe 8 z ?_)))
   obtain⟨y,hy,h⟩:=bs h
   refine Q1 z z z (Ax.ixh (cl:=icl) z slc_26 z z z hy) (Q1 z z z (Ax.l1_arr (cl:=icl) z siz_3 z z hy z) (Qe 2 z ?_))
   obtain⟨y_1,hy_1,h⟩:=bs h
   refine Q1 z z z (Ax.ixh (cl:=icl) z slc_26 z z z hy_1) (Q1 z z z (Ax.l1_arr (cl:=icl) z siz_3 z z hy_1 z) (Q1 z z z (Ax.ixh (cl:=icl) z slc_26 z z z hy_1) (Qs z z (x:=some (.arr 3 1 ((vo0.set (Int.toNat v7_2) y).map icl))) (Ax.st_arr (cl:=icl) (q:=y) z siz_3 z z hy_1 z z z z z z) ?_)))
   obtain⟨y_2,hy_2,h⟩:=bs h
   refine Q1 z z z (Ax.ixh (cl:=icl) z slc_26 z z z hy_2) (Qs z z (x:=some (.arr 3 1 (((vo0.set (Int.toNat v7_2) y).set (Int.toNat (W (v7_2 - 1))) y_1).map icl))) (Ax.st_arr (cl:=icl) (q:=y_1) z siz_3 z z hy_2 z z z z z z) (Rx ⟨by kernel_rfl,freshL_of [] (by kernel_rfl) (by kernel_rfl),?_⟩))
   refine Ts (Tp z ?_)
   obtain⟨vo0_1,hj_5,h⟩:=bs h
   refine Tri.joinv vo0_1 (fun(y:List Int)=>⟨[(0,.hnd 20260000),(1,Ai a1),(2,Ai a2),(7,Ai v7_2),(8,Ai v8)],[(20260000,some (.arr 3 1 (y.map icl)))]⟩) ?_ ?_
   ·refine Tp z ?_
    obtain⟨vo0_2,hj_3,h⟩:=bs h
    refine Tri.joinv vo0_2 (fun(y:List Int)=>⟨[(0,.hnd 20260000),(1,Ai a1),(2,Ai a2),(7,Ai v7_2),(8,Ai v8)],[(20260000,some (.arr 3 1 (y.map icl)))]⟩) ?_ ?_
    ·exact Tq z (Xi (v8+1,(vo0_2,v7_2)) (An (An z h) (Es [20260000] [8] z ⟨imf icl_im,u0⟩ ⟨.imm (Sub.of_eq (show Ai (v8+1)=Ai (W (v8+1)) from congrArg Ai hw.symm)) z,u0⟩)))
    have h:=hj_3
    refine Tc (b:=(decide ((W (a2 - v7_2))≥2))) z (fun hb_4=>?_) (fun hb_4=>?_)
    ·have h:=cq hb_4 h
     refine Tp z ?_
     obtain⟨vo0_4,hj_2,h⟩:=bs h
     refine Tri.rngNv hj_2 (fun p=>⟨[(0,.hnd 20260000),(1,Ai a1),(2,Ai a2),(7,Ai v7_2),(8,Ai v8),(10,Ai p.1)],[(20260000,some (.arr 3 1 (p.2.map icl)))]⟩) (fun(y:List Int)=>⟨[(0,.hnd 20260000),(1,Ai a1),(2,Ai a2),(7,Ai v7_2),(8,Ai v8)],[(20260000,some (.arr 3 1 (y.map icl)))]⟩) (Ee [20260000] z ⟨imf icl_im,u0⟩) ?_ ?_ ?_
     ·exact Xi vo0_4 (An h (Ee [20260000] z ⟨imf icl_im,u0⟩))
     ·rintro v10 vo0_3 hi_2 _ h
      refine Ts (Tp z (Tc (b:=(decide (v10 < a2))) z (fun hb_5=>?_) (fun hb_5=>?_)))
      ·exact(lt_f hi_2 hb_5).elim
      exact Tri.exit (Xi vo0_3 (An h (Ee [20260000] z ⟨imf icl_im,u0⟩)))
     rintro nx_2 v10 vo0_3 _ hi_2 hw_2 h
     refine Ts (Tp z (Tc (b:=(decide (v10 < a2))) z (fun hb_6=>?_) (fun hb_6=>?_)))
     ·refine Tk (Ts (Tri.block (Ts (Ts (Td [[],[],[0,1],[0,1,2],[],[],[5],[4,5,6],[4,5,6,7],[0,1,2,3,4,5,6,7,8],[0,1,2,3,4,5,6,7,8,9]] hmix (by kernel_rfl) (Qe 2 z ?_))))))
      obtain⟨y_3,hy_3,h⟩:=bs h
      refine Q1 z z z (Ax.ixh (cl:=icl) z slc_26 z z z hy_3) (Q1 z z z (Ax.l1_arr (cl:=icl) z siz_3 z z hy_3 z) (Qe 3 z ?_))
      obtain⟨y_4,hy_4,h⟩:=bs h
      refine Q1 z z z (Ax.ixh (cl:=icl) z slc_26 z z z hy_4) (Q1 z z z (Ax.l1_arr (cl:=icl) z siz_3 z z hy_4 z) ?_)
      obtain⟨x115,hc,h⟩:=bs h
      refine Qc z z z (args:=[Ai y_3,Ai y_4]) (r:=Ab x115) (calv z z fnok_319 z) (f319_ok hc) z (Qe 1 z (Rx ⟨by kernel_rfl,freshL_of [] (by kernel_rfl) (by kernel_rfl),?_⟩))
      refine Tc (b:=(!x115)) z (fun hb_7=>?_) (fun hb_7=>?_)
      ·have h:=cq hb_7 h
       exact Tri.exit (Xi vo0_3 (An h (Ee [20260000] z ⟨imf icl_im,u0⟩)))
      have h:=cw hb_7 h
      refine Tk (Td [[],[],[],[],[3],[],[],[6],[5,6,7],[5,6,7,8],[],[],[10,11],[10,11,12],[0,1,5,6,7,8,9,10,11,12,13],[0,1,5,6,7,8,9,10,11,12,13,14],[0,1,2,3,4,5,6,7,8,9,10,11,12,13,14,15],[0,1,2,3,4,5,6,7,8,9,10,11,12,13,14,15,16]] hmix (by kernel_rfl) (Qe 8 z (Q1 z z z (Ax.ixh (cl:=icl) z slc_26 z z z hy_4) (Q1 z z z (Ax.l1_arr (cl:=icl) z siz_3 z z hy_4 z) (Qe 2 z (Q1 z z z (Ax.ixh (cl:=icl) z slc_26 z z z hy_3) (Q1 z z z (Ax.l1_arr (cl:=icl) z siz_3 z z hy_3 z) (Q1 z z z (Ax.ixh (cl:=icl) z slc_26 z z z hy_3) (Qs z z (x:=some (.arr 3 1 ((vo0_3.set (Int.toNat v10) y_4).map icl))) (Ax.st_arr (cl:=icl) (q:=y_4) z siz_3 z z hy_3 z z z z z z) ?_)))))))))
      obtain⟨y_5,hy_5,h⟩:=bs h
      refine Q1 z z z (Ax.ixh (cl:=icl) z slc_26 z z z hy_5) (Qs z z (x:=some (.arr 3 1 (((vo0_3.set (Int.toNat v10) y_4).set (Int.toNat (W (v10 - 1))) y_3).map icl))) (Ax.st_arr (cl:=icl) (q:=y_3) z siz_3 z z hy_5 z z z z z z) (Rx ⟨by kernel_rfl,freshL_of [] (by kernel_rfl) (by kernel_rfl),?_⟩))
      exact Tq z (Xi (v10+1,((vo0_3.set (Int.toNat v10) y_4).set (Int.toNat (W (v10 - 1))) y_3)) (An (An z h) (Es [20260000] [10] z ⟨imf icl_im,u0⟩ ⟨.imm (Sub.of_eq (show Ai (v10+1)=Ai (W (v10+1)) from congrArg Ai hw_2.symm)) z,u0⟩)))
     exact(lt_t hi_2 hb_6).elim
    have h:=cw hb_4 h
    exact Tk (Xi vo0_1 (An h (Ee [20260000] z ⟨imf icl_im,u0⟩)))
   have h:=hj_5
   refine Tc (b:=(decide ((W (v7_2 - a1))≥2))) z (fun hb_8=>?_) (fun hb_8=>?_)
   ·have h:=cq hb_8 h
    refine Tp z ?_
    obtain⟨vo0_6,hj_4,h⟩:=bs h
    refine Tri.whlv hj_4 (fun p=>⟨[(0,.hnd 20260000),(1,Ai a1),(2,Ai a2),(7,Ai v7_2),(8,Ai v8),(9,Ai p.2)],[(20260000,some (.arr 3 1 (p.1.map icl)))]⟩) (fun(y:List Int)=>⟨[(0,.hnd 20260000),(1,Ai a1),(2,Ai a2),(7,Ai v7_2),(8,Ai v8)],[(20260000,some (.arr 3 1 (y.map icl)))]⟩) (Ee [20260000] z ⟨imf icl_im,u0⟩) ?_ ?_
    ·exact Xi vo0_6 (An h (Ee [20260000] z ⟨imf icl_im,u0⟩))
    rintro nx_3 ⟨vo0_5,v9⟩ h
    refine Ts (Tp z (Tc (b:=(decide (v9≥1))) z (fun hb_9=>?_) (fun hb_9=>?_)))
    ·have h:=cq hb_9 h
     refine Tk (Ts (Tri.block (Ts (Ts (Td [[],[],[0,1],[0,1,2],[],[],[5],[4,5,6],[4,5,6,7],[0,1,2,3,4,5,6,7,8],[0,1,2,3,4,5,6,7,8,9]] hmix (by kernel_rfl) (Qe 2 z ?_))))))
     obtain⟨y_6,hy_6,h⟩:=bs h
     refine Q1 z z z (Ax.ixh (cl:=icl) z slc_26 z z z hy_6) (Q1 z z z (Ax.l1_arr (cl:=icl) z siz_3 z z hy_6 z) (Qe 3 z ?_))
     obtain⟨y_7,hy_7,h⟩:=bs h
     refine Q1 z z z (Ax.ixh (cl:=icl) z slc_26 z z z hy_7) (Q1 z z z (Ax.l1_arr (cl:=icl) z siz_3 z z hy_7 z) ?_)
     obtain⟨x77,hc_1,h⟩:=bs h
     refine Qc z z z (args:=[Ai y_6,Ai y_7]) (r:=Ab x77) (calv z z fnok_319 z) (f319_ok hc_1) z (Qe 1 z (Rx ⟨by kernel_rfl,freshL_of [] (by kernel_rfl) (by kernel_rfl),?_⟩))
     refine Tc (b:=(!x77)) z (fun hb_10=>?_) (fun hb_10=>?_)
     ·have h:=cq hb_10 h
      exact Tri.exit (Xi vo0_5 (An h (Ee [20260000] z ⟨imf icl_im,u0⟩)))
     have h:=cw hb_10 h
     refine Tk (Td [[],[],[],[],[3],[],[],[6],[5,6,7],[5,6,7,8],[],[],[10,11],[10,11,12],[0,1,5,6,7,8,9,10,11,12,13],[0,1,5,6,7,8,9,10,11,12,13,14],[0,1,2,3,4,5,6,7,8,9,10,11,12,13,14,15],[0,1,2,3,4,5,6,7,8,9,10,11,12,13,14,15,16]] hmix (by kernel_rfl) (Qe 8 z (Q1 z z z (Ax.ixh (cl:=icl) z slc_26 z z z hy_7) (Q1 z z z (Ax.l1_arr (cl:=icl) z siz_3 z z hy_7 z) (Qe 2 z (Q1 z z z (Ax.ixh (cl:=icl) z slc_26 z z z hy_6) (Q1 z z z (Ax.l1_arr (cl:=icl) z siz_3 z z hy_6 z) (Q1 z z z (Ax.ixh (cl:=icl) z slc_26 z z z hy_6) (Qs z z (x:=some (.arr 3 1 ((vo0_5.set (Int.toNat v9) y_7).map icl))) (Ax.st_arr (cl:=icl) (q:=y_7) z siz_3 z z hy_6 z z z z z z) ?_)))))))))
     obtain⟨y_8,hy_8,h⟩:=bs h
     refine Q1 z z z (Ax.ixh (cl:=icl) z slc_26 z z z hy_8) (Qs z z (x:=some (.arr 3 1 (((vo0_5.set (Int.toNat v9) y_7).set (Int.toNat (W (v9 - 1))) y_6).map icl))) (Ax.st_arr (cl:=icl) (q:=y_6) z siz_3 z z hy_8 z z z z z z) (Rx ⟨by kernel_rfl,freshL_of [] (by kernel_rfl) (by kernel_rfl),?_⟩))
     exact Tq z (Xi (((vo0_5.set (Int.toNat v9) y_7).set (Int.toNat (W (v9 - 1))) y_6),(W (v9 - 1))) (An h (Ee [20260000] z ⟨imf icl_im,u0⟩)))
    have h:=cw hb_9 h
    exact Tri.exit (Xi vo0_5 (An h (Ee [20260000] z ⟨imf icl_im,u0⟩)))
   have h:=cw hb_8 h
   exact Tk (Xi ((vo0.set (Int.toNat v7_2) y).set (Int.toNat (W (v7_2 - 1))) y_1) (An h (Ee [20260000] z ⟨imf icl_im,u0⟩)))
  rintro nx_1 v7_1 h
  refine Ts (Ts ?_)
  obtain⟨v32,hj_6,h⟩:=bs h
  refine Tri.joinv v32 (fun(y:Bool)=>⟨[(0,.hnd 20260000),(1,Ai a1),(2,Ai a2),(7,Ai v7_1),(8,Ai v8),(32,Ab y)],[(20260000,some (.arr 3 1 (vo0.map icl)))]⟩) ?_ ?_
  ·refine Tc (b:=v32) z (fun hb_11=>?_) (fun hb_11=>?_)
   ·have h:=cq hb_11 h
    exact Tk (Tri.block (Tq z (Xi (W (v7_1+1)) (An h (Ee [20260000] z ⟨imf icl_im,u0⟩)))))
   have h:=cw hb_11 h
   exact Tri.exit (Xi v7_1 (An h (Ee [20260000] z ⟨imf icl_im,u0⟩)))
  have h:=hj_6
  refine Td [[],[],[0,1],[0,1,2],[0,1,2,3],[0,1,2,3],[0,1,2,3,4,5],[0,1,2,3,4,5,6],[0,1,2,3],[0,1,2,3],[0,1,2,3,9],[0,1,2,3,8,9,10],[0,1,2,3,8,9,10,11],[0,1,2,3,4,5,6,7,8,9,10,11,12],[0,1,2,3,4,5,6,7,8,9,10,11,12,13],[0,1,2,3,4,5,6,7,8,9,10,11,12,13,14]] hmix (by kernel_rfl) (Qe 4 z ?_)
  rcases b2 (decide (v7_1 < a2)) with hb_12 | hb_12
  ·have h:=cq hb_12 h
   refine Qk 20 hb_12 z (Qe 2 z ?_)
   obtain⟨y_9,hy_9,h⟩:=bs h
   refine Q1 z z z (Ax.ixh (cl:=icl) z slc_26 z z z hy_9) (Q1 z z z (Ax.l1_arr (cl:=icl) z siz_3 z z hy_9 z) (Qe 3 z ?_))
   obtain⟨y_10,hy_10,h⟩:=bs h
   refine Q1 z z z (Ax.ixh (cl:=icl) z slc_26 z z z hy_10) (Q1 z z z (Ax.l1_arr (cl:=icl) z siz_3 z z hy_10 z) ?_)
   obtain⟨x30,hc_2,h⟩:=bs h
   refine Qc z z z (args:=[Ai y_9,Ai y_10]) (r:=Ab x30) (calv z z fnok_319 z) (f319_ok hc_2) z (Qe 2 z (Rx ⟨by kernel_rfl,freshL_of [] (by kernel_rfl) (by kernel_rfl),?_⟩))
   exact Xi (!x30) (An h (Ee [20260000] z ⟨imf icl_im,u0⟩))
  have h:=cw hb_12 h
  refine Qk 20 hb_12 z (Qe 12 z (Rx ⟨by kernel_rfl,freshL_of [] (by kernel_rfl) (by kernel_rfl),?_⟩))
  exact Xi false (An h (Ee [20260000] z ⟨imf icl_im,u0⟩))
 exact(lt_t hi hb_1).elim
theorem f253_ok {K:Nat} {a0:List Int} {a1:Int} {a2:Int} {a3:Int} {r:List Int} (h:f253 K a0 a1 a2 a3=some r):CallOK Tryz.prog 253 [.hnd 20260000,Ai a1,Ai a2,Ai a3] [(20260000,.arr 3 1 (a0.map icl))] (.tup []) [(20260000,.arr 3 1 (r.map icl))]:=by
 refine Co Tryz.func253 z z (nl z) ?_
 unfold f253 at h
 refine Tp z (Tp z (Tri.whl h (fun p=>⟨[(0,.hnd 20260000),(1,Ai a1),(2,Ai a2),(3,Ai a3),(8,Ab true),(9,Ab true)],[(20260000,some (.arr 3 1 (a0.map icl)))]⟩) (fun(_:Unit)=>False) (fun _=>⟨[],[]⟩) (Ee [20260000] z ⟨imf icl_im,u0⟩) (fun _ hf=>hf.elim) ?_))
 rintro nx ⟨⟩ h
 refine Tri.block (Tp z (Ts (Tp z (Tc (b:=(decide ((W (a2 - a1))≤12))) z (fun hb=>?_) (fun hb=>?_)))))
 ·have h:=cq hb h
  refine Tr (Qe 3 z ?_)
  obtain⟨x27,hc,h⟩:=bs h
  refine Qo [(20260000,.arr 3 1 (a0.map icl))] [(20260000,.arr 3 1 (x27.map icl))] [] z z z (args:=[.hnd 20260000,Ai a1,Ai a2]) (r:=.tup []) (calv z z fnok_313 z) (f313_ok hc) ⟨z,u0⟩ z z z z z (Rx (Te ?_))
  refine RetQ.eq2 (fun r=>.tup []) (fun r=>[(20260000,.arr 3 1 (r.map icl))]) (Option.some.inj h) ?_
  exact RetQ.mk (vs:=[]) (.inr z) z [] [(20260000,20260000,.arr 3 1 (x27.map icl))] z z ⟨⟨_,z,.arr (im_flat icl_im x27)⟩,u0⟩ (.tupV u0)
 have h:=cw hb h
 refine Tk (Ts (Tp z (Tc (b:=(a3==0)) z (fun hb_1=>?_) (fun hb_1=>?_))))
 ·have h:=cq hb_1 h
  refine Tr (Qe 3 z ?_)
  obtain⟨x33,hc_1,h⟩:=bs h
  refine Qo [(20260000,.arr 3 1 (a0.map icl))] [(20260000,.arr 3 1 (x33.map icl))] [] z z z (args:=[.hnd 20260000,Ai a1,Ai a2]) (r:=.tup []) (calv z z fnok_314 z) (f314_ok hc_1) ⟨z,u0⟩ z z z z z (Rx (Te ?_))
  refine RetQ.eq2 (fun r=>.tup []) (fun r=>[(20260000,.arr 3 1 (r.map icl))]) (Option.some.inj h) ?_
  exact RetQ.mk (vs:=[]) (.inr z) z [] [(20260000,20260000,.arr 3 1 (x33.map icl))] z z ⟨⟨_,z,.arr (im_flat icl_im x33)⟩,u0⟩ (.tupV u0)
 have h:=cw hb_1 h
 refine Tk (Ts (Tp z (Tc (b:=(!true)) z (fun hb_2=>?_) (fun hb_2=>?_))))
 ·have h:=cq hb_2 h
  refine Ts ?_
  cases h
 have h:=cw hb_2 h
 refine Tk (Tr (Qe 3 z ?_))
 obtain⟨⟨x46_0,x46_1⟩,hc_2,h⟩:=bs h
 refine Ql [20260000] z z z (args:=[.hnd 20260000,Ai a1,Ai a2]) (args':=[.lst 1 (a0.map icl),Ai a1,Ai a2]) (r:=.tup [Ai x46_0,Ai x46_1]) (calv z z fnok_316 z) ⟨.hnd mh z (im_flat icl_im a0),.imm z,.imm z,u0⟩ (f316_ok hc_2) z z (Qd z (Ts (Tp z ?_)))
 obtain⟨⟨vo0,v11,v12⟩,hj_3,h⟩:=bs h
 refine Tri.joinv (vo0,v11,v12) (fun(y:List Int × Int × Int)=>⟨[(0,.hnd 20260000),(1,Ai a1),(2,Ai a2),(3,Ai a3),(8,Ab true),(9,Ab true),(10,Ai (W (a2 - a1))),(11,Ai y.2.1),(12,Ai y.2.2)],[(20260000,some (.arr 3 1 (y.1.map icl)))]⟩) ?_ ?_
 ·refine Ts (Tp z ?_)
  obtain⟨j_1,hj_1,h⟩:=jo h
  refine Tri.join (fun(y:List Int)=>⟨[(0,.hnd 20260000),(1,Ai a1),(2,Ai a2),(3,Ai a3),(8,Ab true),(9,Ab true),(10,Ai (W (a2 - a1))),(11,Ai v11)],[(20260000,some (.arr 3 1 (y.map icl)))]⟩) (fun y=>j_1 y=some r) ?_ ?_
  ·rintro vo0_1 h
   subst hj_1
   refine Ts (Ts ?_)
   obtain⟨v87,hj_2,h⟩:=bs h
   refine Tri.joinv v87 (fun(y:Bool)=>⟨[(0,.hnd 20260000),(1,Ai a1),(2,Ai a2),(3,Ai a3),(8,Ab true),(9,Ab true),(10,Ai (W (a2 - a1))),(11,Ai v11),(87,Ab y)],[(20260000,some (.arr 3 1 (vo0_1.map icl)))]⟩) ?_ ?_
   ·refine Tc (b:=v87) z (fun hb_3=>?_) (fun hb_3=>?_)
    ·have h:=cq hb_3 h
     refine Ts ?_
     cases h
    have h:=cw hb_3 h
    refine Tk (Ts ?_)
    cases h
   have h:=hj_2
   refine Td [[],[0],[0,1],[0,1,2],[0,1,2],[0,1,2,4],[0,1,2,3,4,5],[0,1,2,3,4,5,6],[0,1,2],[0,1,2],[0,1,2,8,9],[0,1,2,8,9,10],[0,1,2,3,4,5,6,7,8,9,10,11],[0,1,2,3,4,5,6,7,8,9,10,11,12],[0,1,2,3,4,5,6,7,8,9,10,11,12,13]] hmix (by kernel_rfl) (Qe 3 z ?_)
   rcases b2 (decide (a1 > 0)) with hb_4 | hb_4
   ·have h:=cq hb_4 h
    refine Qk 75 hb_4 z (Qe 3 z ?_)
    obtain⟨y,hy,h⟩:=bs h
    refine Q1 z z z (Ax.ixh (cl:=icl) z slc_26 z z z hy) (Q1 z z z (Ax.l1_arr (cl:=icl) z siz_3 z z hy z) (Qe 2 z ?_))
    obtain⟨y_1,hy_1,h⟩:=bs h
    refine Q1 z z z (Ax.ixh (cl:=icl) z slc_26 z z z hy_1) (Q1 z z z (Ax.l1_arr (cl:=icl) z siz_3 z z hy_1 z) ?_)
    obtain⟨x85,hc_3,h⟩:=bs h
    refine Qc z z z (args:=[Ai y,Ai y_1]) (r:=Ab x85) (calv z z fnok_319 z) (f319_ok hc_3) z (Qe 2 z (Rx ⟨by kernel_rfl,freshL_of [] (by kernel_rfl) (by kernel_rfl),?_⟩))
    exact Xi (!x85) (An h (Ee [20260000] z ⟨imf icl_im,u0⟩))
   have h:=cw hb_4 h
   refine Qk 75 hb_4 z (Qe 12 z (Rx ⟨by kernel_rfl,freshL_of [] (by kernel_rfl) (by kernel_rfl),?_⟩))
   exact Xi false (An h (Ee [20260000] z ⟨imf icl_im,u0⟩))
  refine Tc (b:=(v12==1)) z (fun hb_5=>?_) (fun hb_5=>?_)
  ·have h:=cq hb_5 h
   refine Tr (Qe 3 z ?_)
   obtain⟨⟨x72_0,x72_1⟩,hc_4,h⟩:=bs h
   refine Qo [(20260000,.arr 3 1 (vo0.map icl))] [(20260000,.arr 3 1 (x72_1.map icl))] [] z z z (args:=[.hnd 20260000,Ai a1,Ai a2]) (r:=Ab x72_0) (calv z z fnok_318 z) (f318_ok hc_4) ⟨z,u0⟩ z z z z z (Rx (Tc (b:=x72_0) z (fun hb_6=>?_) (fun hb_6=>?_)))
   ·have h:=cq hb_6 h
    refine Te ?_
    refine RetQ.eq2 (fun r=>.tup []) (fun r=>[(20260000,.arr 3 1 (r.map icl))]) (Option.some.inj h) ?_
    exact RetQ.mk (vs:=[]) (.inr z) z [] [(20260000,20260000,.arr 3 1 (x72_1.map icl))] z z ⟨⟨_,z,.arr (im_flat icl_im x72_1)⟩,u0⟩ (.tupV u0)
   have h:=cw hb_6 h
   exact Tk (Xi x72_1 (An h (Ee [20260000] z ⟨imf icl_im,u0⟩)))
  have h:=cw hb_5 h
  exact Tk (Xi vo0 (An h (Ee [20260000] z ⟨imf icl_im,u0⟩)))
 have h:=hj_3
 refine Tc (b:=(x46_1==2)) z (fun hb_7=>?_) (fun hb_7=>?_)
 ·have h:=cq hb_7 h
  refine Tr (Qe 3 z ?_)
  obtain⟨x54,hc_5,h⟩:=bs h
  exact Qo [(20260000,.arr 3 1 (a0.map icl))] [(20260000,.arr 3 1 (x54.map icl))] [] z z z (args:=[.hnd 20260000,Ai a1,Ai a2]) (r:=.tup []) (calv z z fnok_317 z) (f317_ok hc_5) ⟨z,u0⟩ z z z z z (Rx (Tp z (Tq z (Xi (x54,(W ((W (a2 - 1)) - (W (x46_0 - a1)))),1) (An h (Ee [20260000] z ⟨imf icl_im,u0⟩))))))
 have h:=cw hb_7 h
 exact Tk (Xi (a0,x46_0,x46_1) (An h (Ee [20260000] z ⟨imf icl_im,u0⟩)))
theorem f323_ok {K:Nat} {a0:Int} {r:Int} (h:f323 K a0=some r):CallOK Tryz.prog 323 [.sc (.int .u64 a0)] [] (Ai r) []:=by
 refine Co Tryz.func323 z z (nl z) ?_
 unfold f323 at h
 refine Tp z (Ts (Tp z ?_))
 obtain⟨⟨v0,v2⟩,hj_2,h⟩:=bs h
 refine Tri.joinv (v0,v2) (fun(y:Int × Int)=>⟨[(0,.sc (.int .u64 y.1)),(2,Ai y.2)],[]⟩) ?_ ?_
 ·refine Ts (Tp z ?_)
  obtain⟨⟨v0_1,v2_1⟩,hj_1,h⟩:=bs h
  refine Tri.joinv (v0_1,v2_1) (fun(y:Int × Int)=>⟨[(0,.sc (.int .u64 y.1)),(2,Ai y.2)],[]⟩) ?_ ?_
  ·refine Ts (Tp z ?_)
   obtain⟨⟨v0_2,v2_2⟩,hj,h⟩:=bs h
   refine Tri.joinv (v0_2,v2_2) (fun(y:Int × Int)=>⟨[(0,.sc (.int .u64 y.1)),(2,Ai y.2)],[]⟩) ?_ ?_
   ·refine Tr (Qe 2 z (Q1 z z z (v:=.sc (.int .u8 (IntKind.wrap .u8 v0_2))) (Ax.conv_int z z int_379 int_5) ?_))
    obtain⟨y,hy,h⟩:=bs h
    refine Q1 z z z (v:=.sc (.int .u8 y)) (Ax.strix (tab:=len8tab) z str_9 (by kernel_rfl) z hy) (Q1 z z z (v:=Ai (IntKind.wrap .i64 y)) (Ax.conv_int z z int_5 int_3) (Qd z (Te ?_)))
    exact Ri h z
   have h:=hj
   refine Tc (b:=(decide (v0_1≥256))) z (fun hb=>?_) (fun hb=>?_)
   ·have h:=cq hb h
    exact Tr (Qe 1 z (Q1 z z z (v:=.sc (.int .u64 (shrU v0_1 8))) (Ax.shr (m:=8) z z z (by decide)) (Qd z (Tq z (Xi ((shrU v0_1 8),(W (v2_1+8))) (An h (E0 z)))))))
   have h:=cw hb h
   exact Tk (Xi (v0_1,v2_1) (An h (E0 z)))
  have h:=hj_1
  refine Tc (b:=(decide (v0≥65536))) z (fun hb_1=>?_) (fun hb_1=>?_)
  ·have h:=cq hb_1 h
   exact Tr (Qe 1 z (Q1 z z z (v:=.sc (.int .u64 (shrU v0 16))) (Ax.shr (m:=16) z z z (by decide)) (Qd z (Tq z (Xi ((shrU v0 16),(W (v2+16))) (An h (E0 z)))))))
  have h:=cw hb_1 h
  exact Tk (Xi (v0,v2) (An h (E0 z)))
 have h:=hj_2
 refine Tc (b:=(decide (a0≥4294967296))) z (fun hb_2=>?_) (fun hb_2=>?_)
 ·have h:=cq hb_2 h
  exact Tr (Qe 1 z (Q1 z z z (v:=.sc (.int .u64 (shrU a0 32))) (Ax.shr (m:=32) z z z (by decide)) (Qd z (Tq z (Xi ((shrU a0 32),32) (An h (E0 z)))))))
 have h:=cw hb_2 h
 exact Tk (Xi (a0,0) (An h (E0 z)))
theorem f254_ok {K:Nat} {a0:Int} {r:Int} (h:f254 K a0=some r):CallOK Tryz.prog 254 [.sc (.int .u64 a0)] [] (Ai r) []:=by
 refine Co Tryz.func254 z z (nl z) ?_
 unfold f254 at h
 refine Tp z (Ts (Tri.cond_f z (Tk (Tr (Qe 1 z ?_)))))
 obtain⟨x7,hc,h⟩:=bs h
 refine Qc z z z (args:=[.sc (.int .u64 a0)]) (r:=Ai x7) (calv z z fnok_323 z) (f323_ok hc) z (Qd z (Te ?_))
 exact Ri h z
theorem f133_ok {K:Nat} {a0:List Int} {r:List Int} (h:f133 K a0=some r):CallOK Tryz.prog 133 [.hnd 20260000] [(20260000,.arr 3 1 (a0.map icl))] (.tup []) [(20260000,.arr 3 1 (r.map icl))]:=by
 refine Co Tryz.func133 z z (nl z) ?_
 unfold f133 at h
 refine Tr (Qe 1 z (Q1 z z z (Ax.lnh (cl:=icl) z slc_26 z z) (Qd z (Tri.region (Qe 3 z (Q1 z z z (v:=.sc (.int .u64 (IntKind.wrap .u64 (a0.length:Int)))) (Ax.conv_int z z int_3 int_325) ?_))))))
 obtain⟨x9,hc,h⟩:=bs h
 refine Qc z z z (args:=[.sc (.int .u64 (IntKind.wrap .u64 (a0.length:Int)))]) (r:=Ai x9) (calv z z fnok_254 z) (f254_ok hc) z ?_
 obtain⟨x10,hc_1,h⟩:=bs h
 refine Qo [(20260000,.arr 3 1 (a0.map icl))] [(20260000,.arr 3 1 (x10.map icl))] [] z z z (args:=[.hnd 20260000,Ai 0,Ai (a0.length:Int),Ai x9]) (r:=.tup []) (calv z z fnok_253 z) (f253_ok hc_1) ⟨z,u0⟩ z z z z z (Rx (RetQ.eq2 (fun r=>.tup []) (fun r=>[(20260000,.arr 3 1 (r.map icl))]) (Option.some.inj h) ?_))
 exact RetQ.mk (vs:=[]) (.inl z) z [] [(20260000,20260000,.arr 3 1 (x10.map icl))] z z ⟨⟨_,z,.arr (im_flat icl_im x10)⟩,u0⟩ (.tupV u0)
theorem f134_ok {K:Nat} {a0:List Int} {r:List Int} (h:f134 K a0=some r):CallOK Tryz.prog 134 [.hnd 20260000] [(20260000,.arr 3 1 (a0.map icl))] (.lst 1 (r.map icl)) []:=by
 refine Co Tryz.func134 z z (nl z) ?_
 unfold f134 at h
 refine Tr (Qn z z z (v:=.hnd 2) (x:=some (.arr 3 1 (([]:List Int).map icl))) (Ax.nil_new 3 1 (.inr z) z) z z z z z (Rx (Ts (Tr (Qe 1 z (Q1 z z z (Ax.lnh (cl:=icl) z slc_26 z z) (Qd z (Tc (b:=(decide ((a0.length:Int) < 2))) z (fun hb=>?_) (fun hb=>?_)))))))))
 ·have h:=cq hb h
  refine Tp z (Te ?_)
  refine RetQ.eq2 (fun r=>.lst 1 (r.map icl)) (fun r=>[]) (Option.some.inj h) ?_
  exact RetQ.mk (vs:=[.hnd 20260000]) (.inr z) ⟨_,_,z,.tmp z,z⟩ [20260000] [] z z u0 (.frz (.hnd mh z (im_flat icl_im a0)) z)
 have h:=cw hb h
 refine Tk (Ts (Tp z ?_))
 obtain⟨j,hj,h⟩:=jo h
 refine Tri.rngN h (fun p=>⟨[(0,.hnd 20260000),(3,Ai p.1)],[(20260000,some (.arr 3 1 (a0.map icl)))]⟩) (fun y=>j y=some r) (fun(y:Unit)=>⟨[(0,.hnd 20260000)],[(20260000,some (.arr 3 1 (a0.map icl)))]⟩) (Ee [20260000] z ⟨imf icl_im,u0⟩) ?_ ?_ ?_
 ·rintro⟨⟩ h
  subst hj
  refine Tp z (Te ?_)
  refine RetQ.eq2 (fun r=>.lst 1 (r.map icl)) (fun r=>[]) (Option.some.inj h) ?_
  exact RetQ.mk (vs:=[.hnd 20260000]) (.inr z) ⟨_,_,z,.tmp z,z⟩ [20260000] [] z z u0 (.frz (.hnd mh z (im_flat icl_im a0)) z)
 ·rintro v3 ⟨⟩ hi _ h
  refine Ts (Tr (Qe 2 z (Q1 z z z (Ax.lnh (cl:=icl) z slc_26 z z) (Qd z (Tc (b:=(decide (v3 < (a0.length:Int)))) z (fun hb_1=>?_) (fun hb_1=>?_))))))
  ·exact(lt_f hi hb_1).elim
  exact Tri.exit (Xi () (An h (Ee [20260000] z ⟨imf icl_im,u0⟩)))
 rintro nx v3 ⟨⟩ _ hi hw h
 refine Ts (Tr (Qe 2 z (Q1 z z z (Ax.lnh (cl:=icl) z slc_26 z z) (Qd z (Tc (b:=(decide (v3 < (a0.length:Int)))) z (fun hb_2=>?_) (fun hb_2=>?_))))))
 ·refine Tk (Ts (Tri.block (Ts (Td [] hmix (by kernel_rfl) (Qe 2 z ?_)))))
  obtain⟨y,hy,h⟩:=bs h
  refine Q1 z z z (Ax.ixh (cl:=icl) z slc_26 z z z hy) (Q1 z z z (Ax.l1_arr (cl:=icl) z siz_3 z z hy z) (Qe 3 z ?_))
  obtain⟨y_1,hy_1,h⟩:=bs h
  refine Q1 z z z (Ax.ixh (cl:=icl) z slc_26 z z z hy_1) (Q1 z z z (Ax.l1_arr (cl:=icl) z siz_3 z z hy_1 z) (Qe 1 z (Rx ⟨by kernel_rfl,freshL_of [] (by kernel_rfl) (by kernel_rfl),?_⟩)))
  refine Tc (b:=(y==y_1)) z (fun hb_3=>?_) (fun hb_3=>?_)
  ·have h:=cq hb_3 h
   refine Tr (Qe 2 z ?_)
   obtain⟨_,hz,h⟩:=bs h
   refine Q1 z z z (v:=.vw 20260000 1 (Int.toNat v3) (Int.toNat (a0.length:Int)) a0.length) (Ax.vh (cl:=icl) (xs:=a0) z slc_26 z z ⟨_,z⟩ z hz) (Qd z (Ts (Tp z ?_)))
   obtain⟨⟨vo0_1,v3_2⟩,hj_1,h⟩:=bs h
   refine Tri.rngNv hj_1 (fun p=>⟨[(0,.hnd 20260000),(3,Ai p.2.2),(4,.vw 20260000 1 (Int.toNat v3) (Int.toNat (a0.length:Int)) a0.length),(5,Ai p.1)],[(20260000,some (.arr 3 1 (p.2.1.map icl)))]⟩) (fun(y:List Int × Int)=>⟨[(0,.hnd 20260000),(3,Ai y.2)],[(20260000,some (.arr 3 1 (y.1.map icl)))]⟩) (Ee [20260000] z ⟨imf icl_im,u0⟩) ?_ ?_ ?_
   ·refine Tr (Qe 2 z ?_)
    obtain⟨_,hz_1,h⟩:=bs h
    refine Q1 z z z (v:=.vw 20260000 1 (Int.toNat v3_2) (Int.toNat (vo0_1.length:Int)) vo0_1.length) (Ax.vh (cl:=icl) (xs:=vo0_1) z slc_26 z z ⟨_,z⟩ z hz_1) (Qs z z (v:=.tup []) (x:=some (.arr 3 1 ((clrI vo0_1 v3_2 (vo0_1.length:Int) 0).map icl))) (Ax.vclr (cl:=icl) (xs:=vo0_1) (zv:=0) z slc_26 z z z z) (Rx (Tr (Qe 2 z ?_))))
    obtain⟨_,hz_2,h⟩:=bs h
    refine Q1 z z z (v:=.vw 20260000 1 (Int.toNat 0) (Int.toNat v3_2) ((clrI vo0_1 v3_2 (vo0_1.length:Int) 0).length)) (Ax.vh (cl:=icl) (xs:=(clrI vo0_1 v3_2 (vo0_1.length:Int) 0)) z slc_26 z z z ⟨_,z⟩ hz_2) ?_
    obtain⟨z2,hz_3,h⟩:=bs h
    refine Qa z z z (v:=.hnd 2) (x:=some (.arr 3 1 (z2.map icl))) (Ax.vo (cl:=icl) (.inr z) z z z hz_3 z) z z z z z (Rx (Te ?_))
    refine RetQ.eq2 (fun r=>.lst 1 (r.map icl)) (fun r=>[]) (Option.some.inj h) ?_
    exact RetQ.mk (vs:=[.hnd 2]) (.inr z) ⟨_,_,z,.tmp z,z⟩ [2] [] z z u0 (.frz (.hnd mh z (im_flat icl_im z2)) z)
   ·rintro v5 ⟨vo0,v3_1⟩ hi_1 _ h
    refine Ts (Tr (Qe 2 z (Q1 z z z (v:=Ai ((Int.toNat (a0.length:Int) - Int.toNat v3:Nat):Int)) (Ax.vlen (cl:=icl) (xs:=vo0) z slc_26 z z) (Qd z (Tc (b:=(decide (v5 < ((Int.toNat (a0.length:Int) - Int.toNat v3:Nat):Int)))) z (fun hb_4=>?_) (fun hb_4=>?_))))))
    ·exact(lt_f hi_1 hb_4).elim
    exact Tri.exit (Xi (vo0,v3_1) (An h (Ee [20260000] z ⟨imf icl_im,u0⟩)))
   rintro nx_1 v5 ⟨vo0,v3_1⟩ _ hi_1 hw_1 h
   refine Ts (Tr (Qe 2 z (Q1 z z z (v:=Ai ((Int.toNat (a0.length:Int) - Int.toNat v3:Nat):Int)) (Ax.vlen (cl:=icl) (xs:=vo0) z slc_26 z z) (Qd z (Tc (b:=(decide (v5 < ((Int.toNat (a0.length:Int) - Int.toNat v3:Nat):Int)))) z (fun hb_5=>?_) (fun hb_5=>?_))))))
   ·refine Tk (Ts (Tri.block (Ts (Td [] hmix (by kernel_rfl) (Qe 2 z ?_)))))
    obtain⟨_,hz_4,h⟩:=bs h
    refine Q1 z z z (v:=.eptr 20260000 1 (Int.toNat (v3+v5)) 0) (Ax.vi (cl:=icl) (xs:=vo0) z slc_26 z z z hz_4) ?_
    obtain⟨y_2,hy_2,h⟩:=bs h
    refine Q1 z z z (Ax.l1_arr (cl:=icl) z siz_3 z z hy_2 z) (Qe 3 z ?_)
    obtain⟨_,hz_5,h⟩:=bs h
    refine Q1 z z z (v:=.eptr 20260000 1 (Int.toNat (v3+(W (v5 - 1)))) 0) (Ax.vi (cl:=icl) (xs:=vo0) z slc_26 z z z hz_5) ?_
    obtain⟨y_3,hy_3,h⟩:=bs h
    refine Q1 z z z (Ax.l1_arr (cl:=icl) z siz_3 z z hy_3 z) (Qe 1 z (Rx ⟨by kernel_rfl,freshL_of [] (by kernel_rfl) (by kernel_rfl),?_⟩))
    obtain⟨⟨vo0_2,v3_3⟩,hj_2,h⟩:=bs h
    refine Tri.joinv (vo0_2,v3_3) (fun(y:List Int × Int)=>⟨[(0,.hnd 20260000),(3,Ai y.2),(4,.vw 20260000 1 (Int.toNat v3) (Int.toNat (a0.length:Int)) a0.length),(5,Ai v5)],[(20260000,some (.arr 3 1 (y.1.map icl)))]⟩) ?_ ?_
    ·exact Tq z (Xi (v5+1,(vo0_2,v3_3)) (An (An z h) (Es [20260000] [5] z ⟨imf icl_im,u0⟩ ⟨.imm (Sub.of_eq (show Ai (v5+1)=Ai (W (v5+1)) from congrArg Ai hw_1.symm)) z,u0⟩)))
    have h:=hj_2
    refine Tc (b:=(y_2 != y_3)) z (fun hb_6=>?_) (fun hb_6=>?_)
    ·have h:=cq hb_6 h
     refine Tr (Qe 4 z ?_)
     obtain⟨_,hz_6,h⟩:=bs h
     refine Q1 z z z (v:=.eptr 20260000 1 (Int.toNat (v3+v5)) 0) (Ax.vi (cl:=icl) (xs:=vo0) z slc_26 z z z hz_6) (Q1 z z z (Ax.l1_arr (cl:=icl) z siz_3 z z hy_2 z) ?_)
     obtain⟨y_4,hy_4,h⟩:=bs h
     exact Q1 z z z (Ax.ixh (cl:=icl) z slc_26 z z z hy_4) (Qs z z (x:=some (.arr 3 1 ((vo0.set (Int.toNat v3_1) y_2).map icl))) (Ax.st_arr (cl:=icl) (q:=y_2) z siz_3 z z hy_4 z z z z z z) (Rx (Tq z (Xi ((vo0.set (Int.toNat v3_1) y_2),(W (v3_1+1))) (An h (Ee [20260000] z ⟨imf icl_im,u0⟩))))))
    have h:=cw hb_6 h
    exact Tk (Xi (vo0,v3_1) (An h (Ee [20260000] z ⟨imf icl_im,u0⟩)))
   exact(lt_t hi_1 hb_5).elim
  have h:=cw hb_3 h
  exact Tk (Tq z (Xi (v3+1,()) (An (An z h) (Es [20260000] [3] z ⟨imf icl_im,u0⟩ ⟨.imm (Sub.of_eq (show Ai (v3+1)=Ai (W (v3+1)) from congrArg Ai hw.symm)) z,u0⟩))))
 exact(lt_t hi hb_2).elim
theorem f134_fr {K:Nat} {a0:List Int} {r:List Int} (h:f134 K a0=some r):CallOK Tryz.prog 134 [.hnd 20260000] [(20260000,.arr 3 1 (a0.map icl))] (.hnd 1355000) [(1355000,.arr 3 1 (r.map icl))]:=by
 refine Co Tryz.func134 z z (nl z) ?_
 unfold f134 at h
 refine Tr (Qn z z z (v:=.hnd 2) (x:=some (.arr 3 1 (([]:List Int).map icl))) (Ax.nil_new 3 1 (.inr z) z) z z z z z (Rx (Ts (Tr (Qe 1 z (Q1 z z z (Ax.lnh (cl:=icl) z slc_26 z z) (Qd z (Tc (b:=(decide ((a0.length:Int) < 2))) z (fun hb=>?_) (fun hb=>?_)))))))))
 ·have h:=cq hb h
  refine Tp z (Te ?_)
  refine Rr (fun r=>.hnd 1355000) (fun r=>[(1355000,.arr 3 1 (r.map icl))]) [20260000] h ?_ ?_
  ·rfl
  exact⟨imf icl_im,u0⟩
 have h:=cw hb h
 refine Tk (Ts (Tp z ?_))
 obtain⟨j,hj,h⟩:=jo h
 refine Tri.rngN h (fun p=>⟨[(0,.hnd 20260000),(3,Ai p.1)],[(20260000,some (.arr 3 1 (a0.map icl)))]⟩) (fun y=>j y=some r) (fun(y:Unit)=>⟨[(0,.hnd 20260000)],[(20260000,some (.arr 3 1 (a0.map icl)))]⟩) (Ee [20260000] z ⟨imf icl_im,u0⟩) ?_ ?_ ?_
 ·rintro⟨⟩ h
  subst hj
  refine Tp z (Te ?_)
  refine Rr (fun r=>.hnd 1355000) (fun r=>[(1355000,.arr 3 1 (r.map icl))]) [20260000] h ?_ ?_
  ·rfl
  exact⟨imf icl_im,u0⟩
 ·rintro v3 ⟨⟩ hi _ h
  refine Ts (Tr (Qe 2 z (Q1 z z z (Ax.lnh (cl:=icl) z slc_26 z z) (Qd z (Tc (b:=(decide (v3 < (a0.length:Int)))) z (fun hb_1=>?_) (fun hb_1=>?_))))))
  ·exact(lt_f hi hb_1).elim
  exact Tri.exit (Xi () (An h (Ee [20260000] z ⟨imf icl_im,u0⟩)))
 rintro nx v3 ⟨⟩ _ hi hw h
 refine Ts (Tr (Qe 2 z (Q1 z z z (Ax.lnh (cl:=icl) z slc_26 z z) (Qd z (Tc (b:=(decide (v3 < (a0.length:Int)))) z (fun hb_2=>?_) (fun hb_2=>?_))))))
 ·refine Tk (Ts (Tri.block (Ts (Td [] hmix (by kernel_rfl) (Qe 2 z ?_)))))
  obtain⟨y,hy,h⟩:=bs h
  refine Q1 z z z (Ax.ixh (cl:=icl) z slc_26 z z z hy) (Q1 z z z (Ax.l1_arr (cl:=icl) z siz_3 z z hy z) (Qe 3 z ?_))
  obtain⟨y_1,hy_1,h⟩:=bs h
  refine Q1 z z z (Ax.ixh (cl:=icl) z slc_26 z z z hy_1) (Q1 z z z (Ax.l1_arr (cl:=icl) z siz_3 z z hy_1 z) (Qe 1 z (Rx ⟨by kernel_rfl,freshL_of [] (by kernel_rfl) (by kernel_rfl),?_⟩)))
  refine Tc (b:=(y==y_1)) z (fun hb_3=>?_) (fun hb_3=>?_)
  ·have h:=cq hb_3 h
   refine Tr (Qe 2 z ?_)
   obtain⟨_,hz,h⟩:=bs h
   refine Q1 z z z (v:=.vw 20260000 1 (Int.toNat v3) (Int.toNat (a0.length:Int)) a0.length) (Ax.vh (cl:=icl) (xs:=a0) z slc_26 z z ⟨_,z⟩ z hz) (Qd z (Ts (Tp z ?_)))
   obtain⟨⟨vo0_1,v3_2⟩,hj_1,h⟩:=bs h
   refine Tri.rngNv hj_1 (fun p=>⟨[(0,.hnd 20260000),(3,Ai p.2.2),(4,.vw 20260000 1 (Int.toNat v3) (Int.toNat (a0.length:Int)) a0.length),(5,Ai p.1)],[(20260000,some (.arr 3 1 (p.2.1.map icl)))]⟩) (fun(y:List Int × Int)=>⟨[(0,.hnd 20260000),(3,Ai y.2)],[(20260000,some (.arr 3 1 (y.1.map icl)))]⟩) (Ee [20260000] z ⟨imf icl_im,u0⟩) ?_ ?_ ?_
   ·refine Tr (Qe 2 z ?_)
    obtain⟨_,hz_1,h⟩:=bs h
    refine Q1 z z z (v:=.vw 20260000 1 (Int.toNat v3_2) (Int.toNat (vo0_1.length:Int)) vo0_1.length) (Ax.vh (cl:=icl) (xs:=vo0_1) z slc_26 z z ⟨_,z⟩ z hz_1) (Qs z z (v:=.tup []) (x:=some (.arr 3 1 ((clrI vo0_1 v3_2 (vo0_1.length:Int) 0).map icl))) (Ax.vclr (cl:=icl) (xs:=vo0_1) (zv:=0) z slc_26 z z z z) (Rx (Tr (Qe 2 z ?_))))
    obtain⟨_,hz_2,h⟩:=bs h
    refine Q1 z z z (v:=.vw 20260000 1 (Int.toNat 0) (Int.toNat v3_2) ((clrI vo0_1 v3_2 (vo0_1.length:Int) 0).length)) (Ax.vh (cl:=icl) (xs:=(clrI vo0_1 v3_2 (vo0_1.length:Int) 0)) z slc_26 z z z ⟨_,z⟩ hz_2) ?_
    obtain⟨z2,hz_3,h⟩:=bs h
    refine Qa z z z (v:=.hnd 2) (x:=some (.arr 3 1 (z2.map icl))) (Ax.vo (cl:=icl) (.inr z) z z z hz_3 z) z z z z z (Rx (Te ?_))
    refine Rr (fun r=>.hnd 1355000) (fun r=>[(1355000,.arr 3 1 (r.map icl))]) [2] h ?_ ?_
    ·rfl
    exact⟨imf icl_im,u0⟩
   ·rintro v5 ⟨vo0,v3_1⟩ hi_1 _ h
    refine Ts (Tr (Qe 2 z (Q1 z z z (v:=Ai ((Int.toNat (a0.length:Int) - Int.toNat v3:Nat):Int)) (Ax.vlen (cl:=icl) (xs:=vo0) z slc_26 z z) (Qd z (Tc (b:=(decide (v5 < ((Int.toNat (a0.length:Int) - Int.toNat v3:Nat):Int)))) z (fun hb_4=>?_) (fun hb_4=>?_))))))
    ·exact(lt_f hi_1 hb_4).elim
    exact Tri.exit (Xi (vo0,v3_1) (An h (Ee [20260000] z ⟨imf icl_im,u0⟩)))
   rintro nx_1 v5 ⟨vo0,v3_1⟩ _ hi_1 hw_1 h
   refine Ts (Tr (Qe 2 z (Q1 z z z (v:=Ai ((Int.toNat (a0.length:Int) - Int.toNat v3:Nat):Int)) (Ax.vlen (cl:=icl) (xs:=vo0) z slc_26 z z) (Qd z (Tc (b:=(decide (v5 < ((Int.toNat (a0.length:Int) - Int.toNat v3:Nat):Int)))) z (fun hb_5=>?_) (fun hb_5=>?_))))))
   ·refine Tk (Ts (Tri.block (Ts (Td [] hmix (by kernel_rfl) (Qe 2 z ?_)))))
    obtain⟨_,hz_4,h⟩:=bs h
    refine Q1 z z z (v:=.eptr 20260000 1 (Int.toNat (v3+v5)) 0) (Ax.vi (cl:=icl) (xs:=vo0) z slc_26 z z z hz_4) ?_
    obtain⟨y_2,hy_2,h⟩:=bs h
    refine Q1 z z z (Ax.l1_arr (cl:=icl) z siz_3 z z hy_2 z) (Qe 3 z ?_)
    obtain⟨_,hz_5,h⟩:=bs h
    refine Q1 z z z (v:=.eptr 20260000 1 (Int.toNat (v3+(W (v5 - 1)))) 0) (Ax.vi (cl:=icl) (xs:=vo0) z slc_26 z z z hz_5) ?_
    obtain⟨y_3,hy_3,h⟩:=bs h
    refine Q1 z z z (Ax.l1_arr (cl:=icl) z siz_3 z z hy_3 z) (Qe 1 z (Rx ⟨by kernel_rfl,freshL_of [] (by kernel_rfl) (by kernel_rfl),?_⟩))
    obtain⟨⟨vo0_2,v3_3⟩,hj_2,h⟩:=bs h
    refine Tri.joinv (vo0_2,v3_3) (fun(y:List Int × Int)=>⟨[(0,.hnd 20260000),(3,Ai y.2),(4,.vw 20260000 1 (Int.toNat v3) (Int.toNat (a0.length:Int)) a0.length),(5,Ai v5)],[(20260000,some (.arr 3 1 (y.1.map icl)))]⟩) ?_ ?_
    ·exact Tq z (Xi (v5+1,(vo0_2,v3_3)) (An (An z h) (Es [20260000] [5] z ⟨imf icl_im,u0⟩ ⟨.imm (Sub.of_eq (show Ai (v5+1)=Ai (W (v5+1)) from congrArg Ai hw_1.symm)) z,u0⟩)))
    have h:=hj_2
    refine Tc (b:=(y_2 != y_3)) z (fun hb_6=>?_) (fun hb_6=>?_)
    ·have h:=cq hb_6 h
     refine Tr (Qe 4 z ?_)
     obtain⟨_,hz_6,h⟩:=bs h
     refine Q1 z z z (v:=.eptr 20260000 1 (Int.toNat (v3+v5)) 0) (Ax.vi (cl:=icl) (xs:=vo0) z slc_26 z z z hz_6) (Q1 z z z (Ax.l1_arr (cl:=icl) z siz_3 z z hy_2 z) ?_)
     obtain⟨y_4,hy_4,h⟩:=bs h
     exact Q1 z z z (Ax.ixh (cl:=icl) z slc_26 z z z hy_4) (Qs z z (x:=some (.arr 3 1 ((vo0.set (Int.toNat v3_1) y_2).map icl))) (Ax.st_arr (cl:=icl) (q:=y_2) z siz_3 z z hy_4 z z z z z z) (Rx (Tq z (Xi ((vo0.set (Int.toNat v3_1) y_2),(W (v3_1+1))) (An h (Ee [20260000] z ⟨imf icl_im,u0⟩))))))
    have h:=cw hb_6 h
    exact Tk (Xi (vo0,v3_1) (An h (Ee [20260000] z ⟨imf icl_im,u0⟩)))
   exact(lt_t hi_1 hb_5).elim
  have h:=cw hb_3 h
  exact Tk (Tq z (Xi (v3+1,()) (An (An z h) (Es [20260000] [3] z ⟨imf icl_im,u0⟩ ⟨.imm (Sub.of_eq (show Ai (v3+1)=Ai (W (v3+1)) from congrArg Ai hw.symm)) z,u0⟩))))
 exact(lt_t hi hb_2).elim
end Go.Proofs.YthlchdnbokhclaaGreat.Ql

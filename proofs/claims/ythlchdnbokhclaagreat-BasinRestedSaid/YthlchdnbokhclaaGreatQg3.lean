import Derived.Test.YthlchdnbokhclaaGreatQt
import Derived.Test.YthlchdnbokhclaaGreatQg1
import Derived.Test.YthlchdnbokhclaaGreatQg2
set_option linter.all false
namespace Go.Proofs.YthlchdnbokhclaaGreat.Ql
open Go Go.Proofs
set_option maxRecDepth 100000
set_option maxHeartbeats 0
theorem f84_ok {K:Nat} {a0:List Int} {a1:Int} {a2:Int} {r:List Int} (h:f84 K a0 a1 a2=some r):CallOK Tryz.prog 84 [.hnd 20260000,Ai a1,Ai a2] [(20260000,.arr 3 1 (a0.map icl))] (.lst 1 (r.map icl)) []:=by
 refine Co Tryz.func84 z z (nl z) ?_
 unfold f84 at h
 refine Tr (Q1 z z z (v:=.lst 1 (([]:List Int).map icl)) (Ax.nl 1 z z) (Rx (Tr (Qe 4 z (Q1 z z z (Ax.lnh (cl:=icl) z slc_26 z z) ?_)))))
 obtain⟨_,hz,h⟩:=bs h
 obtain⟨_,hz_1,h⟩:=bs h
 refine Q1 z z z (v:=.undef) (Ax.vm (cl:=icl) (xs:=a0) z slc_26 z z z z z hz hz_1) (Rx (Ts (Tp z (Tc (b:=(a1==a2)) z (fun hb=>?_) (fun hb=>?_)))))
 ·have h:=cq hb h
  refine Tp z (Te ?_)
  refine RetQ.eq2 (fun r=>.lst 1 (r.map icl)) (fun r=>[]) (Option.some.inj h) ?_
  exact RetQ.mk (vs:=[.hnd 20260000]) (.inr z) ⟨_,_,z,.tmp z,z⟩ [20260000] [] z z u0 (.frz (.hnd mh z (im_flat icl_im a0)) z)
 have h:=cw hb h
 refine Tk (Tr (Qe 1 z (Q1 z z z (Ax.lnh (cl:=icl) z slc_26 z z) (Qd z (Ts (Td [[],[],[0,1],[],[],[3,4],[0,1,2,3,4,5],[]] hmix (by kernel_rfl) (Qe 2 z ?_)))))))
 obtain⟨_,hz_2,h⟩:=bs h
 refine Q1 z z z (v:=.vw 20260000 1 (Int.toNat 0) (Int.toNat a1) a0.length) (Ax.vh (cl:=icl) (xs:=a0) z slc_26 z z z ⟨_,z⟩ hz_2) (Qe 2 z ?_)
 obtain⟨_,hz_3,h⟩:=bs h
 refine Q1 z z z (v:=.vw 20260000 1 (Int.toNat a2) (Int.toNat (a0.length:Int)) a0.length) (Ax.vh (cl:=icl) (xs:=a0) z slc_26 z z ⟨_,z⟩ z hz_3) ?_
 obtain⟨z26,hz_4,h⟩:=bs h
 refine Qa z z z (v:=.vw 26 1 (Int.toNat 0) (Int.toNat (z26.length:Int)) a0.length) (x:=some (.arr 3 1 (z26.map icl))) (Ax.vap (cl:=icl) z z slc_26 z z z hz_4 z) z z z z z (Qe 1 z (Rx ⟨by kernel_rfl,freshL_of [26] (by kernel_rfl) (by kernel_rfl),?_⟩))
 refine Tr (Qe 2 z (Q1 z z z (v:=Ai ((Int.toNat (z26.length:Int) - Int.toNat 0:Nat):Int)) (Ax.vlen (cl:=icl) (xs:=z26) z slc_26 z z) (Qe 1 z ?_)))
 obtain⟨_,hz_5,h⟩:=bs h
 refine Q1 z z z (v:=.vw 26 1 (Int.toNat ((Int.toNat (z26.length:Int) - Int.toNat 0:Nat):Int)) (Int.toNat (a0.length:Int)) a0.length) (Ax.vv (cl:=icl) (xs:=z26) z slc_26 z z ⟨_,z⟩ ⟨_,z⟩ (Int.natCast_nonneg _) hz_5) (Qs z z (v:=.tup []) (x:=some (.arr 3 1 ((clrI z26 ((Int.toNat (z26.length:Int) - Int.toNat 0:Nat):Int) (a0.length:Int) 0).map icl))) (Ax.vclr (cl:=icl) (xs:=z26) (zv:=0) z slc_26 z z z z) (Rx (Tr (Qe 1 z ?_))))
 obtain⟨z6,hz_6,h⟩:=bs h
 refine Qa z z z (v:=.hnd 6) (x:=some (.arr 3 1 (z6.map icl))) (Ax.vo (cl:=icl) (.inr z) z z z hz_6 z) z z z z z (Rx (Te ?_))
 refine RetQ.eq2 (fun r=>.lst 1 (r.map icl)) (fun r=>[]) (Option.some.inj h) ?_
 exact RetQ.mk (vs:=[.hnd 6]) (.inr z) ⟨_,_,z,.tmp z,z⟩ [6] [] z z u0 (.frz (.hnd mh z (im_flat icl_im z6)) z)
theorem f135_ok {K:Nat} {a0:List Int} {a1:List Int→Option Bool} {g1:Nat} {caps1:List AV} {r:List Int} (hg1:FnOK Tryz.prog g1) (ho1:(AV.fn g1 caps1).only []=true) (hp1:∀ x0 r,a1 x0=some r→CallOK Tryz.prog g1 ([.lst 1 (x0.map icl)]++caps1) [] (Ab r) []) (h:f135 K a0 a1=some r):CallOK Tryz.prog 135 [.lst 1 (a0.map icl),.fn g1 caps1] [] (.lst 1 (r.map icl)) []:=by
 refine Co Tryz.func135 z z (nl z) ?_
 unfold f135 at h
 refine Tr (Q1 z z z (v:=.lst 1 (([]:List Int).map icl)) (Ax.nl 1 z z) (Rx (Tr (Qe 1 z ?_))))
 obtain⟨x8,hc,h⟩:=bs h
 refine Qc z z z (args:=[.lst 1 (a0.map icl)]) (r:=.lst 1 (x8.map icl)) (calv z z fnok_85 z) (f85_ok hc) z (Qd z (Ts (Tp z ?_)))
 obtain⟨v0_1,hj,h⟩:=bs h
 refine Tri.whlv hj (fun p=>⟨[(0,.lst 1 (p.1.map icl)),(1,.fn g1 caps1),(5,Ai p.2)],[]⟩) (fun(y:List Int)=>⟨[(0,.lst 1 (y.map icl))],[]⟩) (Es0 [1] z ⟨.imm (Sub.refl _) ho1,u0⟩) ?_ ?_
 ·refine Tp z (Te ?_)
  refine Rr (fun r=>.lst 1 (r.map icl)) (fun r=>[]) [] h ?_ u0
  rfl
 rintro nx ⟨v0,v5⟩ h
 refine Ts (Tr (Qe 2 z (Q1 z z z (Ax.ln (cl:=icl) z slc_26 z) (Qd z (Tc (b:=(decide (v5 < (v0.length:Int)))) z (fun hb=>?_) (fun hb=>?_))))))
 ·have h:=cq hb h
  refine Tk (Tri.block (Tr (Qe 1 z ?_)))
  obtain⟨x14,hc_1,h⟩:=bs h
  refine Qo [] [(20260000,.arr 3 1 (x14.map icl))] [20260000] z z z (args:=[.lst 1 (v0.map icl)]) (r:=.hnd 20260000) (calv z z fnok_85 z) (f85_fr hc_1) u0 z z z (by first | rfl | (exact freshB_mk (by first | rfl | simp [menT,menO,AO.men,AV.men,menL,fn_men ho1]) z (by first | rfl | simp [menT,menO,AO.men,AV.men,menL,fn_men ho1]) z) | (simp [menT,menO,AO.men,AV.men,menL,fn_men ho1]; done) | ((simp only [List.all_cons,List.all_nil,Bool.and_true,Bool.and_eq_true]); and_intros <;> exact freshB_mk (by first | rfl | simp [menT,menO,AO.men,AV.men,menL,fn_men ho1]) z (by first | rfl | simp [menT,menO,AO.men,AV.men,menL,fn_men ho1]) z)) z (Qe 3 z ?_)
  obtain⟨x18,hc_2,h⟩:=bs h
  refine Qo [(20260000,.arr 3 1 (x14.map icl))] [] [] z z z (args:=[.hnd 20260000,Ai v5,Ai (W (v5+1))]) (r:=.lst 1 (x18.map icl)) (calv z z fnok_84 z) (f84_ok hc_2) ⟨z,u0⟩ z z z (by first | rfl | (exact freshB_mk (by first | rfl | simp [menT,menO,AO.men,AV.men,menL,fn_men ho1]) z (by first | rfl | simp [menT,menO,AO.men,AV.men,menL,fn_men ho1]) z) | (simp [menT,menO,AO.men,AV.men,menL,fn_men ho1]; done) | ((simp only [List.all_cons,List.all_nil,Bool.and_true,Bool.and_eq_true]); and_intros <;> exact freshB_mk (by first | rfl | simp [menT,menO,AO.men,AV.men,menL,fn_men ho1]) z (by first | rfl | simp [menT,menO,AO.men,AV.men,menL,fn_men ho1]) z)) z (Qd z (Tr (Qe 2 z ?_)))
  obtain⟨x21,hc_3,h⟩:=bs h
  refine Qc z z z (args:=[.lst 1 (x18.map icl)]++caps1) (r:=Ab x21) (calv z z hg1 z) (hp1 _ _ hc_3) z (Rx ?_)
  obtain⟨⟨v0_2,v5_1⟩,hj_1,h⟩:=bs h
  refine Tri.joinv (v0_2,v5_1) (fun(y:List Int × Int)=>⟨[(0,.lst 1 (y.1.map icl)),(1,.fn g1 caps1),(5,Ai y.2)],[]⟩) ?_ ?_
  ·exact Xi (v0_2,v5_1) (An h (Es0 [1] z ⟨.imm (Sub.refl _) ho1,u0⟩))
  have h:=hj_1
  refine Tc (b:=x21) z (fun hb_1=>?_) (fun hb_1=>?_)
  ·have h:=cq hb_1 h
   exact Tq z (Xi (x18,v5) (An h (Es0 [1] z ⟨.imm (Sub.refl _) ho1,u0⟩)))
  have h:=cw hb_1 h
  exact Tq z (Xi (v0,(W (v5+1))) (An h (Es0 [1] z ⟨.imm (Sub.refl _) ho1,u0⟩)))
 have h:=cw hb h
 exact Tri.exit (Xi v0 (An h (E0 z)))
theorem f137_ok {K:Nat} {a0:Scene} {r:Bool} (h:f137 K a0=some r):CallOK Tryz.prog 137 [.agg (Scene.cl a0)] [] (Ab r) []:=by
 refine Co Tryz.func137 z z (nl z) ?_
 unfold f137 at h
 refine Tp z (Tr (Qe 1 z ?_))
 obtain⟨⟨x7_0,x7_1⟩,hc,h⟩:=bs h
 refine Qc z z z (args:=[.agg (Scene.cl a0)]) (r:=.tup [.lst 1 (x7_0.map cl26),Ai x7_1]) (calv z z fnok_31 z) (f31_ok hc) z (Qd z (Tp z (Te ?_)))
 exact Rb h z
theorem f138_ok {K:Nat} {a0:Scene} {a1:Int→Option Bool} {g1:Nat} {caps1:List AV} {r:Scene} (hg1:FnOK Tryz.prog g1) (ho1:(AV.fn g1 caps1).only []=true) (hp1:∀ x0 r,a1 x0=some r→CallOK Tryz.prog g1 ([Ai x0]++caps1) [] (Ab r) []) (h:f138 K a0 a1=some r):CallOK Tryz.prog 138 [.agg (Scene.cl a0),.fn g1 caps1] [] (.agg (Scene.cl r)) []:=by
 refine Co Tryz.func138 z z (nl z) ?_
 change Tri Tryz.prog 27 _ _ ⟨[(0,.agg (Scene.cl a0)),(1,.fn g1 caps1)],[]⟩ _
 unfold f138 at h
 refine Tr (Qn z z z (v:=.ptr 2 0) (x:=some (.box (Scene.cl a0))) (Ax.box_ptr z z z z) z (by first | rfl | (exact freshB_mk (by first | rfl | simp [menT,menO,AO.men,AV.men,menL,fn_men ho1]) z (by first | rfl | simp [menT,menO,AO.men,AV.men,menL,fn_men ho1]) z) | (simp [menT,menO,AO.men,AV.men,menL,fn_men ho1]; done) | ((simp only [List.all_cons,List.all_nil,Bool.and_true,Bool.and_eq_true]); and_intros <;> exact freshB_mk (by first | rfl | simp [menT,menO,AO.men,AV.men,menL,fn_men ho1]) z (by first | rfl | simp [menT,menO,AO.men,AV.men,menL,fn_men ho1]) z)) z (by first | rfl | (exact freshB_mk (by first | rfl | simp [menT,menO,AO.men,AV.men,menL,fn_men ho1]) z (by first | rfl | simp [menT,menO,AO.men,AV.men,menL,fn_men ho1]) z) | (simp [menT,menO,AO.men,AV.men,menL,fn_men ho1]; done) | ((simp only [List.all_cons,List.all_nil,Bool.and_true,Bool.and_eq_true]); and_intros <;> exact freshB_mk (by first | rfl | simp [menT,menO,AO.men,AV.men,menL,fn_men ho1]) z (by first | rfl | simp [menT,menO,AO.men,AV.men,menL,fn_men ho1]) z)) z (Qn z z z (v:=.ptr 4 0) (x:=some (.box (Scene.cl (⟨(⟨([]:List Cell),([]:List Arr2_3),0,0,0⟩:Basin),([]:List Int),([]:List Sight),([]:List Change)⟩:Scene)))) (Al_ z z zer_30 z ⟨Sub.nil _,Sub.nil _,Sub.refl _,Sub.refl _,Sub.refl _,Sub.nil _,Sub.nil _,Sub.nil _,u0⟩) z (by first | rfl | (exact freshB_mk (by first | rfl | simp [menT,menO,AO.men,AV.men,menL,fn_men ho1]) z (by first | rfl | simp [menT,menO,AO.men,AV.men,menL,fn_men ho1]) z) | (simp [menT,menO,AO.men,AV.men,menL,fn_men ho1]; done) | ((simp only [List.all_cons,List.all_nil,Bool.and_true,Bool.and_eq_true]); and_intros <;> exact freshB_mk (by first | rfl | simp [menT,menO,AO.men,AV.men,menL,fn_men ho1]) z (by first | rfl | simp [menT,menO,AO.men,AV.men,menL,fn_men ho1]) z)) z (by first | rfl | (exact freshB_mk (by first | rfl | simp [menT,menO,AO.men,AV.men,menL,fn_men ho1]) z (by first | rfl | simp [menT,menO,AO.men,AV.men,menL,fn_men ho1]) z) | (simp [menT,menO,AO.men,AV.men,menL,fn_men ho1]; done) | ((simp only [List.all_cons,List.all_nil,Bool.and_true,Bool.and_eq_true]); and_intros <;> exact freshB_mk (by first | rfl | simp [menT,menO,AO.men,AV.men,menL,fn_men ho1]) z (by first | rfl | simp [menT,menO,AO.men,AV.men,menL,fn_men ho1]) z)) z (Rx (Tr (Qn z z z (v:=.hnd 5) (x:=some (.arr 64 5 (([]:List Sight).map Sight.cl))) (Ax.nil_new 64 5 (.inr z) z) z (by first | rfl | (exact freshB_mk (by first | rfl | simp [menT,menO,AO.men,AV.men,menL,fn_men ho1]) z (by first | rfl | simp [menT,menO,AO.men,AV.men,menL,fn_men ho1]) z) | (simp [menT,menO,AO.men,AV.men,menL,fn_men ho1]; done) | ((simp only [List.all_cons,List.all_nil,Bool.and_true,Bool.and_eq_true]); and_intros <;> exact freshB_mk (by first | rfl | simp [menT,menO,AO.men,AV.men,menL,fn_men ho1]) z (by first | rfl | simp [menT,menO,AO.men,AV.men,menL,fn_men ho1]) z)) z (by first | rfl | (exact freshB_mk (by first | rfl | simp [menT,menO,AO.men,AV.men,menL,fn_men ho1]) z (by first | rfl | simp [menT,menO,AO.men,AV.men,menL,fn_men ho1]) z) | (simp [menT,menO,AO.men,AV.men,menL,fn_men ho1]; done) | ((simp only [List.all_cons,List.all_nil,Bool.and_true,Bool.and_eq_true]); and_intros <;> exact freshB_mk (by first | rfl | simp [menT,menO,AO.men,AV.men,menL,fn_men ho1]) z (by first | rfl | simp [menT,menO,AO.men,AV.men,menL,fn_men ho1]) z)) z (Rx (Ts (Tr (Qe 2 z (Q1 z z z (Ax.ln (cl:=Sight.cl) z slc_27 z) (Qd z ?_)))))))))))
 obtain⟨vo5_1,hj,h⟩:=bs h
 refine Tri.rngLv hj (fun p=>⟨[(1,.fn g1 caps1),(2,.ptr 2 0),(4,.ptr 4 0),(5,.hnd 5),(9,.lst 5 (a0.Sights.map Sight.cl)),(10,Ai (a0.Sights.length:Int)),(11,Ai p.1)],[(2,some (.box (Scene.cl a0))),(4,some (.box (Scene.cl (⟨(⟨([]:List Cell),([]:List Arr2_3),0,0,0⟩:Basin),([]:List Int),([]:List Sight),([]:List Change)⟩:Scene)))),(5,some (.arr 64 5 (p.2.map Sight.cl)))]⟩) (fun(y:List Sight)=>⟨[(2,.ptr 2 0),(4,.ptr 4 0),(5,.hnd 5)],[(2,some (.box (Scene.cl a0))),(4,some (.box (Scene.cl (⟨(⟨([]:List Cell),([]:List Arr2_3),0,0,0⟩:Basin),([]:List Int),([]:List Sight),([]:List Change)⟩:Scene)))),(5,some (.arr 64 5 (y.map Sight.cl)))]⟩) (Es [2,4,5] [1] z ⟨im_flat Sight_im ([]:List Sight),u0⟩ ⟨.imm (Sub.refl _) ho1,u0⟩) ?_ ?_ ?_
 ·first | change Tri _ _ _ _ ⟨[(2,.ptr 2 0),(4,.ptr 4 0),(5,.hnd 5)],[(2,some (.box (Scene.cl a0))),(4,some (.box (Scene.cl (⟨(⟨([]:List Cell),([]:List Arr2_3),0,0,0⟩:Basin),([]:List Int),([]:List Sight),([]:List Change)⟩:Scene)))),(5,some (.arr 64 5 (vo5_1.map Sight.cl)))]⟩ _ | change RetQ _ _ _ _ _ _ ⟨[(2,.ptr 2 0),(4,.ptr 4 0),(5,.hnd 5)],[(2,some (.box (Scene.cl a0))),(4,some (.box (Scene.cl (⟨(⟨([]:List Cell),([]:List Arr2_3),0,0,0⟩:Basin),([]:List Int),([]:List Sight),([]:List Change)⟩:Scene)))),(5,some (.arr 64 5 (vo5_1.map Sight.cl)))]⟩ | skip
  refine Tr (Qe 2 z (Qs z z (x:=some (.box [.lst 4 (a0.Basin.Cells.map Cell.cl),.lst 2 (a0.Basin.Pairs.map Arr2_3.cl),Ai a0.Basin.Gain,Ai a0.Basin.Slack,Ai a0.Basin.Deep,.lst 1 (a0.Days.map icl),.hnd 5,.lst 5 (a0.Changes.map Change.cl)])) (As z siz_27 z z z z z z z) (Rx (Tr (Qe 1 z (Qs z z (x:=some (.box [.lst 4 (a0.Basin.Cells.map Cell.cl),.lst 2 (a0.Basin.Pairs.map Arr2_3.cl),Ai a0.Basin.Gain,Ai a0.Basin.Slack,Ai a0.Basin.Deep,.lst 1 (a0.Days.map icl),.hnd 5,.lst 5 (a0.Changes.map Change.cl)])) (As z siz_30 z z z z z z z) (Rx (Te ?_))))))))
  refine RetQ.eq2 (fun r=>.agg (Scene.cl r)) (fun r=>[]) (Option.some.inj h) ?_
  exact RetQ.mk (vs:=[.agg [.lst 4 (a0.Basin.Cells.map Cell.cl),.lst 2 (a0.Basin.Pairs.map Arr2_3.cl),Ai a0.Basin.Gain,Ai a0.Basin.Slack,Ai a0.Basin.Deep,.lst 1 (a0.Days.map icl),.hnd 5,.lst 5 (a0.Changes.map Change.cl)]]) (.inr z) ⟨_,_,z,.cell_box z siz_30 z z z,z⟩ [5] [] z z u0 (.frz (.aggV ⟨(.imm z),(.imm z),(.imm z),(.imm z),(.imm z),(.imm z),(.hnd mh z (im_flat Sight_im vo5_1)),(.imm z),u0⟩) z)
 ·rintro v11 vo5 hi h
  first | change Tri _ _ _ _ ⟨[(1,.fn g1 caps1),(2,.ptr 2 0),(4,.ptr 4 0),(5,.hnd 5),(9,.lst 5 (a0.Sights.map Sight.cl)),(10,Ai (a0.Sights.length:Int)),(11,Ai v11)],[(2,some (.box (Scene.cl a0))),(4,some (.box (Scene.cl (⟨(⟨([]:List Cell),([]:List Arr2_3),0,0,0⟩:Basin),([]:List Int),([]:List Sight),([]:List Change)⟩:Scene)))),(5,some (.arr 64 5 (vo5.map Sight.cl)))]⟩ _ | change RetQ _ _ _ _ _ _ ⟨[(1,.fn g1 caps1),(2,.ptr 2 0),(4,.ptr 4 0),(5,.hnd 5),(9,.lst 5 (a0.Sights.map Sight.cl)),(10,Ai (a0.Sights.length:Int)),(11,Ai v11)],[(2,some (.box (Scene.cl a0))),(4,some (.box (Scene.cl (⟨(⟨([]:List Cell),([]:List Arr2_3),0,0,0⟩:Basin),([]:List Int),([]:List Sight),([]:List Change)⟩:Scene)))),(5,some (.arr 64 5 (vo5.map Sight.cl)))]⟩ | skip
  refine Tp z (Ts (Tc (b:=(decide (v11 < (a0.Sights.length:Int)))) z (fun hb=>?_) (fun hb=>?_)))
  ·exact(lt_f hi hb).elim
  exact Tri.exit (Xi vo5 (An h (Ee [2,4,5] z ⟨imf Sight_im,u0⟩)))
 rintro nx x v11 vo5 _ hi hw hx h
 first | change Tri _ _ _ _ ⟨[(1,.fn g1 caps1),(2,.ptr 2 0),(4,.ptr 4 0),(5,.hnd 5),(9,.lst 5 (a0.Sights.map Sight.cl)),(10,Ai (a0.Sights.length:Int)),(11,Ai v11)],[(2,some (.box (Scene.cl a0))),(4,some (.box (Scene.cl (⟨(⟨([]:List Cell),([]:List Arr2_3),0,0,0⟩:Basin),([]:List Int),([]:List Sight),([]:List Change)⟩:Scene)))),(5,some (.arr 64 5 (vo5.map Sight.cl)))]⟩ _ | change RetQ _ _ _ _ _ _ ⟨[(1,.fn g1 caps1),(2,.ptr 2 0),(4,.ptr 4 0),(5,.hnd 5),(9,.lst 5 (a0.Sights.map Sight.cl)),(10,Ai (a0.Sights.length:Int)),(11,Ai v11)],[(2,some (.box (Scene.cl a0))),(4,some (.box (Scene.cl (⟨(⟨([]:List Cell),([]:List Arr2_3),0,0,0⟩:Basin),([]:List Int),([]:List Sight),([]:List Change)⟩:Scene)))),(5,some (.arr 64 5 (vo5.map Sight.cl)))]⟩ | skip
 refine Tp z (Ts (Tc (b:=(decide (v11 < (a0.Sights.length:Int)))) z (fun hb_1=>?_) (fun hb_1=>?_)))
 ·refine Tk (Ts (Tri.block (Tr (Q1 z z z (Ax.ix (cl:=Sight.cl) z slc_27 z z hx) (Qe 1 z (Qn z z z (v:=.ptr 7 0) (x:=some (.box (Sight.cl (⟨0,0,0,0,0⟩:Sight)))) (Al_ z z zer_64 z ⟨Sub.refl _,Sub.refl _,Sub.refl _,Sub.refl _,Sub.refl _,u0⟩) z (by first | rfl | (exact freshB_mk (by first | rfl | simp [menT,menO,AO.men,AV.men,menL,fn_men ho1]) z (by first | rfl | simp [menT,menO,AO.men,AV.men,menL,fn_men ho1]) z) | (simp [menT,menO,AO.men,AV.men,menL,fn_men ho1]; done) | ((simp only [List.all_cons,List.all_nil,Bool.and_true,Bool.and_eq_true]); and_intros <;> exact freshB_mk (by first | rfl | simp [menT,menO,AO.men,AV.men,menL,fn_men ho1]) z (by first | rfl | simp [menT,menO,AO.men,AV.men,menL,fn_men ho1]) z)) z (by first | rfl | (exact freshB_mk (by first | rfl | simp [menT,menO,AO.men,AV.men,menL,fn_men ho1]) z (by first | rfl | simp [menT,menO,AO.men,AV.men,menL,fn_men ho1]) z) | (simp [menT,menO,AO.men,AV.men,menL,fn_men ho1]; done) | ((simp only [List.all_cons,List.all_nil,Bool.and_true,Bool.and_eq_true]); and_intros <;> exact freshB_mk (by first | rfl | simp [menT,menO,AO.men,AV.men,menL,fn_men ho1]) z (by first | rfl | simp [menT,menO,AO.men,AV.men,menL,fn_men ho1]) z)) z (Qs z z (x:=some (.box (Sight.cl x))) (As z siz_64 z z z z z z z) (Rx (Tr (Qe 3 z ?_))))))))))
  obtain⟨x18,hc,h⟩:=bs h
  refine Qc z z z (args:=[Ai x.No]++caps1) (r:=Ab x18) (calv z z hg1 z) (hp1 _ _ hc) z (Rx ?_)
  obtain⟨vo5_2,hj_1,h⟩:=bs h
  refine Tri.joinv vo5_2 (fun(y:List Sight)=>⟨[(1,.fn g1 caps1),(2,.ptr 2 0),(4,.ptr 4 0),(5,.hnd 22),(9,.lst 5 (a0.Sights.map Sight.cl)),(10,Ai (a0.Sights.length:Int)),(11,Ai v11)],[(2,some (.box (Scene.cl a0))),(4,some (.box (Scene.cl (⟨(⟨([]:List Cell),([]:List Arr2_3),0,0,0⟩:Basin),([]:List Int),([]:List Sight),([]:List Change)⟩:Scene)))),(22,some (.arr 64 5 (y.map Sight.cl)))]⟩) ?_ ?_
  ·first | change Tri _ _ _ _ ⟨[(1,.fn g1 caps1),(2,.ptr 2 0),(4,.ptr 4 0),(5,.hnd 22),(9,.lst 5 (a0.Sights.map Sight.cl)),(10,Ai (a0.Sights.length:Int)),(11,Ai v11)],[(2,some (.box (Scene.cl a0))),(4,some (.box (Scene.cl (⟨(⟨([]:List Cell),([]:List Arr2_3),0,0,0⟩:Basin),([]:List Int),([]:List Sight),([]:List Change)⟩:Scene)))),(22,some (.arr 64 5 (vo5_2.map Sight.cl)))]⟩ _ | change RetQ _ _ _ _ _ _ ⟨[(1,.fn g1 caps1),(2,.ptr 2 0),(4,.ptr 4 0),(5,.hnd 22),(9,.lst 5 (a0.Sights.map Sight.cl)),(10,Ai (a0.Sights.length:Int)),(11,Ai v11)],[(2,some (.box (Scene.cl a0))),(4,some (.box (Scene.cl (⟨(⟨([]:List Cell),([]:List Arr2_3),0,0,0⟩:Basin),([]:List Int),([]:List Sight),([]:List Change)⟩:Scene)))),(22,some (.arr 64 5 (vo5_2.map Sight.cl)))]⟩ | skip
   exact Tq z (Xi (v11+1,vo5_2) (An (An z h) (Es [2,4,22] [1,11] z ⟨imf Sight_im,u0⟩ ⟨.imm (Sub.refl _) ho1,.imm (Sub.of_eq (show Ai (v11+1)=Ai (W (v11+1)) from congrArg Ai hw.symm)) z,u0⟩)))
  have h:=hj_1
  refine Tc (b:=x18) z (fun hb_2=>?_) (fun hb_2=>?_)
  ·have h:=cq hb_2 h
   refine Tri.region (Qe 2 z (Q1 z z z (v:=.lst 5 (([x]:List Sight).map Sight.cl)) (Ax.sl (xs:=([x]:List Sight)) z slc_27 z z ⟨Sub.refl _,Sub.refl _,Sub.refl _,Sub.refl _,Sub.refl _,u0⟩ z Sight_len Sight_one Sight_im) ?_))
   obtain⟨z22,hz,h⟩:=bs h
   exact Qa z z z (v:=.hnd 22) (x:=some (.arr 64 5 (z22.map Sight.cl))) (Ax.app_l (cl:=Sight.cl) z z slc_27 z z z Sight_one Sight_im hz z z) z (by first | rfl | (exact freshB_mk (by first | rfl | simp [menT,menO,AO.men,AV.men,menL,fn_men ho1]) z (by first | rfl | simp [menT,menO,AO.men,AV.men,menL,fn_men ho1]) z) | (simp [menT,menO,AO.men,AV.men,menL,fn_men ho1]; done) | ((simp only [List.all_cons,List.all_nil,Bool.and_true,Bool.and_eq_true]); and_intros <;> exact freshB_mk (by first | rfl | simp [menT,menO,AO.men,AV.men,menL,fn_men ho1]) z (by first | rfl | simp [menT,menO,AO.men,AV.men,menL,fn_men ho1]) z)) z (by first | rfl | (exact freshB_mk (by first | rfl | simp [menT,menO,AO.men,AV.men,menL,fn_men ho1]) z (by first | rfl | simp [menT,menO,AO.men,AV.men,menL,fn_men ho1]) z) | (simp [menT,menO,AO.men,AV.men,menL,fn_men ho1]; done) | ((simp only [List.all_cons,List.all_nil,Bool.and_true,Bool.and_eq_true]); and_intros <;> exact freshB_mk (by first | rfl | simp [menT,menO,AO.men,AV.men,menL,fn_men ho1]) z (by first | rfl | simp [menT,menO,AO.men,AV.men,menL,fn_men ho1]) z)) z (Qd z (Xi z22 (An h (Es [2,4,22] [1] z ⟨imf Sight_im,u0⟩ ⟨.imm (Sub.refl _) ho1,u0⟩))))
  have h:=cw hb_2 h
  exact Tk (Xi vo5 (An h (Es [2,4,5] [1] z ⟨imf Sight_im,u0⟩ ⟨.imm (Sub.refl _) ho1,u0⟩)))
 exact(lt_t hi hb_1).elim
theorem f139_ok {K:Nat} {a0:List Int} {a1:Int} {r:(Int × List Int)} (h:f139 K a0 a1=some r):CallOK Tryz.prog 139 [.lst 1 (a0.map icl),Ai a1] [] (.fn 255 [.ipt (icl r.1) 0,.ipt (cl26 r.2) 0]) []:=by
 refine Co Tryz.func139 z z (nl z) ?_
 unfold f139 at h
 refine Tp z (Tr (Q1 z z z (v:=.fn 255 [.ipt (icl a1) 0,.ipt (cl26 a0) 0]) (Ax.func z z) (Qd z (Te ?_))))
 refine Rr (fun r=>.fn 255 [.ipt (icl r.1) 0,.ipt (cl26 r.2) 0]) (fun r=>[]) [] h ?_ u0
 rfl
theorem f255_ok {K:Nat} {a0:Int} {a1:Int} {a2:List Int} {r:Bool} (h:f255 K a0 a1 a2=some r):CallOK Tryz.prog 255 [Ai a0,.ipt (icl a1) 0,.ipt (cl26 a2) 0] [] (Ab r) []:=by
 refine Co Tryz.func255 z z (nl z) ?_
 unfold f255 at h
 refine Tp z (Ts ?_)
 obtain⟨v4,hj,h⟩:=bs h
 refine Tri.joinv v4 (fun(y:Bool)=>⟨[(4,Ab y)],[]⟩) ?_ ?_
 ·refine Te ?_
  exact Rb h z
 have h:=hj
 refine Tri.region (Qe 4 z ?_)
 rcases b2 (a0 != a1) with hb | hb
 ·have h:=cq hb h
  refine Qk 8 hb z (Qe 2 z ?_)
  obtain⟨x11,hc,h⟩:=bs h
  exact Qc z z z (args:=[.lst 1 (a2.map icl),Ai a0]) (r:=Ab x11) (calv z z fnok_83 z) (f83_ok hc) z (Qd z (Xi x11 (An h (E0 z))))
 have h:=cw hb h
 exact Qk 8 hb z (Qd z (Xi false (An h (E0 z))))
theorem f136_ok {K:Nat} {a0:List Int} {a1:Scene} {r:Bool} (h:f136 K a0 a1=some r):CallOK Tryz.prog 136 [.lst 1 (a0.map icl),.ipt (Scene.cl a1) 0] [] (Ab r) []:=by
 refine Co Tryz.func136 z z (nl z) ?_
 unfold f136 at h
 refine Tp z (Ts (Td [[],[],[1],[0,1,2],[0,1,2,3],[0,1,2,3,4],[0,1,2,3,4,5]] hmix (by kernel_rfl) (Qe 2 z ?_)))
 obtain⟨x6,hc,h⟩:=bs h
 refine Qc z z z (args:=[.lst 1 (a0.map icl),Ai (-1)]) (r:=.fn 255 [.ipt (icl x6.1) 0,.ipt (cl26 x6.2) 0]) (calv z z fnok_139 z) (f139_ok hc) z ?_
 obtain⟨x7,hc_1,h⟩:=bs h
 refine Qc z z z (args:=[.agg (Scene.cl a1),.fn 255 [.ipt (icl x6.1) 0,.ipt (cl26 x6.2) 0]]) (r:=.agg (Scene.cl x7)) (calv z z fnok_138 z) (f138_ok fnok_255 z (fun _ _ hr=>f255_ok hr) hc_1) z ?_
 obtain⟨x8,hc_2,h⟩:=bs h
 refine Qc z z z (args:=[.agg (Scene.cl x7)]) (r:=Ab x8) (calv z z fnok_137 z) (f137_ok hc_2) z (Qe 2 z (Rx ⟨by kernel_rfl,freshL_of [] (by kernel_rfl) (by kernel_rfl),?_⟩))
 refine Te ?_
 exact Rb h z
theorem f54_ok {K:Nat} {a0:Scene} {r:List Int × Bool × Int} (h:f54 K a0=some r):CallOK Tryz.prog 54 [.agg (Scene.cl a0)] [] (.tup [.lst 1 (r.1.map icl),Ab r.2.1,Ai r.2.2]) []:=by
 refine Co Tryz.func54 z z (nl z) ?_
 unfold f54 at h
 refine Tr (Qe 1 z (Q1 z z z (v:=.lst 1 (([]:List Int).map icl)) (Ax.nl 1 z z) (Qd z (Ts (Tr (Qe 1 z ?_))))))
 obtain⟨x15,hc,h⟩:=bs h
 refine Qc z z z (args:=[.agg (Scene.cl a0)]) (r:=Ai x15) (calv z z fnok_66 z) (f66_ok hc) z (Qd z (Tp z (Tc (b:=(x15 != 0)) z (fun hb=>?_) (fun hb=>?_))))
 ·have h:=cq hb h
  refine Tr (Qe 1 z (Q1 z z z (v:=.lst 1 (([]:List Int).map icl)) (Ax.nl 1 z z) (Qd z (Te ?_))))
  refine Rr (fun r=>.tup [.lst 1 (r.1.map icl),Ab r.2.1,Ai r.2.2]) (fun r=>[]) [] h ?_ u0
  rfl
 have h:=cw hb h
 refine Tk (Tr (Qe 1 z ?_))
 obtain⟨x20,hc_1,h⟩:=bs h
 refine Qc z z z (args:=[.agg (Scene.cl a0)]) (r:=.ipt (Laid_basin.cl x20) 0) (calv z z fnok_102 z) (f102_ok hc_1) z (Qd z (Tr (Qe 1 z (Q1 z z z (Ax.nil_ipt z z) (Qe 2 z ?_)))))
 obtain⟨⟨x26_0,x26_1,x26_2⟩,hc_2,h⟩:=bs h
 refine Qc z z z (args:=[.agg (Net.cl x20.net)]) (r:=.tup [.lst 1 (x26_0.map icl),Ab x26_1,Ai x26_2]) (calv z z fnok_132 z) (f132_ok hc_2) z (Qd z (Ts (Ts (Tri.join1 ⟨[(1,.ipt (Scene.cl a0) 0),(6,.ipt (Laid_basin.cl x20) 0),(7,.lst 1 (x26_0.map icl)),(9,Ai x26_2),(35,Ab ((x26_2 != 0)||(!x26_1)))],[]⟩ ?_ ?_))))
 ·refine Tc (b:=((x26_2 != 0)||(!x26_1))) z (fun hb_1=>?_) (fun hb_1=>?_)
  ·have h:=cq hb_1 h
   refine Tr (Qe 1 z (Q1 z z z (v:=.lst 1 (([]:List Int).map icl)) (Ax.nl 1 z z) (Qd z (Te ?_))))
   refine Rr (fun r=>.tup [.lst 1 (r.1.map icl),Ab r.2.1,Ai r.2.2]) (fun r=>[]) [] h ?_ u0
   rfl
  have h:=cw hb_1 h
  refine Tk (Tr (Qn z z z (v:=.hnd 10) (x:=some (.arr 3 1 (([]:List Int).map icl))) (Ax.nil_new 3 1 (.inr z) z) z z z z z (Rx (Ts (Tr (Qe 1 z (Q1 z z z (Ax.ln (cl:=icl) z slc_26 z) (Qd z ?_))))))))
  obtain⟨vo10_1,hj,h⟩:=bs h
  refine Tri.rngLv hj (fun p=>⟨[(1,.ipt (Scene.cl a0) 0),(6,.ipt (Laid_basin.cl x20) 0),(10,.hnd 10),(37,.lst 1 (x26_0.map icl)),(38,Ai (x26_0.length:Int)),(39,Ai p.1)],[(10,some (.arr 3 1 (p.2.map icl)))]⟩) (fun(y:List Int)=>⟨[(1,.ipt (Scene.cl a0) 0),(10,.hnd 10)],[(10,some (.arr 3 1 (y.map icl)))]⟩) (Ee [10] z ⟨im_flat icl_im ([]:List Int),u0⟩) ?_ ?_ ?_
  ·refine Ts (Tn (Ent.norm [] [(20260000,10,.arr 3 1 (vo10_1.map icl))] [(1,.ipt (Scene.cl a0) 0),(10,.hnd 20260000)] z ⟨⟨_,z,.arr (im_flat icl_im vo10_1)⟩,u0⟩ ⟨.rfl' z,.hnd mh,u0⟩) (Tri.region (Qe 1 z ?_)))
   obtain⟨x65,hc_3,h⟩:=bs h
   refine Qo [(20260000,.arr 3 1 (vo10_1.map icl))] [(20260000,.arr 3 1 (x65.map icl))] [] z z z (args:=[.hnd 20260000]) (r:=.tup []) (calv z z fnok_133 z) (f133_ok hc_3) ⟨z,u0⟩ z z z z z (Rx (Tr (Qe 1 z ?_)))
   obtain⟨x67,hc_4,h⟩:=bs h
   refine Qo [(20260000,.arr 3 1 (x65.map icl))] [(1355000,.arr 3 1 (x67.map icl))] [1355000] z z z (args:=[.hnd 20260000]) (r:=.hnd 1355000) (calv z z fnok_134 z) (f134_fr hc_4) ⟨z,u0⟩ z z z z z (Qd z (Ts (Tn (Ent.norm [1355000] [] [(1,.ipt (Scene.cl a0) 0),(10,.lst 1 (x67.map icl))] z u0 ⟨.rfl' z,.frz (.hnd mh z (im_flat icl_im x67)) z,u0⟩) (Tri.region (Qe 1 z (Q1 z z z (v:=.fn 136 [.ipt (Scene.cl a0) 0]) (Ax.func z z) ?_))))))
   obtain⟨x70,hc_5,h⟩:=bs h
   refine Qc z z z (args:=[.lst 1 (x67.map icl),.fn 136 [.ipt (Scene.cl a0) 0]]) (r:=.lst 1 (x70.map icl)) (calv z z fnok_135 z) (f135_ok fnok_136 z (fun _ _ hr=>f136_ok hr) hc_5) z (Qd z (Te ?_))
   refine Rr (fun r=>.tup [.lst 1 (r.1.map icl),Ab r.2.1,Ai r.2.2]) (fun r=>[]) [] h ?_ u0
   rfl
  ·rintro v39 vo10 hi h
   refine Tp z (Ts (Tc (b:=(decide (v39 < (x26_0.length:Int)))) z (fun hb_2=>?_) (fun hb_2=>?_)))
   ·exact(lt_f hi hb_2).elim
   exact Tri.exit (Xi vo10 (An h (Ee [10] z ⟨imf icl_im,u0⟩)))
  rintro nx x v39 vo10 _ hi hw hx h
  refine Tp z (Ts (Tc (b:=(decide (v39 < (x26_0.length:Int)))) z (fun hb_3=>?_) (fun hb_3=>?_)))
  ·refine Tk (Ts (Tri.block (Tr (Q1 z z z (Ax.ix (cl:=icl) z slc_26 z z hx) (Qd z (Tr (Qe 1 z (Q1 z z z (Ax.nil_ipt z z) (Qe 3 z ?_)))))))))
   obtain⟨y,hy,h⟩:=bs h
   refine Q1 z z z (Ax.ix (cl:=Reason.cl) z slc_35 z z hy) (Qe 1 z (Qn z z z (v:=.ptr 13 0) (x:=some (.box (Reason.cl (⟨0,0,0,false⟩:Reason)))) (Al_ z z zer_42 z ⟨Sub.refl _,Sub.refl _,Sub.refl _,Sub.refl _,u0⟩) z z z z z (Qs z z (x:=some (.box (Reason.cl y))) (As z siz_42 z z z z z z z) (Rx (Tp z ?_)))))
   obtain⟨vo10_2,hj_1,h⟩:=bs h
   refine Tri.joinv vo10_2 (fun(y:List Int)=>⟨[(1,.ipt (Scene.cl a0) 0),(6,.ipt (Laid_basin.cl x20) 0),(10,.hnd 62),(37,.lst 1 (x26_0.map icl)),(38,Ai (x26_0.length:Int)),(39,Ai v39)],[(62,some (.arr 3 1 (y.map icl)))]⟩) ?_ ?_
   ·exact Tq z (Xi (v39+1,vo10_2) (An (An z h) (Es [62] [39] z ⟨imf icl_im,u0⟩ ⟨.imm (Sub.of_eq (show Ai (v39+1)=Ai (W (v39+1)) from congrArg Ai hw.symm)) z,u0⟩)))
   have h:=hj_1
   refine Tc (b:=(y.Kind==5)) z (fun hb_4=>?_) (fun hb_4=>?_)
   ·have h:=cq hb_4 h
    refine Tri.region (Qe 5 z ?_)
    obtain⟨y_1,hy_1,h⟩:=bs h
    refine Q1 z z z (Ax.ix (cl:=Sight.cl) z slc_27 z z hy_1) (Qe 2 z (Q1 z z z (v:=.lst 1 (([y_1.No]:List Int).map icl)) (Ax.sl (xs:=([y_1.No]:List Int)) z slc_26 z z ⟨Sub.refl _,u0⟩ z icl_len icl_one icl_im) ?_))
    obtain⟨z62,hz,h⟩:=bs h
    exact Qa z z z (v:=.hnd 62) (x:=some (.arr 3 1 (z62.map icl))) (Ax.app_l (cl:=icl) z z slc_26 z z z icl_one icl_im hz z z) z z z z z (Qd z (Xi z62 (An h (Ee [62] z ⟨imf icl_im,u0⟩))))
   have h:=cw hb_4 h
   exact Tk (Xi vo10 (An h (Ee [10] z ⟨imf icl_im,u0⟩)))
  exact(lt_t hi hb_3).elim
 refine Tri.region (Qe 3 z ?_)
 rcases b2 (x26_2 != 0) with hb_5 | hb_5
 ·exact Qk 32 hb_5 z (Qd z ((Es0 [35] z ⟨.imm (Sub.of_eq (show Ab ((x26_2 != 0)||(!x26_1))=Ab true by simp only [cond_true,cond_false,Bool.true_or,Bool.false_or,Bool.true_and,Bool.false_and,Bool.or_true,Bool.or_false,Bool.and_true,Bool.and_false,hb,hb_5])) z,u0⟩)))
 exact Qk 32 hb_5 z (Qd z ((Es0 [35] z ⟨.imm (Sub.of_eq (show Ab ((x26_2 != 0)||(!x26_1))=Ab (!x26_1) by simp only [cond_true,cond_false,Bool.true_or,Bool.false_or,Bool.true_and,Bool.false_and,Bool.or_true,Bool.or_false,Bool.and_true,Bool.and_false,hb,hb_5])) z,u0⟩)))
theorem f55_ok {K:Nat} {a0:Basin} {a1:Int} {r:Int × Bool × Int} (h:f55 K a0 a1=some r):CallOK Tryz.prog 55 [.agg (Basin.cl a0),Ai a1] [] (.tup [Ai r.1,Ab r.2.1,Ai r.2.2]) []:=by
 refine Co Tryz.func55 z z (nl z) ?_
 unfold f55 at h
 refine Tp z (Ts (Tr (Qe 1 z ?_)))
 obtain⟨x10,hc,h⟩:=bs h
 refine Qc z z z (args:=[.agg (Basin.cl a0)]) (r:=Ai x10) (calv z z fnok_74 z) (f74_ok hc) z (Qd z (Tp z (Tc (b:=(x10 != 0)) z (fun hb=>?_) (fun hb=>?_))))
 ·have h:=cq hb h
  refine Tp z (Te ?_)
  refine Rr (fun r=>.tup [Ai r.1,Ab r.2.1,Ai r.2.2]) (fun r=>[]) [] h ?_ u0
  rfl
 have h:=cw hb h
 refine Tk (Ts (Tr (Qe 3 z (Q1 z z z (Ax.ln (cl:=Arr2_3.cl) z slc_23 z) (Qe 1 z ?_)))))
 obtain⟨x19,hc_1,h⟩:=bs h
 refine Qc z z z (args:=[Ai a1,Ai 0,Ai (W ((a0.Pairs.length:Int) - 1))]) (r:=Ab x19) (calv z z fnok_140 z) (f140_ok hc_1) z (Qd z (Tc (b:=(!x19)) z (fun hb_1=>?_) (fun hb_1=>?_)))
 ·have h:=cq hb_1 h
  refine Tp z (Te ?_)
  refine Rr (fun r=>.tup [Ai r.1,Ab r.2.1,Ai r.2.2]) (fun r=>[]) [] h ?_ u0
  rfl
 have h:=cw hb_1 h
 refine Tk (Tr (Qe 3 z ?_))
 obtain⟨y,hy,h⟩:=bs h
 refine Q1 z z z (Ax.ix (cl:=Arr2_3.cl) z slc_23 z z hy) (Qe 1 z (Qn z z z (v:=.ptr 8 0) (x:=some (.box (Arr2_3.cl (⟨0,0⟩:Arr2_3)))) (Al_ z z zer_97 z ⟨Sub.refl _,Sub.refl _,u0⟩) z z z z z (Qs z z (x:=some (.box (Arr2_3.cl y))) (As z siz_97 z z z z z z z) (Rx (Ts (Ts (Td [[],[0],[],[2],[0,1,2,3],[0,1,2,3,4],[],[6],[],[8],[6,7,8,9],[6,7,8,9,10],[0,1,2,3,4,5,6,7,8,9,10,11],[0,1,2,3,4,5,6,7,8,9,10,11,12]] hmix (by kernel_rfl) (Qe 2 z (Q1 z z z (Ax.index_ptr (k:=.i64) (n:=0) z arr_97 z z z (by decide) (by decide)) (Qe 1 z ?_))))))))))
 obtain⟨y_1,hy_1,h⟩:=bs h
 refine Q1 z z z (Ax.ix (cl:=Cell.cl) z slc_22 z z hy_1) (Qe 3 z (Q1 z z z (Ax.index_ptr (k:=.i64) (n:=1) z arr_97 z z z (by decide) (by decide)) (Qe 1 z ?_)))
 obtain⟨y_2,hy_2,h⟩:=bs h
 refine Q1 z z z (Ax.ix (cl:=Cell.cl) z slc_22 z z hy_2) (Qe 1 z ?_)
 obtain⟨x38,hc_2,h⟩:=bs h
 refine Qc z z z (args:=[.agg (Cell.cl y_1),.agg (Cell.cl y_2)]) (r:=Ab x38) (calv z z fnok_141 z) (f141_ok hc_2) z (Qe 1 z (Rx ⟨by kernel_rfl,freshL_of [] (by kernel_rfl) (by kernel_rfl),?_⟩))
 refine Tc (b:=(!x38)) z (fun hb_2=>?_) (fun hb_2=>?_)
 ·have h:=cq hb_2 h
  refine Tp z (Te ?_)
  refine Rr (fun r=>.tup [Ai r.1,Ab r.2.1,Ai r.2.2]) (fun r=>[]) [] h ?_ u0
  rfl
 have h:=cw hb_2 h
 refine Tk (Tr (Qe 2 z ?_))
 obtain⟨x42,hc_3,h⟩:=bs h
 refine Qc z z z (args:=[.agg (Basin.cl a0),.agg (Arr2_3.cl y)]) (r:=Ai x42) (calv z z fnok_142 z) (f142_ok hc_3) z (Qd z (Te ?_))
 refine Rr (fun r=>.tup [Ai r.1,Ab r.2.1,Ai r.2.2]) (fun r=>[]) [] h ?_ u0
 rfl
theorem f189_ok {K:Nat} {a0:Scene} {r:List Int} (h:f189 K a0=some r):CallOK Tryz.prog 189 [.agg (Scene.cl a0)] [] (.lst 1 (r.map icl)) []:=by
 refine Co Tryz.func189 z z (nl z) ?_
 unfold f189 at h
 refine Tr (Qe 1 z (Qn z z z (v:=.hnd 2) (x:=some (.arr 3 1 (([]:List Int).map icl))) (Ax.nil_new 3 1 (.inr z) z) z z z z z (Rx (Ts (Tr (Qe 2 z (Q1 z z z (Ax.ln (cl:=Sight.cl) z slc_27 z) (Qd z ?_))))))))
 obtain⟨vo2_1,hj,h⟩:=bs h
 refine Tri.rngLv hj (fun p=>⟨[(2,.hnd 2),(6,.lst 5 (a0.Sights.map Sight.cl)),(7,Ai (a0.Sights.length:Int)),(8,Ai p.1)],[(2,some (.arr 3 1 (p.2.map icl)))]⟩) (fun(y:List Int)=>⟨[(2,.hnd 2)],[(2,some (.arr 3 1 (y.map icl)))]⟩) (Ee [2] z ⟨im_flat icl_im ([]:List Int),u0⟩) ?_ ?_ ?_
 ·refine Ts (Tn (Ent.norm [] [(20260000,2,.arr 3 1 (vo2_1.map icl))] [(2,.hnd 20260000)] z ⟨⟨_,z,.arr (im_flat icl_im vo2_1)⟩,u0⟩ ⟨.hnd mh,u0⟩) (Tri.region (Qe 1 z ?_)))
  obtain⟨x19,hc,h⟩:=bs h
  refine Qo [(20260000,.arr 3 1 (vo2_1.map icl))] [(20260000,.arr 3 1 (x19.map icl))] [] z z z (args:=[.hnd 20260000]) (r:=.tup []) (calv z z fnok_133 z) (f133_ok hc) ⟨z,u0⟩ z z z z z (Rx (Tr (Qe 1 z ?_)))
  obtain⟨x21,hc_1,h⟩:=bs h
  refine Qo [(20260000,.arr 3 1 (x19.map icl))] [(1355000,.arr 3 1 (x21.map icl))] [1355000] z z z (args:=[.hnd 20260000]) (r:=.hnd 1355000) (calv z z fnok_134 z) (f134_fr hc_1) ⟨z,u0⟩ z z z z z (Qd z (Te ?_))
  refine RetQ.eq2 (fun r=>.lst 1 (r.map icl)) (fun r=>[]) (Option.some.inj h) ?_
  exact RetQ.mk (vs:=[.hnd 1355000]) (.inr z) ⟨_,_,z,.tmp z,z⟩ [1355000] [] z z u0 (.frz (.hnd mh z (im_flat icl_im x21)) z)
 ·rintro v8 vo2 hi h
  refine Tp z (Ts (Tc (b:=(decide (v8 < (a0.Sights.length:Int)))) z (fun hb=>?_) (fun hb=>?_)))
  ·exact(lt_f hi hb).elim
  exact Tri.exit (Xi vo2 (An h (Ee [2] z ⟨imf icl_im,u0⟩)))
 rintro nx x v8 vo2 _ hi hw hx h
 refine Tp z (Ts (Tc (b:=(decide (v8 < (a0.Sights.length:Int)))) z (fun hb_1=>?_) (fun hb_1=>?_)))
 ·refine Tk (Ts (Tri.block (Tr (Q1 z z z (Ax.ix (cl:=Sight.cl) z slc_27 z z hx) (Qe 1 z (Qn z z z (v:=.ptr 4 0) (x:=some (.box (Sight.cl (⟨0,0,0,0,0⟩:Sight)))) (Al_ z z zer_64 z ⟨Sub.refl _,Sub.refl _,Sub.refl _,Sub.refl _,Sub.refl _,u0⟩) z z z z z (Qs z z (x:=some (.box (Sight.cl x))) (As z siz_64 z z z z z z z) (Rx (Tri.region (Qe 3 z (Q1 z z z (v:=.lst 1 (([x.No]:List Int).map icl)) (Ax.sl (xs:=([x.No]:List Int)) z slc_26 z z ⟨Sub.refl _,u0⟩ z icl_len icl_one icl_im) ?_)))))))))))
  obtain⟨z16,hz,h⟩:=bs h
  exact Qa z z z (v:=.hnd 16) (x:=some (.arr 3 1 (z16.map icl))) (Ax.app_l (cl:=icl) z z slc_26 z z z icl_one icl_im hz z z) z z z z z (Qd z (Tq z (Xi (v8+1,z16) (An (An z h) (Es [16] [8] z ⟨imf icl_im,u0⟩ ⟨.imm (Sub.of_eq (show Ai (v8+1)=Ai (W (v8+1)) from congrArg Ai hw.symm)) z,u0⟩)))))
 exact(lt_t hi hb_1).elim
theorem f191_ok {K:Nat} {a0:List Span} {a1:List Span} {r:Bool} (h:f191 K a0 a1=some r):CallOK Tryz.prog 191 [.lst 2 (a0.map Span.cl),.lst 2 (a1.map Span.cl)] [] (Ab r) []:=by
 refine Co Tryz.func191 z z (nl z) ?_
 unfold f191 at h
 refine Tp z (Ts (Tr (Qe 1 z (Q1 z z z (Ax.ln (cl:=Span.cl) z slc_183 z) (Qe 1 z (Q1 z z z (Ax.ln (cl:=Span.cl) z slc_183 z) (Qd z (Tc (b:=((a0.length:Int) != (a1.length:Int))) z (fun hb=>?_) (fun hb=>?_)))))))))
 ·have h:=cq hb h
  refine Tp z (Te ?_)
  exact Rb h z
 have h:=cw hb h
 refine Tk (Ts (Tr (Qe 1 z (Q1 z z z (Ax.ln (cl:=Span.cl) z slc_183 z) (Qd z ?_)))))
 obtain⟨j,hj,h⟩:=jo h
 refine Tri.rngL h (fun p=>⟨[(0,.lst 2 (a0.map Span.cl)),(1,.lst 2 (a1.map Span.cl)),(12,Ai (a0.length:Int)),(13,Ai p.1)],[]⟩) (fun y=>j y=some r) (fun(y:Unit)=>⟨[],[]⟩) (E0 z) ?_ ?_ ?_
 ·rintro⟨⟩ h
  subst hj
  refine Tp z (Te ?_)
  exact Rb h z
 ·rintro v13 ⟨⟩ hi h
  refine Tp z (Ts (Tc (b:=(decide (v13 < (a0.length:Int)))) z (fun hb_1=>?_) (fun hb_1=>?_)))
  ·exact(lt_f hi hb_1).elim
  exact Tri.exit (Xi () (An h (E0 z)))
 rintro nx x v13 ⟨⟩ _ hi hw hx h
 refine Tp z (Ts (Tc (b:=(decide (v13 < (a0.length:Int)))) z (fun hb_2=>?_) (fun hb_2=>?_)))
 ·refine Tk (Ts (Tri.block (Tp z (Ts (Td [] hmix (by kernel_rfl) (Qe 2 z (Q1 z z z (Ax.ix (cl:=Span.cl) z slc_183 z z hx) (Qe 3 z ?_))))))))
  obtain⟨y,hy,h⟩:=bs h
  refine Q1 z z z (Ax.ix (cl:=Span.cl) z slc_183 z z hy) (Qe 1 z (Q1 z z z (v:=Ab (!(decide (x=y)))) (Ax.nes (xs:=[.int .i64 x.Lo,.int .i64 x.Hi]) (ys:=[.int .i64 y.Lo,.int .i64 y.Hi]) (fsp_49 x y) z z z (eqs_49 x y)) (Rx ⟨by kernel_rfl,freshL_of [] (by kernel_rfl) (by kernel_rfl),?_⟩)))
  refine Tc (b:=(!(decide (x=y)))) z (fun hb_3=>?_) (fun hb_3=>?_)
  ·have h:=cq hb_3 h
   refine Tp z (Te ?_)
   exact Rb h z
  have h:=cw hb_3 h
  exact Tk (Tq z (Xi (v13+1,()) (An (An z h) (Es0 [13] z ⟨.imm (Sub.of_eq (show Ai (v13+1)=Ai (W (v13+1)) from congrArg Ai hw.symm)) z,u0⟩))))
 exact(lt_t hi hb_2).elim
theorem f190_ok {K:Nat} {a0:List Int} {a1:Scene} {a2:List Spot_basin} {a3:List Span} {r:Bool} (h:f190 K a0 a1 a2 a3=some r):CallOK Tryz.prog 190 [.lst 1 (a0.map icl),.ipt (Scene.cl a1) 0,.ipt (cl180 a2) 0,.ipt (cl183 a3) 0] [] (Ab r) []:=by
 refine Co Tryz.func190 z z (nl z) ?_
 unfold f190 at h
 refine Tp z (Ts (Td [[],[],[1],[0,1,2],[],[0,1,2,3,4],[0,1,2,3,4,5],[0,1,2,3,4,5,6],[0,1,2,3,4,5,6],[0,1,2,3,4,5,6,7],[0,1,2,3,4,5,6,7,8,9]] hmix (by kernel_rfl) (Qe 2 z ?_)))
 obtain⟨x11,hc,h⟩:=bs h
 refine Qc z z z (args:=[.lst 1 (a0.map icl),Ai (-1)]) (r:=.fn 255 [.ipt (icl x11.1) 0,.ipt (cl26 x11.2) 0]) (calv z z fnok_139 z) (f139_ok hc) z ?_
 obtain⟨x12,hc_1,h⟩:=bs h
 refine Qc z z z (args:=[.agg (Scene.cl a1),.fn 255 [.ipt (icl x11.1) 0,.ipt (cl26 x11.2) 0]]) (r:=.agg (Scene.cl x12)) (calv z z fnok_138 z) (f138_ok fnok_255 z (fun _ _ hr=>f255_ok hr) hc_1) z (Qe 1 z ?_)
 obtain⟨⟨x14_0,x14_1⟩,hc_2,h⟩:=bs h
 refine Qc z z z (args:=[.agg (Scene.cl x12),.lst 2 (a2.map Spot_basin.cl)]) (r:=.tup [.lst 2 (x14_0.map Span.cl),Ai x14_1]) (calv z z fnok_114 z) (f114_ok hc_2) z (Qe 5 z (Rx ⟨by kernel_rfl,freshL_of [] (by kernel_rfl) (by kernel_rfl),?_⟩))
 refine Ts ?_
 obtain⟨v5,hj,h⟩:=bs h
 refine Tri.joinv v5 (fun(y:Bool)=>⟨[(5,Ab y)],[]⟩) ?_ ?_
 ·refine Te ?_
  exact Rb h z
 have h:=hj
 refine Tri.region (Qe 3 z ?_)
 rcases b2 (x14_1==0) with hb | hb
 ·have h:=cq hb h
  refine Qk 19 hb z (Qe 2 z ?_)
  obtain⟨x22,hc_3,h⟩:=bs h
  exact Qc z z z (args:=[.lst 2 (x14_0.map Span.cl),.lst 2 (a3.map Span.cl)]) (r:=Ab x22) (calv z z fnok_191 z) (f191_ok hc_3) z (Qd z (Xi x22 (An h (E0 z))))
 have h:=cw hb h
 exact Qk 19 hb z (Qd z (Xi false (An h (E0 z))))
theorem f81_ok {K:Nat} {a0:Scene} {a1:List Int} {a2:Int} {r:List Int × Int} (h:f81 K a0 a1 a2=some r):CallOK Tryz.prog 81 [.agg (Scene.cl a0),.lst 1 (a1.map icl),Ai a2] [] (.tup [.lst 1 (r.1.map icl),Ai r.2]) []:=by
 refine Co Tryz.func81 z z (nl z) ?_
 unfold f81 at h
 refine Tr (Qe 1 z (Q1 z z z (v:=.lst 1 (([]:List Int).map icl)) (Ax.nl 1 z z) (Qd z (Tr (Qe 3 z ?_)))))
 obtain⟨⟨x15_0,x15_1⟩,hc,h⟩:=bs h
 refine Qc z z z (args:=[.agg (Scene.cl a0),.lst 1 (a1.map icl),Ai a2]) (r:=.tup [.lst 2 (x15_0.map Spot_basin.cl),Ai x15_1]) (calv z z fnok_113 z) (f113_ok hc) z (Qe 3 z (Qn z z z (v:=.ptr 8 0) (x:=some (.box (cl180 ([]:List Spot_basin)))) (Al_ z z zer_180 z ⟨Sub.nil _,u0⟩) z z z z z (Qs z z (x:=some (.box (cl180 x15_0))) (As z siz_180 z z z z z z z) (Qd z (Ts (Tp z (Tc (b:=(x15_1 != 0)) z (fun hb=>?_) (fun hb=>?_))))))))
 ·have h:=cq hb h
  refine Tr (Qe 1 z (Q1 z z z (v:=.lst 1 (([]:List Int).map icl)) (Ax.nl 1 z z) (Qd z (Te ?_))))
  refine Rr (fun r=>.tup [.lst 1 (r.1.map icl),Ai r.2]) (fun r=>[]) [] h ?_ u0
  rfl
 have h:=cw hb h
 refine Tk (Tr (Qe 2 z ?_))
 obtain⟨⟨x24_0,x24_1⟩,hc_1,h⟩:=bs h
 refine Qc z z z (args:=[.agg (Scene.cl a0),.lst 2 (x15_0.map Spot_basin.cl)]) (r:=.tup [.lst 2 (x24_0.map Span.cl),Ai x24_1]) (calv z z fnok_114 z) (f114_ok hc_1) z (Qe 3 z (Qn z z z (v:=.ptr 10 0) (x:=some (.box (cl183 ([]:List Span)))) (Al_ z z zer_183 z ⟨Sub.nil _,u0⟩) z z z z z (Qs z z (x:=some (.box (cl183 x24_0))) (As z siz_183 z z z z z z z) (Qd z (Ts (Tp z (Tc (b:=(x24_1 != 0)) z (fun hb_1=>?_) (fun hb_1=>?_))))))))
 ·have h:=cq hb_1 h
  refine Tr (Qe 1 z (Q1 z z z (v:=.lst 1 (([]:List Int).map icl)) (Ax.nl 1 z z) (Qd z (Te ?_))))
  refine Rr (fun r=>.tup [.lst 1 (r.1.map icl),Ai r.2]) (fun r=>[]) [] h ?_ u0
  rfl
 have h:=cw hb_1 h
 refine Tk (Ts (Tn (Ent.norm [8,10] [] [(3,.ipt (Scene.cl a0) 0),(8,.ipt (cl180 x15_0) 0),(10,.ipt (cl183 x24_0) 0)] z u0 ⟨.rfl' z,.frz (.ptrV mh z ⟨(.imm z),u0⟩) z,.frz (.ptrV (mt mh) z ⟨(.imm z),u0⟩) z,u0⟩) (Tri.region (Qe 1 z ?_))))
 obtain⟨x31,hc_2,h⟩:=bs h
 refine Qc z z z (args:=[.agg (Scene.cl a0)]) (r:=.lst 1 (x31.map icl)) (calv z z fnok_189 z) (f189_ok hc_2) z (Q1 z z z (v:=.fn 190 [.ipt (Scene.cl a0) 0,.ipt (cl180 x15_0) 0,.ipt (cl183 x24_0) 0]) (Ax.func z z) ?_)
 obtain⟨x33,hc_3,h⟩:=bs h
 refine Qc z z z (args:=[.lst 1 (x31.map icl),.fn 190 [.ipt (Scene.cl a0) 0,.ipt (cl180 x15_0) 0,.ipt (cl183 x24_0) 0]]) (r:=.lst 1 (x33.map icl)) (calv z z fnok_135 z) (f135_ok fnok_190 z (fun _ _ hr=>f190_ok hr) hc_3) z (Qd z (Te ?_))
 refine Rr (fun r=>.tup [.lst 1 (r.1.map icl),Ai r.2]) (fun r=>[]) [] h ?_ u0
 rfl
theorem f201_ok {K:Nat} {a0:Laid_basin} {a1:Reason} {r:Int} (h:f201 K a0 a1=some r):CallOK Tryz.prog 201 [.ipt (Laid_basin.cl a0) 0,.agg (Reason.cl a1)] [] (Ai r) []:=by
 refine Co Tryz.func201 z z (nl z) ?_
 unfold f201 at h
 refine Tp z (Ts (Tr (Qe 1 z (Q1 z z z (Ax.nil_ipt z z) (Qe 2 z (Q1 z z z (Ax.ln (cl:=Reason.cl) z slc_35 z) (Qd z ?_)))))))
 obtain⟨j,hj,h⟩:=jo h
 refine Tri.rngL h (fun p=>⟨[(0,.ipt (Laid_basin.cl a0) 0),(3,.ipt (Reason.cl a1) 0),(10,Ai (a0.reasons.length:Int)),(11,Ai p.1)],[]⟩) (fun y=>j y=some r) (fun(y:Unit)=>⟨[],[]⟩) (E0 z) ?_ ?_ ?_
 ·rintro⟨⟩ h
  subst hj
  refine Tp z (Te ?_)
  exact Ri h z
 ·rintro v11 ⟨⟩ hi h
  refine Tp z (Ts (Tc (b:=(decide (v11 < (a0.reasons.length:Int)))) z (fun hb=>?_) (fun hb=>?_)))
  ·exact(lt_f hi hb).elim
  exact Tri.exit (Xi () (An h (E0 z)))
 rintro nx x v11 ⟨⟩ _ hi hw hx h
 refine Tp z (Ts (Tc (b:=(decide (v11 < (a0.reasons.length:Int)))) z (fun hb_1=>?_) (fun hb_1=>?_)))
 ·refine Tk (Ts (Tri.block (Tp z (Ts (Td [] hmix (by kernel_rfl) (Qe 1 z (Q1 z z z (Ax.nil_ipt z z) (Qe 3 z (Q1 z z z (Ax.ix (cl:=Reason.cl) z slc_35 z z hx) (Qe 2 z (Q1 z z z (v:=Ab (decide (x=a1))) (Ax.eqs (xs:=[.int .i64 x.Kind,.int .i64 x.Index,.int .i64 x.Day,.bool x.Upper]) (ys:=[.int .i64 a1.Kind,.int .i64 a1.Index,.int .i64 a1.Day,.bool a1.Upper]) (fsp_42 x a1) z z z (eqs_42 x a1)) (Rx ⟨by kernel_rfl,freshL_of [] (by kernel_rfl) (by kernel_rfl),?_⟩))))))))))))
  refine Tc (b:=(decide (x=a1))) z (fun hb_2=>?_) (fun hb_2=>?_)
  ·have h:=cq hb_2 h
   refine Tp z (Te ?_)
   exact Ri h z
  have h:=cw hb_2 h
  exact Tk (Tq z (Xi (v11+1,()) (An (An z h) (Es0 [11] z ⟨.imm (Sub.of_eq (show Ai (v11+1)=Ai (W (v11+1)) from congrArg Ai hw.symm)) z,u0⟩))))
 exact(lt_t hi hb_1).elim
theorem f203_ok {K:Nat} {a0:Int} {r:Int} (h:f203 K a0=some r):CallOK Tryz.prog 203 [Ai a0] [] (Ai r) []:=by
 refine Co Tryz.func203 z z (nl z) ?_
 unfold f203 at h
 refine Tp z (Tr (Qe 1 z (Q1 z z z (v:=Ai (if (-1152921504606846976) > a0 then (-1152921504606846976) else a0)) (Ax.max z z z) (Q1 z z z (v:=Ai (if 1152921504606846976 < (if (-1152921504606846976) > a0 then (-1152921504606846976) else a0) then 1152921504606846976 else (if (-1152921504606846976) > a0 then (-1152921504606846976) else a0))) (Ax.min z z z) (Qd z (Te ?_))))))
 exact Ri h z
theorem f333_ok {K:Nat} {a0:Int} {a1:Net} {r:Bool} (h:f333 K a0 a1=some r):CallOK Tryz.prog 333 [Ai a0,.ipt (Net.cl a1) 0] [] (Ab r) []:=by
 refine Co Tryz.func333 z z (nl z) ?_
 unfold f333 at h
 refine Tp z (Tr (Qe 3 z (Q1 z z z (Ax.ln (cl:=Diff.cl) z slc_32 z) (Qe 1 z ?_))))
 obtain⟨x9,hc,h⟩:=bs h
 refine Qc z z z (args:=[Ai a0,Ai 0,Ai (W ((a1.Diffs.length:Int) - 1))]) (r:=Ab x9) (calv z z fnok_282 z) (f282_ok hc) z (Qd z (Te ?_))
 exact Rb h z
theorem f283_ok {K:Nat} {a0:Net} {a1:List Int} {r:Bool} (h:f283 K a0 a1=some r):CallOK Tryz.prog 283 [.agg (Net.cl a0),.lst 1 (a1.map icl)] [] (Ab r) []:=by
 refine Co Tryz.func283 z z (nl z) ?_
 unfold f283 at h
 refine Tp z (Tr (Qe 1 z (Q1 z z z (v:=.fn 333 [.ipt (Net.cl a0) 0]) (Ax.func z z) ?_)))
 obtain⟨x7,hc,h⟩:=bs h
 refine Qc z z z (args:=[.lst 1 (a1.map icl),.fn 333 [.ipt (Net.cl a0) 0]]) (r:=Ab x7) (calv z z fnok_292 z) (f292_ok fnok_333 z (fun _ _ hr=>f333_ok hr) hc) z (Qd z (Te ?_))
 exact Rb h z
theorem f284_ok {K:Nat} {a0:Net} {a1:Int} {a2:Int} {a3:List Int} {r:Int × Bool} (h:f284 K a0 a1 a2 a3=some r):CallOK Tryz.prog 284 [.agg (Net.cl a0),Ai a1,Ai a2,.lst 1 (a3.map icl)] [] (.tup [Ai r.1,Ab r.2]) []:=by
 refine Co Tryz.func284 z z (nl z) ?_
 unfold f284 at h
 refine Tp z (Tp z (Ts (Tr (Qe 1 z (Q1 z z z (Ax.ln (cl:=icl) z slc_26 z) (Qd z ?_))))))
 obtain⟨j,hj,h⟩:=jo h
 refine Tri.rngL h (fun p=>⟨[(1,Ai p.2.1),(2,Ai a2),(4,.ipt (Net.cl a0) 0),(10,Ai p.2.2),(14,.lst 1 (a3.map icl)),(15,Ai (a3.length:Int)),(16,Ai p.1)],[]⟩) (fun y=>j y=some r) (fun(y:Int × Int)=>⟨[(1,Ai y.1),(2,Ai a2),(10,Ai y.2)],[]⟩) (E0 z) ?_ ?_ ?_
 ·rintro⟨v1_1,v10_1⟩ h
  subst hj
  refine Tp z (Te ?_)
  refine Rr (fun r=>.tup [Ai r.1,Ab r.2]) (fun r=>[]) [] h ?_ u0
  rfl
 ·rintro v16 ⟨v1,v10⟩ hi h
  refine Tp z (Ts (Tc (b:=(decide (v16 < (a3.length:Int)))) z (fun hb=>?_) (fun hb=>?_)))
  ·exact(lt_f hi hb).elim
  exact Tri.exit (Xi (v1,v10) (An h (E0 z)))
 rintro nx x v16 ⟨v1,v10⟩ _ hi hw hx h
 refine Tp z (Ts (Tc (b:=(decide (v16 < (a3.length:Int)))) z (fun hb_1=>?_) (fun hb_1=>?_)))
 ·refine Tk (Ts (Tri.block (Tr (Q1 z z z (Ax.ix (cl:=icl) z slc_26 z z hx) (Qd z (Tr (Qe 3 z ?_)))))))
  obtain⟨y,hy,h⟩:=bs h
  refine Q1 z z z (Ax.ix (cl:=Diff.cl) z slc_32 z z hy) (Qe 1 z (Qn z z z (v:=.ptr 13 0) (x:=some (.box (Diff.cl (⟨0,0,0⟩:Diff)))) (Al_ z z zer_174 z ⟨Sub.refl _,Sub.refl _,Sub.refl _,u0⟩) z z z z z (Qs z z (x:=some (.box (Diff.cl y))) (As z siz_174 z z z z z z z) (Rx (Ts (Tp z (Tc (b:=(y.From != v1)) z (fun hb_2=>?_) (fun hb_2=>?_))))))))
  ·have h:=cq hb_2 h
   refine Tp z (Te ?_)
   refine Rr (fun r=>.tup [Ai r.1,Ab r.2]) (fun r=>[]) [] h ?_ u0
   rfl
  have h:=cw hb_2 h
  exact Tk (Tp z (Tq z (Tq z (Xi (v16+1,(y.To,(W (v10+y.Most)))) (An (An z h) (Es0 [16] z ⟨.imm (Sub.of_eq (show Ai (v16+1)=Ai (W (v16+1)) from congrArg Ai hw.symm)) z,u0⟩))))))
 exact(lt_t hi hb_1).elim
theorem f204_ok {K:Nat} {a0:Net} {a1:Int} {a2:Int} {a3:Int} {a4:List Int} {r:Int} (h:f204 K a0 a1 a2 a3 a4=some r):CallOK Tryz.prog 204 [.agg (Net.cl a0),Ai a1,Ai a2,Ai a3,.lst 1 (a4.map icl)] [] (Ai r) []:=by
 refine Co Tryz.func204 z z (nl z) ?_
 unfold f204 at h
 refine Tp z (Ts (Ts (Td [[],[],[],[2],[2,3],[1,2,3,4],[],[],[7],[7,8],[1,2,3,4,5,6,7,8,9],[],[],[1,2,3,4,5,6,7,8,9,10,11,12],[1,2,3,4,5,6,7,8,9,10,11,12,13],[0,1,2,3,4,5,6,7,8,9,10,11,12,13,14],[0,1,2,3,4,5,6,7,8,9,10,11,12,13,14,15]] hmix (by kernel_rfl) (Qe 5 z ?_))))
 obtain⟨x19,hc,h⟩:=bs h
 refine Qc z z z (args:=[Ai a1,Ai 0,Ai (W (a0.Nodes - 1))]) (r:=Ab x19) (calv z z fnok_282 z) (f282_ok hc) z (Qe 4 z ?_)
 obtain⟨x24,hc_1,h⟩:=bs h
 refine Qc z z z (args:=[Ai a2,Ai 0,Ai (W (a0.Nodes - 1))]) (r:=Ab x24) (calv z z fnok_282 z) (f282_ok hc_1) z (Qe 2 z ?_)
 obtain⟨x27,hc_2,h⟩:=bs h
 refine Qc z z z (args:=[.agg (Net.cl a0),.lst 1 (a4.map icl)]) (r:=Ab x27) (calv z z fnok_283 z) (f283_ok hc_2) z (Q1 z z z (v:=.lst 1 (([x19,x24,x27]:List Bool).map bcl)) (Ax.sl (xs:=([x19,x24,x27]:List Bool)) z slc_191 z z ⟨Sub.refl _,Sub.refl _,Sub.refl _,u0⟩ z bcl_len bcl_one bcl_im) ?_)
 obtain⟨x29,hc_3,h⟩:=bs h
 refine Qc z z z (args:=[.agg (Net.cl a0),.lst 1 (([x19,x24,x27]:List Bool).map bcl)]) (r:=Ai x29) (calv z z fnok_223 z) (f223_ok hc_3) z (Qe 1 z (Rx ⟨by kernel_rfl,freshL_of [] (by kernel_rfl) (by kernel_rfl),?_⟩))
 refine Tp z (Tc (b:=(x29 != 0)) z (fun hb=>?_) (fun hb=>?_))
 ·have h:=cq hb h
  refine Tp z (Te ?_)
  exact Ri h z
 have h:=cw hb h
 refine Tk (Ts (Tr (Qe 4 z ?_)))
 obtain⟨⟨x38_0,x38_1⟩,hc_4,h⟩:=bs h
 refine Qc z z z (args:=[.agg (Net.cl a0),Ai a1,Ai a2,.lst 1 (a4.map icl)]) (r:=.tup [Ai x38_0,Ab x38_1]) (calv z z fnok_284 z) (f284_ok hc_4) z (Qd z (Ts (Tri.join1 ⟨[(55,Ab ((!x38_1)||((decide ((a4.length:Int) > (W (a0.Nodes - 1))))||(decide (x38_0 > a3)))))],[]⟩ ?_ ?_)))
 ·refine Tc (b:=((!x38_1)||((decide ((a4.length:Int) > (W (a0.Nodes - 1))))||(decide (x38_0 > a3))))) z (fun hb_1=>?_) (fun hb_1=>?_)
  ·have h:=cq hb_1 h
   refine Tp z (Te ?_)
   exact Ri h z
  have h:=cw hb_1 h
  refine Tk (Tp z (Te ?_))
  exact Ri h z
 refine Tri.region (Qe 3 z ?_)
 rcases b2 (!x38_1) with hb_2 | hb_2
 ·exact Qk 43 hb_2 z (Qd z ((Es0 [55] z ⟨.imm (Sub.of_eq (show Ab ((!x38_1)||((decide ((a4.length:Int) > (W (a0.Nodes - 1))))||(decide (x38_0 > a3))))=Ab true by simp only [cond_true,cond_false,Bool.true_or,Bool.false_or,Bool.true_and,Bool.false_and,Bool.or_true,Bool.or_false,Bool.and_true,Bool.and_false,hb,hb_2])) z,u0⟩)))
 refine Qk 43 hb_2 z (Qe 1 z (Q1 z z z (Ax.ln (cl:=icl) z slc_26 z) (Qe 6 z ?_)))
 rcases b2 (decide ((a4.length:Int) > (W (a0.Nodes - 1)))) with hb_3 | hb_3
 ·exact Qk 51 hb_3 z (Qd z ((Es0 [55] z ⟨.imm (Sub.of_eq (show Ab ((!x38_1)||((decide ((a4.length:Int) > (W (a0.Nodes - 1))))||(decide (x38_0 > a3))))=Ab true by simp only [cond_true,cond_false,Bool.true_or,Bool.false_or,Bool.true_and,Bool.false_and,Bool.or_true,Bool.or_false,Bool.and_true,Bool.and_false,hb,hb_2,hb_3])) z,u0⟩)))
 exact Qk 51 hb_3 z (Qd z ((Es0 [55] z ⟨.imm (Sub.of_eq (show Ab ((!x38_1)||((decide ((a4.length:Int) > (W (a0.Nodes - 1))))||(decide (x38_0 > a3))))=Ab (decide (x38_0 > a3)) by simp only [cond_true,cond_false,Bool.true_or,Bool.false_or,Bool.true_and,Bool.false_and,Bool.or_true,Bool.or_false,Bool.and_true,Bool.and_false,hb,hb_2,hb_3])) z,u0⟩)))
theorem f91_ok {K:Nat} {a0:Scene} {a1:Int} {a2:Int} {a3:Int} {a4:Bool} {a5:List Reason} {r:Int} (h:f91 K a0 a1 a2 a3 a4 a5=some r):CallOK Tryz.prog 91 [.agg (Scene.cl a0),Ai a1,Ai a2,Ai a3,Ab a4,.lst 4 (a5.map Reason.cl)] [] (Ai r) []:=by
 refine Co Tryz.func91 z z (nl z) ?_
 unfold f91 at h
 refine Tp z (Tr (Qe 2 z (Q1 z z z (v:=.lst 1 (([a1]:List Int).map icl)) (Ax.sl (xs:=([a1]:List Int)) z slc_26 z z ⟨Sub.refl _,u0⟩ z icl_len icl_one icl_im) (Qe 1 z ?_))))
 obtain⟨⟨x27_0,x27_1⟩,hc,h⟩:=bs h
 refine Qc z z z (args:=[.agg (Scene.cl a0),.lst 1 (([a1]:List Int).map icl),Ai a2]) (r:=.tup [.lst 2 (x27_0.map Spot_basin.cl),Ai x27_1]) (calv z z fnok_113 z) (f113_ok hc) z (Qd z (Ts (Tp z (Tc (b:=(x27_1 != 0)) z (fun hb=>?_) (fun hb=>?_)))))
 ·have h:=cq hb h
  refine Tp z (Te ?_)
  exact Ri h z
 have h:=cw hb h
 refine Tk (Tr (Qe 1 z ?_))
 obtain⟨x34,hc_1,h⟩:=bs h
 refine Qc z z z (args:=[.agg (Scene.cl a0)]) (r:=.ipt (Laid_basin.cl x34) 0) (calv z z fnok_102 z) (f102_ok hc_1) z (Qd z (Ts (Tr (Qe 1 z (Q1 z z z (Ax.ln (cl:=Reason.cl) z slc_35 z) (Qe 1 z (Q1 z z z (Ax.nil_ipt z z) (Qd z (Tc (b:=(decide ((a5.length:Int)≥x34.net.Nodes))) z (fun hb_1=>?_) (fun hb_1=>?_))))))))))
 ·have h:=cq hb_1 h
  refine Tp z (Te ?_)
  exact Ri h z
 have h:=cw hb_1 h
 refine Tk (Tr (Qn z z z (v:=.hnd 16) (x:=some (.arr 3 1 (([]:List Int).map icl))) (Ax.nil_new 3 1 (.inr z) z) z z z z z (Rx (Ts (Tr (Qe 1 z (Q1 z z z (Ax.ln (cl:=Reason.cl) z slc_35 z) (Qd z ?_))))))))
 obtain⟨j,hj,h⟩:=jo h
 refine Tri.rngL h (fun p=>⟨[(3,Ai a3),(4,Ab a4),(13,.lst 2 (x27_0.map Spot_basin.cl)),(15,.ipt (Laid_basin.cl x34) 0),(16,.hnd 16),(43,.lst 4 (a5.map Reason.cl)),(44,Ai (a5.length:Int)),(45,Ai p.1)],[(16,some (.arr 3 1 (p.2.map icl)))]⟩) (fun y=>j y=some r) (fun(y:List Int)=>⟨[(3,Ai a3),(4,Ab a4),(13,.lst 2 (x27_0.map Spot_basin.cl)),(15,.ipt (Laid_basin.cl x34) 0),(16,.hnd 16)],[(16,some (.arr 3 1 (y.map icl)))]⟩) (Ee [16] z ⟨im_flat icl_im ([]:List Int),u0⟩) ?_ ?_ ?_
 ·rintro vo16_1 h
  subst hj
  refine Ts (Td [[],[],[1],[1,2],[1,2,3],[],[5],[5,6],[5,6,7],[0,1,2,3,4,5,6,7,8],[0,1,2,3,4,5,6,7,8,9],[0,1,2,3,4,5,6,7,8,9,10]] hmix (by kernel_rfl) (Qe 2 z ?_))
  obtain⟨y,hy,h⟩:=bs h
  refine Q1 z z z (Ax.ix (cl:=Spot_basin.cl) z slc_180 z z hy) (Qe 3 z (Q1 z z z (Ax.ix (cl:=Spot_basin.cl) z slc_180 z z hy) (Qe 2 z ?_)))
  obtain⟨x68,hc_2,h⟩:=bs h
  refine Qc z z z (args:=[.ipt (Laid_basin.cl x34) 0,Ai y.cell,Ai y.day]) (r:=Ai x68) (calv z z fnok_202 z) (f202_ok hc_2) z (Qe 2 z (Rx ⟨by kernel_rfl,freshL_of [] (by kernel_rfl) (by kernel_rfl),?_⟩))
  refine Ts (Tp z ?_)
  obtain⟨⟨v3,v20,v21⟩,hj_1,h⟩:=bs h
  refine Tri.joinv (v3,v20,v21) (fun(y:Int × Int × Int)=>⟨[(3,Ai y.1),(15,.ipt (Laid_basin.cl x34) 0),(16,.hnd 16),(20,Ai y.2.1),(21,Ai y.2.2)],[(16,some (.arr 3 1 (vo16_1.map icl)))]⟩) ?_ ?_
  ·refine Tr (Qe 1 z (Q1 z z z (Ax.nil_ipt z z) (Qe 6 z ?_)))
   obtain⟨x83,hc_3,h⟩:=bs h
   refine Ql [16] z z z (args:=[.agg (Net.cl x34.net),Ai v20,Ai v21,Ai v3,.hnd 16]) (args':=[.agg (Net.cl x34.net),Ai v20,Ai v21,Ai v3,.lst 1 (vo16_1.map icl)]) (r:=Ai x83) (calv z z fnok_204 z) ⟨.im z,.imm z,.imm z,.imm z,.hnd mh z (im_flat icl_im vo16_1),u0⟩ (f204_ok hc_3) z z (Qd z (Te ?_))
   exact Ri h z
  have h:=hj_1
  refine Tc (b:=(!a4)) z (fun hb_2=>?_) (fun hb_2=>?_)
  ·have h:=cq hb_2 h
   refine Tri.region (Qe 3 z ?_)
   obtain⟨x74,hc_4,h⟩:=bs h
   exact Qc z z z (args:=[Ai a3]) (r:=Ai x74) (calv z z fnok_203 z) (f203_ok hc_4) z (Qd z (Xi (x74,x68,0) (An h (Ee [16] z ⟨imf icl_im,u0⟩))))
  have h:=cw hb_2 h
  exact Tk (Xi (a3,0,x68) (An h (Ee [16] z ⟨imf icl_im,u0⟩)))
 ·rintro v45 vo16 hi h
  refine Tp z (Ts (Tc (b:=(decide (v45 < (a5.length:Int)))) z (fun hb_3=>?_) (fun hb_3=>?_)))
  ·exact(lt_f hi hb_3).elim
  exact Tri.exit (Xi vo16 (An h (Ee [16] z ⟨imf icl_im,u0⟩)))
 rintro nx x v45 vo16 _ hi hw hx h
 refine Tp z (Ts (Tc (b:=(decide (v45 < (a5.length:Int)))) z (fun hb_4=>?_) (fun hb_4=>?_)))
 ·refine Tk (Ts (Tri.block (Tr (Q1 z z z (Ax.ix (cl:=Reason.cl) z slc_35 z z hx) (Qe 1 z (Qn z z z (v:=.ptr 18 0) (x:=some (.box (Reason.cl (⟨0,0,0,false⟩:Reason)))) (Al_ z z zer_42 z ⟨Sub.refl _,Sub.refl _,Sub.refl _,Sub.refl _,u0⟩) z z z z z (Qs z z (x:=some (.box (Reason.cl x))) (As z siz_42 z z z z z z z) (Rx (Tr (Qe 2 z ?_))))))))))
  obtain⟨x51,hc_5,h⟩:=bs h
  refine Qc z z z (args:=[.ipt (Laid_basin.cl x34) 0,.agg (Reason.cl x)]) (r:=Ai x51) (calv z z fnok_201 z) (f201_ok hc_5) z (Qd z (Ts (Tp z (Tc (b:=(decide (x51 < 0))) z (fun hb_5=>?_) (fun hb_5=>?_)))))
  ·have h:=cq hb_5 h
   refine Tp z (Te ?_)
   exact Ri h z
  have h:=cw hb_5 h
  refine Tk (Tri.region (Qe 2 z (Q1 z z z (v:=.lst 1 (([x51]:List Int).map icl)) (Ax.sl (xs:=([x51]:List Int)) z slc_26 z z ⟨Sub.refl _,u0⟩ z icl_len icl_one icl_im) ?_)))
  obtain⟨z57,hz,h⟩:=bs h
  exact Qa z z z (v:=.hnd 57) (x:=some (.arr 3 1 (z57.map icl))) (Ax.app_l (cl:=icl) z z slc_26 z z z icl_one icl_im hz z z) z z z z z (Qd z (Tq z (Xi (v45+1,z57) (An (An z h) (Es [57] [45] z ⟨imf icl_im,u0⟩ ⟨.imm (Sub.of_eq (show Ai (v45+1)=Ai (W (v45+1)) from congrArg Ai hw.symm)) z,u0⟩)))))
 exact(lt_t hi hb_4).elim
theorem f100_ok {K:Nat} {r:Scene} (h:f100 K =some r):CallOK Tryz.prog 100 [] [] (.agg (Scene.cl r)) []:=by
 refine Co Tryz.func100 z z (nl z) ?_
 unfold f100 at h
 refine Tr (Qn z z z (v:=.ptr 0 0) (x:=some (.box (Scene.cl (⟨(⟨([]:List Cell),([]:List Arr2_3),0,0,0⟩:Basin),([]:List Int),([]:List Sight),([]:List Change)⟩:Scene)))) (Al_ z z zer_30 z ⟨Sub.nil _,Sub.nil _,Sub.refl _,Sub.refl _,Sub.refl _,Sub.nil _,Sub.nil _,Sub.nil _,u0⟩) z z z z z (Rx (Tr (Q1 z z z (v:=.agg (Cell.cl (⟨1,1000,0,10⟩:Cell))) (Ab_ z zer_56 (bld plc_56 zer_56) z ⟨Sub.refl _,Sub.refl _,Sub.refl _,Sub.refl _,u0⟩) (Q1 z z z (v:=.agg (Cell.cl (⟨2,1200,1,20⟩:Cell))) (Ab_ z zer_56 (bld plc_56 zer_56) z ⟨Sub.refl _,Sub.refl _,Sub.refl _,Sub.refl _,u0⟩) (Q1 z z z (v:=.lst 4 (([(⟨1,1000,0,10⟩:Cell),(⟨2,1200,1,20⟩:Cell)]:List Cell).map Cell.cl)) (Ax.sl (xs:=([(⟨1,1000,0,10⟩:Cell),(⟨2,1200,1,20⟩:Cell)]:List Cell)) z slc_22 z z ⟨Sub.refl _,Sub.refl _,Sub.refl _,Sub.refl _,Sub.refl _,Sub.refl _,Sub.refl _,Sub.refl _,u0⟩ z Cell_len Cell_one Cell_im) (Q1 z z z (v:=.agg (Arr2_3.cl (⟨0,1⟩:Arr2_3))) (Ab_ z zer_97 (blda pla_97 zer_97) z ⟨Sub.refl _,Sub.refl _,u0⟩) (Q1 z z z (v:=.lst 2 (([(⟨0,1⟩:Arr2_3)]:List Arr2_3).map Arr2_3.cl)) (Ax.sl (xs:=([(⟨0,1⟩:Arr2_3)]:List Arr2_3)) z slc_23 z z ⟨Sub.refl _,Sub.refl _,u0⟩ z Arr2_3_len Arr2_3_one Arr2_3_im) (Q1 z z z (v:=.agg (Basin.cl (⟨([(⟨1,1000,0,10⟩:Cell),(⟨2,1200,1,20⟩:Cell)]:List Cell),([(⟨0,1⟩:Arr2_3)]:List Arr2_3),50,30,900⟩:Basin))) (Ab_ z zer_25 (bld plc_25 zer_25) z ⟨Sub.refl _,Sub.refl _,Sub.refl _,Sub.refl _,Sub.refl _,u0⟩) (Qn z z z (v:=.ptr 1 0) (x:=some (.box (Basin.cl (⟨([]:List Cell),([]:List Arr2_3),0,0,0⟩:Basin)))) (Al_ z z zer_25 z ⟨Sub.nil _,Sub.nil _,Sub.refl _,Sub.refl _,Sub.refl _,u0⟩) z z z z z (Qs z z (x:=some (.box (Basin.cl (⟨([(⟨1,1000,0,10⟩:Cell),(⟨2,1200,1,20⟩:Cell)]:List Cell),([(⟨0,1⟩:Arr2_3)]:List Arr2_3),50,30,900⟩:Basin)))) (As z siz_25 z z z z z z z) (Rx ?_))))))))))))
 refine Tr (Qe 1 z (Q1 z z z (v:=.lst 1 (([5]:List Int).map icl)) (Ax.sl (xs:=([5]:List Int)) z slc_26 z z ⟨Sub.refl _,u0⟩ z icl_len icl_one icl_im) (Q1 z z z (v:=.agg (Sight.cl (⟨7,1,5,200,210⟩:Sight))) (Ab_ z zer_64 (bld plc_64 zer_64) z ⟨Sub.refl _,Sub.refl _,Sub.refl _,Sub.refl _,Sub.refl _,u0⟩) (Q1 z z z (v:=.lst 5 (([(⟨7,1,5,200,210⟩:Sight)]:List Sight).map Sight.cl)) (Ax.sl (xs:=([(⟨7,1,5,200,210⟩:Sight)]:List Sight)) z slc_27 z z ⟨Sub.refl _,Sub.refl _,Sub.refl _,Sub.refl _,Sub.refl _,u0⟩ z Sight_len Sight_one Sight_im) (Q1 z z z (v:=.agg (Scene.cl (⟨(⟨([(⟨1,1000,0,10⟩:Cell),(⟨2,1200,1,20⟩:Cell)]:List Cell),([(⟨0,1⟩:Arr2_3)]:List Arr2_3),50,30,900⟩:Basin),([5]:List Int),([(⟨7,1,5,200,210⟩:Sight)]:List Sight),([]:List Change)⟩:Scene))) (Ab_ z zer_30 (bld plc_30 zer_30) z ⟨Sub.refl _,Sub.refl _,Sub.refl _,Sub.refl _,Sub.refl _,Sub.refl _,Sub.refl _,Sub.nil _,u0⟩) (Qs z z (x:=some (.box (Scene.cl (⟨(⟨([(⟨1,1000,0,10⟩:Cell),(⟨2,1200,1,20⟩:Cell)]:List Cell),([(⟨0,1⟩:Arr2_3)]:List Arr2_3),50,30,900⟩:Basin),([5]:List Int),([(⟨7,1,5,200,210⟩:Sight)]:List Sight),([]:List Change)⟩:Scene)))) (As z siz_30 z z z z z z z) (Rx (Te ?_))))))))
 refine Rr (fun r=>.agg (Scene.cl r)) (fun r=>[]) [] h ?_ u0
 rfl
theorem f101_ok {K:Nat} {a0:List Int} {a1:List Int} {r:Bool} (h:f101 K a0 a1=some r):CallOK Tryz.prog 101 [.lst 1 (a0.map icl),.lst 1 (a1.map icl)] [] (Ab r) []:=by
 refine Co Tryz.func101 z z (nl z) ?_
 unfold f101 at h
 refine Tp z (Ts (Tr (Qe 1 z (Q1 z z z (Ax.ln (cl:=icl) z slc_26 z) (Qe 1 z (Q1 z z z (Ax.ln (cl:=icl) z slc_26 z) (Qd z (Tc (b:=((a0.length:Int) != (a1.length:Int))) z (fun hb=>?_) (fun hb=>?_)))))))))
 ·have h:=cq hb h
  refine Tp z (Te ?_)
  exact Rb h z
 have h:=cw hb h
 refine Tk (Ts (Tr (Qe 1 z (Q1 z z z (Ax.ln (cl:=icl) z slc_26 z) (Qd z ?_)))))
 obtain⟨j,hj,h⟩:=jo h
 refine Tri.rngL h (fun p=>⟨[(0,.lst 1 (a0.map icl)),(1,.lst 1 (a1.map icl)),(12,Ai (a0.length:Int)),(13,Ai p.1)],[]⟩) (fun y=>j y=some r) (fun(y:Unit)=>⟨[],[]⟩) (E0 z) ?_ ?_ ?_
 ·rintro⟨⟩ h
  subst hj
  refine Tp z (Te ?_)
  exact Rb h z
 ·rintro v13 ⟨⟩ hi h
  refine Tp z (Ts (Tc (b:=(decide (v13 < (a0.length:Int)))) z (fun hb_1=>?_) (fun hb_1=>?_)))
  ·exact(lt_f hi hb_1).elim
  exact Tri.exit (Xi () (An h (E0 z)))
 rintro nx x v13 ⟨⟩ _ hi hw hx h
 refine Tp z (Ts (Tc (b:=(decide (v13 < (a0.length:Int)))) z (fun hb_2=>?_) (fun hb_2=>?_)))
 ·refine Tk (Ts (Tri.block (Tp z (Ts (Td [] hmix (by kernel_rfl) (Qe 2 z (Q1 z z z (Ax.ix (cl:=icl) z slc_26 z z hx) (Qe 3 z ?_))))))))
  obtain⟨y,hy,h⟩:=bs h
  refine Q1 z z z (Ax.ix (cl:=icl) z slc_26 z z hy) (Qe 2 z (Rx ⟨by kernel_rfl,freshL_of [] (by kernel_rfl) (by kernel_rfl),?_⟩))
  refine Tc (b:=(x != y)) z (fun hb_3=>?_) (fun hb_3=>?_)
  ·have h:=cq hb_3 h
   refine Tp z (Te ?_)
   exact Rb h z
  have h:=cw hb_3 h
  exact Tk (Tq z (Xi (v13+1,()) (An (An z h) (Es0 [13] z ⟨.imm (Sub.of_eq (show Ai (v13+1)=Ai (W (v13+1)) from congrArg Ai hw.symm)) z,u0⟩))))
 exact(lt_t hi hb_2).elim
theorem f21_ok {K:Nat} {r:Bool} (h:f21 K =some r):CallOK Tryz.prog 21 [] [] (Ab r) []:=by
 refine Co Tryz.func21 z z (nl z) ?_
 unfold f21 at h
 refine Tp z (Tr ?_)
 obtain⟨x20,hc,h⟩:=bs h
 refine Qc z z z (args:=[]) (r:=.agg (Scene.cl x20)) (calv z z fnok_100 z) (f100_ok hc) z (Qn z z z (v:=.ptr 1 0) (x:=some (.box (Scene.cl (⟨(⟨([]:List Cell),([]:List Arr2_3),0,0,0⟩:Basin),([]:List Int),([]:List Sight),([]:List Change)⟩:Scene)))) (Al_ z z zer_30 z ⟨Sub.nil _,Sub.nil _,Sub.refl _,Sub.refl _,Sub.refl _,Sub.nil _,Sub.nil _,Sub.nil _,u0⟩) z z z z z (Qs z z (x:=some (.box (Scene.cl x20))) (As z siz_30 z z z z z z z) (Rx (Tr (Qe 2 z ?_)))))
 obtain⟨⟨x24_0,x24_1,x24_2⟩,hc_1,h⟩:=bs h
 refine Qc z z z (args:=[.agg (Basin.cl x20.Basin),Ai 0]) (r:=.tup [Ai x24_0,Ab x24_1,Ai x24_2]) (calv z z fnok_55 z) (f55_ok hc_1) z (Qd z (Tr (Qe 1 z ?_)))
 obtain⟨⟨x30_0,x30_1⟩,hc_2,h⟩:=bs h
 refine Qc z z z (args:=[.agg (Scene.cl x20),Ai 2,Ai 5]) (r:=.tup [.agg (Span.cl x30_0),Ai x30_1]) (calv z z fnok_33 z) (f33_ok hc_2) z (Qe 3 z (Qn z z z (v:=.ptr 5 0) (x:=some (.box (Span.cl (⟨0,0⟩:Span)))) (Al_ z z zer_49 z ⟨Sub.refl _,Sub.refl _,u0⟩) z z z z z (Qs z z (x:=some (.box (Span.cl x30_0))) (As z siz_49 z z z z z z z) (Qd z (Tr (Qe 1 z (Q1 z z z (v:=.lst 1 (([1,2]:List Int).map icl)) (Ax.sl (xs:=([1,2]:List Int)) z slc_26 z z ⟨Sub.refl _,Sub.refl _,u0⟩ z icl_len icl_one icl_im) ?_)))))))
 obtain⟨⟨x36_0,x36_1⟩,hc_3,h⟩:=bs h
 refine Qc z z z (args:=[.agg (Scene.cl x20),.lst 1 (([1,2]:List Int).map icl),Ai 5]) (r:=.tup [.agg (Span.cl x36_0),Ai x36_1]) (calv z z fnok_39 z) (f39_ok hc_3) z (Qe 3 z (Qn z z z (v:=.ptr 7 0) (x:=some (.box (Span.cl (⟨0,0⟩:Span)))) (Al_ z z zer_49 z ⟨Sub.refl _,Sub.refl _,u0⟩) z z z z z (Qs z z (x:=some (.box (Span.cl x36_0))) (As z siz_49 z z z z z z z) (Qd z (Tr (Qe 1 z ?_))))))
 obtain⟨⟨x41_0,x41_1,x41_2⟩,hc_4,h⟩:=bs h
 refine Qc z z z (args:=[.agg (Scene.cl x20)]) (r:=.tup [.agg (Net.cl x41_0),.lst 4 (x41_1.map Reason.cl),Ai x41_2]) (calv z z fnok_22 z) (f22_ok hc_4) z (Qe 4 z (Qn z z z (v:=.ptr 9 0) (x:=some (.box (Net.cl (⟨0,([]:List Diff)⟩:Net)))) (Al_ z z zer_34 z ⟨Sub.refl _,Sub.nil _,u0⟩) z z z z z (Qs z z (x:=some (.box (Net.cl x41_0))) (As z siz_34 z z z z z z z) (Qd z (Ts (Ts (Tri.join1 ⟨[(1,.ptr 1 0),(92,Ab ((x24_0 != 130)||((!x24_1)||((x24_2 != 0)||((!(decide (x30_0=(⟨200,340⟩:Span))))||((x30_1 != 0)||((!(decide (x36_0=(⟨6000,8900⟩:Span))))||((x36_1 != 0)||((x41_2 != 0)||((x41_0.Nodes != 3)||(((x41_0.Diffs.length:Int) != 8)||((x41_1.length:Int) != 8))))))))))))],[(1,some (.box (Scene.cl x20)))]⟩ ?_ ?_)))))))
 ·refine Tc (b:=((x24_0 != 130)||((!x24_1)||((x24_2 != 0)||((!(decide (x30_0=(⟨200,340⟩:Span))))||((x30_1 != 0)||((!(decide (x36_0=(⟨6000,8900⟩:Span))))||((x36_1 != 0)||((x41_2 != 0)||((x41_0.Nodes != 3)||(((x41_0.Diffs.length:Int) != 8)||((x41_1.length:Int) != 8)))))))))))) z (fun hb=>?_) (fun hb=>?_)
  ·have h:=cq hb h
   refine Tp z (Te ?_)
   exact Rb h z
  have h:=cw hb h
  refine Tk (Tr (Q1 z z z (v:=.agg (Reason.cl (⟨5,0,0,true⟩:Reason))) (Ab_ z zer_42 (bld plc_42 zer_42) z ⟨Sub.refl _,Sub.refl _,Sub.refl _,Sub.refl _,u0⟩) (Q1 z z z (v:=.agg (Reason.cl (⟨3,0,5,false⟩:Reason))) (Ab_ z zer_42 (bld plc_42 zer_42) z ⟨Sub.refl _,Sub.refl _,Sub.refl _,Sub.refl _,u0⟩) (Q1 z z z (v:=.lst 4 (([(⟨5,0,0,true⟩:Reason),(⟨3,0,5,false⟩:Reason)]:List Reason).map Reason.cl)) (Ax.sl (xs:=([(⟨5,0,0,true⟩:Reason),(⟨3,0,5,false⟩:Reason)]:List Reason)) z slc_35 z z ⟨Sub.refl _,Sub.refl _,Sub.refl _,Sub.refl _,Sub.refl _,Sub.refl _,Sub.refl _,Sub.refl _,u0⟩ z Reason_len Reason_one Reason_im) (Qd z (Ts (Ts ?_)))))))
  obtain⟨v112,hj_1,h⟩:=bs h
  refine Tri.joinv v112 (fun(y:Bool)=>⟨[(1,.ptr 1 0),(112,Ab y)],[(1,some (.box (Scene.cl x20)))]⟩) ?_ ?_
  ·refine Tc (b:=v112) z (fun hb_1=>?_) (fun hb_1=>?_)
   ·have h:=cq hb_1 h
    refine Tp z (Te ?_)
    exact Rb h z
   have h:=cw hb_1 h
   refine Tk (Tr (Qe 1 z (Q1 z z z (v:=.agg (Sight.cl (⟨9,2,5,341,400⟩:Sight))) (Ab_ z zer_64 (bld plc_64 zer_64) z ⟨Sub.refl _,Sub.refl _,Sub.refl _,Sub.refl _,Sub.refl _,u0⟩) ?_)))
   obtain⟨⟨x116_0,x116_1⟩,hc_5,h⟩:=bs h
   refine Qc z z z (args:=[.agg (Scene.cl x20),.agg (Sight.cl (⟨9,2,5,341,400⟩:Sight))]) (r:=.tup [.agg (Scene.cl x116_0),Ai x116_1]) (calv z z fnok_53 z) (f53_ok hc_5) z (Qe 3 z (Qn z z z (v:=.ptr 13 0) (x:=some (.box (Scene.cl (⟨(⟨([]:List Cell),([]:List Arr2_3),0,0,0⟩:Basin),([]:List Int),([]:List Sight),([]:List Change)⟩:Scene)))) (Al_ z z zer_30 z ⟨Sub.nil _,Sub.nil _,Sub.refl _,Sub.refl _,Sub.refl _,Sub.nil _,Sub.nil _,Sub.nil _,u0⟩) z z z z z (Qs z z (x:=some (.box (Scene.cl x116_0))) (As z siz_30 z z z z z z z) (Qd z (Tr (Qe 1 z ?_))))))
   obtain⟨⟨x121_0,x121_1,x121_2⟩,hc_6,h⟩:=bs h
   refine Qc z z z (args:=[.agg (Scene.cl x116_0)]) (r:=.tup [.lst 1 (x121_0.map icl),Ab x121_1,Ai x121_2]) (calv z z fnok_54 z) (f54_ok hc_6) z (Qd z (Tr (Q1 z z z (v:=.lst 1 (([5,6]:List Int).map icl)) (Ax.sl (xs:=([5,6]:List Int)) z slc_26 z z ⟨Sub.refl _,Sub.refl _,u0⟩ z icl_len icl_one icl_im) (Qe 1 z (Qs z z (x:=some (.box (Scene.cl (⟨x20.Basin,([5,6]:List Int),x20.Sights,x20.Changes⟩:Scene)))) (As z siz_26 z z z z z z z) (Rx (Tr (Q1 z z z (v:=.agg (Change.cl (⟨1,5,6,(-50),(-20)⟩:Change))) (Ab_ z zer_67 (bld plc_67 zer_67) z ⟨Sub.refl _,Sub.refl _,Sub.refl _,Sub.refl _,Sub.refl _,u0⟩) (Q1 z z z (v:=.agg (Change.cl (⟨2,5,6,(-100),0⟩:Change))) (Ab_ z zer_67 (bld plc_67 zer_67) z ⟨Sub.refl _,Sub.refl _,Sub.refl _,Sub.refl _,Sub.refl _,u0⟩) (Q1 z z z (v:=.lst 5 (([(⟨1,5,6,(-50),(-20)⟩:Change),(⟨2,5,6,(-100),0⟩:Change)]:List Change).map Change.cl)) (Ax.sl (xs:=([(⟨1,5,6,(-50),(-20)⟩:Change),(⟨2,5,6,(-100),0⟩:Change)]:List Change)) z slc_28 z z ⟨Sub.refl _,Sub.refl _,Sub.refl _,Sub.refl _,Sub.refl _,Sub.refl _,Sub.refl _,Sub.refl _,Sub.refl _,Sub.refl _,u0⟩ z Change_len Change_one Change_im) (Qe 1 z (Qs z z (x:=some (.box (Scene.cl (⟨x20.Basin,([5,6]:List Int),x20.Sights,([(⟨1,5,6,(-50),(-20)⟩:Change),(⟨2,5,6,(-100),0⟩:Change)]:List Change)⟩:Scene)))) (As z siz_28 z z z z z z z) ?_))))))))))))
   refine Rx (Tr (Qe 1 z ?_))
   obtain⟨⟨x133_0,x133_1⟩,hc_7,h⟩:=bs h
   refine Qc z z z (args:=[.agg (Scene.cl (⟨x20.Basin,([5,6]:List Int),x20.Sights,([(⟨1,5,6,(-50),(-20)⟩:Change),(⟨2,5,6,(-100),0⟩:Change)]:List Change)⟩:Scene)),Ai 2,Ai 6]) (r:=.tup [.agg (Span.cl x133_0),Ai x133_1]) (calv z z fnok_33 z) (f33_ok hc_7) z (Qe 3 z (Qn z z z (v:=.ptr 16 0) (x:=some (.box (Span.cl (⟨0,0⟩:Span)))) (Al_ z z zer_49 z ⟨Sub.refl _,Sub.refl _,u0⟩) z z z z z (Qs z z (x:=some (.box (Span.cl x133_0))) (As z siz_49 z z z z z z z) (Qd z (Tr (Qe 1 z (Q1 z z z (v:=.lst 1 (([1,2]:List Int).map icl)) (Ax.sl (xs:=([1,2]:List Int)) z slc_26 z z ⟨Sub.refl _,Sub.refl _,u0⟩ z icl_len icl_one icl_im) ?_)))))))
   obtain⟨⟨x139_0,x139_1⟩,hc_8,h⟩:=bs h
   refine Qc z z z (args:=[.agg (Scene.cl (⟨x20.Basin,([5,6]:List Int),x20.Sights,([(⟨1,5,6,(-50),(-20)⟩:Change),(⟨2,5,6,(-100),0⟩:Change)]:List Change)⟩:Scene)),.lst 1 (([1,2]:List Int).map icl),Ai 5,Ai 6]) (r:=.tup [.agg (Span.cl x139_0),Ai x139_1]) (calv z z fnok_40 z) (f40_ok hc_8) z (Qe 3 z (Qn z z z (v:=.ptr 17 0) (x:=some (.box (Span.cl (⟨0,0⟩:Span)))) (Al_ z z zer_49 z ⟨Sub.refl _,Sub.refl _,u0⟩) z z z z z (Qs z z (x:=some (.box (Span.cl x139_0))) (As z siz_49 z z z z z z z) (Qd z (Tr (Qe 1 z (Q1 z z z (v:=.lst 1 (([2]:List Int).map icl)) (Ax.sl (xs:=([2]:List Int)) z slc_26 z z ⟨Sub.refl _,u0⟩ z icl_len icl_one icl_im) ?_)))))))
   obtain⟨⟨x145_0,x145_1⟩,hc_9,h⟩:=bs h
   refine Qc z z z (args:=[.agg (Scene.cl (⟨x20.Basin,([5,6]:List Int),x20.Sights,([(⟨1,5,6,(-50),(-20)⟩:Change),(⟨2,5,6,(-100),0⟩:Change)]:List Change)⟩:Scene)),.lst 1 (([2]:List Int).map icl),Ai 6]) (r:=.tup [.lst 1 (x145_0.map icl),Ai x145_1]) (calv z z fnok_81 z) (f81_ok hc_9) z (Qd z (Ts (Ts (Tri.join1 ⟨[(14,.lst 1 (x121_0.map icl)),(15,Ab x121_1),(16,.ptr 16 0),(17,.ptr 17 0),(18,.lst 1 (x145_0.map icl)),(165,Ab ((x116_1 != 0)||((x121_2 != 0)||((x133_1 != 0)||((x139_1 != 0)||(x145_1 != 0))))))],[(16,some (.box (Span.cl x133_0))),(17,some (.box (Span.cl x139_0)))]⟩ ?_ ?_))))
   ·refine Tc (b:=((x116_1 != 0)||((x121_2 != 0)||((x133_1 != 0)||((x139_1 != 0)||(x145_1 != 0)))))) z (fun hb_2=>?_) (fun hb_2=>?_)
    ·have h:=cq hb_2 h
     refine Tp z (Te ?_)
     exact Rb h z
    have h:=cw hb_2 h
    refine Tk (Ts ?_)
    obtain⟨v0,hj,h⟩:=bs h
    refine Tri.joinv v0 (fun(y:Bool)=>⟨[(0,Ab y)],[]⟩) ?_ ?_
    ·refine Te ?_
     exact Rb h z
    have h:=hj
    refine Tri.region (Qe 1 z (Q1 z z z (v:=.lst 1 (([7,9]:List Int).map icl)) (Ax.sl (xs:=([7,9]:List Int)) z slc_26 z z ⟨Sub.refl _,Sub.refl _,u0⟩ z icl_len icl_one icl_im) ?_))
    obtain⟨x168,hc_10,h⟩:=bs h
    refine Qc z z z (args:=[.lst 1 (x121_0.map icl),.lst 1 (([7,9]:List Int).map icl)]) (r:=Ab x168) (calv z z fnok_101 z) (f101_ok hc_10) z (Qe 1 z ?_)
    rcases b2 x168 with hb_3 | hb_3
    ·have h:=cq hb_3 h
     refine Qk 169 hb_3 z (Qe 3 z ?_)
     rcases b2 x121_1 with hb_4 | hb_4
     ·have h:=cq hb_4 h
      refine Qk 172 hb_4 z (Qe 1 z (Q1 z z z (v:=.agg (Span.cl (⟨150,320⟩:Span))) (Ab_ z zer_49 (bld plc_49 zer_49) z ⟨Sub.refl _,Sub.refl _,u0⟩) (Q1 z z z (v:=Ab (decide (x133_0=(⟨150,320⟩:Span)))) (Ax.eqs (xs:=[.int .i64 x133_0.Lo,.int .i64 x133_0.Hi]) (ys:=[.int .i64 150,.int .i64 320]) (fsp_49 x133_0 (⟨150,320⟩:Span)) z z z (eqs_49 x133_0 (⟨150,320⟩:Span))) (Qe 2 z ?_))))
      rcases b2 (decide (x133_0=(⟨150,320⟩:Span))) with hb_5 | hb_5
      ·have h:=cq hb_5 h
       refine Qk 177 hb_5 z (Qe 1 z (Q1 z z z (v:=.agg (Span.cl (⟨200,2500⟩:Span))) (Ab_ z zer_49 (bld plc_49 zer_49) z ⟨Sub.refl _,Sub.refl _,u0⟩) (Q1 z z z (v:=Ab (decide (x139_0=(⟨200,2500⟩:Span)))) (Ax.eqs (xs:=[.int .i64 x139_0.Lo,.int .i64 x139_0.Hi]) (ys:=[.int .i64 200,.int .i64 2500]) (fsp_49 x139_0 (⟨200,2500⟩:Span)) z z z (eqs_49 x139_0 (⟨200,2500⟩:Span))) (Qe 2 z ?_))))
       rcases b2 (decide (x139_0=(⟨200,2500⟩:Span))) with hb_6 | hb_6
       ·have h:=cq hb_6 h
        refine Qk 182 hb_6 z (Qe 1 z (Q1 z z z (v:=.lst 1 (([7]:List Int).map icl)) (Ax.sl (xs:=([7]:List Int)) z slc_26 z z ⟨Sub.refl _,u0⟩ z icl_len icl_one icl_im) ?_))
        obtain⟨x185,hc_11,h⟩:=bs h
        refine Qc z z z (args:=[.lst 1 (x145_0.map icl),.lst 1 (([7]:List Int).map icl)]) (r:=Ab x185) (calv z z fnok_101 z) (f101_ok hc_11) z (Qe 2 z ?_)
        rcases b2 x185 with hb_7 | hb_7
        ·have h:=cq hb_7 h
         refine Qk 187 hb_7 z (Q1 z z z (v:=.agg (Scene.cl (⟨(⟨([]:List Cell),([]:List Arr2_3),0,0,0⟩:Basin),([]:List Int),([]:List Sight),([]:List Change)⟩:Scene))) (Ab_ z zer_30 (bld plc_30 zer_30) z ⟨Sub.nil _,Sub.nil _,Sub.refl _,Sub.refl _,Sub.refl _,Sub.nil _,Sub.nil _,Sub.nil _,u0⟩) ?_)
         obtain⟨x189,hc_12,h⟩:=bs h
         exact Qc z z z (args:=[.agg (Scene.cl (⟨(⟨([]:List Cell),([]:List Arr2_3),0,0,0⟩:Basin),([]:List Int),([]:List Sight),([]:List Change)⟩:Scene))]) (r:=Ai x189) (calv z z fnok_66 z) (f66_ok hc_12) z (Qd z (Xi (x189==50) (An h (E0 z))))
        have h:=cw hb_7 h
        exact Qk 187 hb_7 z (Qd z (Xi false (An h (E0 z))))
       have h:=cw hb_6 h
       exact Qk 182 hb_6 z (Qd z (Xi false (An h (E0 z))))
      have h:=cw hb_5 h
      exact Qk 177 hb_5 z (Qd z (Xi false (An h (E0 z))))
     have h:=cw hb_4 h
     exact Qk 172 hb_4 z (Qd z (Xi false (An h (E0 z))))
    have h:=cw hb_3 h
    exact Qk 169 hb_3 z (Qd z (Xi false (An h (E0 z))))
   refine Tri.region (Qe 3 z ?_)
   rcases b2 (x116_1 != 0) with hb_8 | hb_8
   ·exact Qk 150 hb_8 z (Qd z ((Es [16,17] [165] z u0 ⟨.imm (Sub.of_eq (show Ab ((x116_1 != 0)||((x121_2 != 0)||((x133_1 != 0)||((x139_1 != 0)||(x145_1 != 0)))))=Ab true by simp only [cond_true,cond_false,Bool.true_or,Bool.false_or,Bool.true_and,Bool.false_and,Bool.or_true,Bool.or_false,Bool.and_true,Bool.and_false,hb,hb_1,hb_8])) z,u0⟩)))
   refine Qk 150 hb_8 z (Qe 4 z ?_)
   rcases b2 (x121_2 != 0) with hb_9 | hb_9
   ·exact Qk 154 hb_9 z (Qd z ((Es [16,17] [165] z u0 ⟨.imm (Sub.of_eq (show Ab ((x116_1 != 0)||((x121_2 != 0)||((x133_1 != 0)||((x139_1 != 0)||(x145_1 != 0)))))=Ab true by simp only [cond_true,cond_false,Bool.true_or,Bool.false_or,Bool.true_and,Bool.false_and,Bool.or_true,Bool.or_false,Bool.and_true,Bool.and_false,hb,hb_1,hb_8,hb_9])) z,u0⟩)))
   refine Qk 154 hb_9 z (Qe 4 z ?_)
   rcases b2 (x133_1 != 0) with hb_10 | hb_10
   ·exact Qk 158 hb_10 z (Qd z ((Es [16,17] [165] z u0 ⟨.imm (Sub.of_eq (show Ab ((x116_1 != 0)||((x121_2 != 0)||((x133_1 != 0)||((x139_1 != 0)||(x145_1 != 0)))))=Ab true by simp only [cond_true,cond_false,Bool.true_or,Bool.false_or,Bool.true_and,Bool.false_and,Bool.or_true,Bool.or_false,Bool.and_true,Bool.and_false,hb,hb_1,hb_8,hb_9,hb_10])) z,u0⟩)))
   refine Qk 158 hb_10 z (Qe 4 z ?_)
   rcases b2 (x139_1 != 0) with hb_11 | hb_11
   ·exact Qk 162 hb_11 z (Qd z ((Es [16,17] [165] z u0 ⟨.imm (Sub.of_eq (show Ab ((x116_1 != 0)||((x121_2 != 0)||((x133_1 != 0)||((x139_1 != 0)||(x145_1 != 0)))))=Ab true by simp only [cond_true,cond_false,Bool.true_or,Bool.false_or,Bool.true_and,Bool.false_and,Bool.or_true,Bool.or_false,Bool.and_true,Bool.and_false,hb,hb_1,hb_8,hb_9,hb_10,hb_11])) z,u0⟩)))
   exact Qk 162 hb_11 z (Qd z ((Es [16,17] [165] z u0 ⟨.imm (Sub.of_eq (show Ab ((x116_1 != 0)||((x121_2 != 0)||((x133_1 != 0)||((x139_1 != 0)||(x145_1 != 0)))))=Ab (x145_1 != 0) by simp only [cond_true,cond_false,Bool.true_or,Bool.false_or,Bool.true_and,Bool.false_and,Bool.or_true,Bool.or_false,Bool.and_true,Bool.and_false,hb,hb_1,hb_8,hb_9,hb_10,hb_11])) z,u0⟩)))
  have h:=hj_1
  refine Tri.region (Qe 2 z ?_)
  obtain⟨x98,hc_13,h⟩:=bs h
  refine Qc z z z (args:=[.agg (Scene.cl x20),Ai 2,Ai 5,Ai 340,Ab true,.lst 4 (([(⟨5,0,0,true⟩:Reason),(⟨3,0,5,false⟩:Reason)]:List Reason).map Reason.cl)]) (r:=Ai x98) (calv z z fnok_91 z) (f91_ok hc_13) z (Qe 2 z ?_)
  rcases b2 (x98 != 0) with hb_12 | hb_12
  ·have h:=cq hb_12 h
   exact Qk 100 hb_12 z (Qd z (Xi true (An h (Ee [1] z u0))))
  have h:=cw hb_12 h
  refine Qk 100 hb_12 z (Qe 2 z ?_)
  obtain⟨x103,hc_14,h⟩:=bs h
  refine Qc z z z (args:=[.agg (Scene.cl x20),Ai 2,Ai 5,Ai 339,Ab true,.lst 4 (([(⟨5,0,0,true⟩:Reason),(⟨3,0,5,false⟩:Reason)]:List Reason).map Reason.cl)]) (r:=Ai x103) (calv z z fnok_91 z) (f91_ok hc_14) z (Qe 3 z ?_)
  rcases b2 (x103 != 43) with hb_13 | hb_13
  ·have h:=cq hb_13 h
   exact Qk 106 hb_13 z (Qd z (Xi true (An h (Ee [1] z u0))))
  have h:=cw hb_13 h
  refine Qk 106 hb_13 z (Qe 1 z (Q1 z z z (v:=.lst 1 (([200,199]:List Int).map icl)) (Ax.sl (xs:=([200,199]:List Int)) z slc_26 z z ⟨Sub.refl _,Sub.refl _,u0⟩ z icl_len icl_one icl_im) (Q1 z z z (v:=.lst 1 (([([200,199]:List Int)]:List (List Int)).map cl26)) (Ax.sl (xs:=([([200,199]:List Int)]:List (List Int))) z slc_44 z z ⟨Sub.refl _,u0⟩ z cl26_len cl26_one cl26_im) ?_)))
  obtain⟨x110,hc_15,h⟩:=bs h
  exact Qc z z z (args:=[.agg (Scene.cl x20),.lst 1 (([([200,199]:List Int)]:List (List Int)).map cl26)]) (r:=Ai x110) (calv z z fnok_26 z) (f26_ok hc_15) z (Qd z (Xi (x110 != 53) (An h (Ee [1] z u0))))
 refine Tri.region (Qe 3 z ?_)
 rcases b2 (x24_0 != 130) with hb_14 | hb_14
 ·exact Qk 47 hb_14 z (Qd z ((Es [1] [92] z u0 ⟨.imm (Sub.of_eq (show Ab ((x24_0 != 130)||((!x24_1)||((x24_2 != 0)||((!(decide (x30_0=(⟨200,340⟩:Span))))||((x30_1 != 0)||((!(decide (x36_0=(⟨6000,8900⟩:Span))))||((x36_1 != 0)||((x41_2 != 0)||((x41_0.Nodes != 3)||(((x41_0.Diffs.length:Int) != 8)||((x41_1.length:Int) != 8)))))))))))=Ab true by simp only [cond_true,cond_false,Bool.true_or,Bool.false_or,Bool.true_and,Bool.false_and,Bool.or_true,Bool.or_false,Bool.and_true,Bool.and_false,hb_14])) z,u0⟩)))
 refine Qk 47 hb_14 z (Qe 4 z ?_)
 rcases b2 (!x24_1) with hb_15 | hb_15
 ·exact Qk 51 hb_15 z (Qd z ((Es [1] [92] z u0 ⟨.imm (Sub.of_eq (show Ab ((x24_0 != 130)||((!x24_1)||((x24_2 != 0)||((!(decide (x30_0=(⟨200,340⟩:Span))))||((x30_1 != 0)||((!(decide (x36_0=(⟨6000,8900⟩:Span))))||((x36_1 != 0)||((x41_2 != 0)||((x41_0.Nodes != 3)||(((x41_0.Diffs.length:Int) != 8)||((x41_1.length:Int) != 8)))))))))))=Ab true by simp only [cond_true,cond_false,Bool.true_or,Bool.false_or,Bool.true_and,Bool.false_and,Bool.or_true,Bool.or_false,Bool.and_true,Bool.and_false,hb_14,hb_15])) z,u0⟩)))
 refine Qk 51 hb_15 z (Qe 4 z ?_)
 rcases b2 (x24_2 != 0) with hb_16 | hb_16
 ·exact Qk 55 hb_16 z (Qd z ((Es [1] [92] z u0 ⟨.imm (Sub.of_eq (show Ab ((x24_0 != 130)||((!x24_1)||((x24_2 != 0)||((!(decide (x30_0=(⟨200,340⟩:Span))))||((x30_1 != 0)||((!(decide (x36_0=(⟨6000,8900⟩:Span))))||((x36_1 != 0)||((x41_2 != 0)||((x41_0.Nodes != 3)||(((x41_0.Diffs.length:Int) != 8)||((x41_1.length:Int) != 8)))))))))))=Ab true by simp only [cond_true,cond_false,Bool.true_or,Bool.false_or,Bool.true_and,Bool.false_and,Bool.or_true,Bool.or_false,Bool.and_true,Bool.and_false,hb_14,hb_15,hb_16])) z,u0⟩)))
 refine Qk 55 hb_16 z (Qe 1 z (Q1 z z z (v:=.agg (Span.cl (⟨200,340⟩:Span))) (Ab_ z zer_49 (bld plc_49 zer_49) z ⟨Sub.refl _,Sub.refl _,u0⟩) (Q1 z z z (v:=Ab (!(decide (x30_0=(⟨200,340⟩:Span))))) (Ax.nes (xs:=[.int .i64 x30_0.Lo,.int .i64 x30_0.Hi]) (ys:=[.int .i64 200,.int .i64 340]) (fsp_49 x30_0 (⟨200,340⟩:Span)) z z z (eqs_49 x30_0 (⟨200,340⟩:Span))) (Qe 2 z ?_))))
 rcases b2 (!(decide (x30_0=(⟨200,340⟩:Span)))) with hb_17 | hb_17
 ·exact Qk 60 hb_17 z (Qd z ((Es [1] [92] z u0 ⟨.imm (Sub.of_eq (show Ab ((x24_0 != 130)||((!x24_1)||((x24_2 != 0)||((!(decide (x30_0=(⟨200,340⟩:Span))))||((x30_1 != 0)||((!(decide (x36_0=(⟨6000,8900⟩:Span))))||((x36_1 != 0)||((x41_2 != 0)||((x41_0.Nodes != 3)||(((x41_0.Diffs.length:Int) != 8)||((x41_1.length:Int) != 8)))))))))))=Ab true by simp only [cond_true,cond_false,Bool.true_or,Bool.false_or,Bool.true_and,Bool.false_and,Bool.or_true,Bool.or_false,Bool.and_true,Bool.and_false,hb_14,hb_15,hb_16,hb_17])) z,u0⟩)))
 refine Qk 60 hb_17 z (Qe 4 z ?_)
 rcases b2 (x30_1 != 0) with hb_18 | hb_18
 ·exact Qk 64 hb_18 z (Qd z ((Es [1] [92] z u0 ⟨.imm (Sub.of_eq (show Ab ((x24_0 != 130)||((!x24_1)||((x24_2 != 0)||((!(decide (x30_0=(⟨200,340⟩:Span))))||((x30_1 != 0)||((!(decide (x36_0=(⟨6000,8900⟩:Span))))||((x36_1 != 0)||((x41_2 != 0)||((x41_0.Nodes != 3)||(((x41_0.Diffs.length:Int) != 8)||((x41_1.length:Int) != 8)))))))))))=Ab true by simp only [cond_true,cond_false,Bool.true_or,Bool.false_or,Bool.true_and,Bool.false_and,Bool.or_true,Bool.or_false,Bool.and_true,Bool.and_false,hb_14,hb_15,hb_16,hb_17,hb_18])) z,u0⟩)))
 refine Qk 64 hb_18 z (Qe 1 z (Q1 z z z (v:=.agg (Span.cl (⟨6000,8900⟩:Span))) (Ab_ z zer_49 (bld plc_49 zer_49) z ⟨Sub.refl _,Sub.refl _,u0⟩) (Q1 z z z (v:=Ab (!(decide (x36_0=(⟨6000,8900⟩:Span))))) (Ax.nes (xs:=[.int .i64 x36_0.Lo,.int .i64 x36_0.Hi]) (ys:=[.int .i64 6000,.int .i64 8900]) (fsp_49 x36_0 (⟨6000,8900⟩:Span)) z z z (eqs_49 x36_0 (⟨6000,8900⟩:Span))) (Qe 2 z ?_))))
 rcases b2 (!(decide (x36_0=(⟨6000,8900⟩:Span)))) with hb_19 | hb_19
 ·exact Qk 69 hb_19 z (Qd z ((Es [1] [92] z u0 ⟨.imm (Sub.of_eq (show Ab ((x24_0 != 130)||((!x24_1)||((x24_2 != 0)||((!(decide (x30_0=(⟨200,340⟩:Span))))||((x30_1 != 0)||((!(decide (x36_0=(⟨6000,8900⟩:Span))))||((x36_1 != 0)||((x41_2 != 0)||((x41_0.Nodes != 3)||(((x41_0.Diffs.length:Int) != 8)||((x41_1.length:Int) != 8)))))))))))=Ab true by simp only [cond_true,cond_false,Bool.true_or,Bool.false_or,Bool.true_and,Bool.false_and,Bool.or_true,Bool.or_false,Bool.and_true,Bool.and_false,hb_14,hb_15,hb_16,hb_17,hb_18,hb_19])) z,u0⟩)))
 refine Qk 69 hb_19 z (Qe 4 z ?_)
 rcases b2 (x36_1 != 0) with hb_20 | hb_20
 ·exact Qk 73 hb_20 z (Qd z ((Es [1] [92] z u0 ⟨.imm (Sub.of_eq (show Ab ((x24_0 != 130)||((!x24_1)||((x24_2 != 0)||((!(decide (x30_0=(⟨200,340⟩:Span))))||((x30_1 != 0)||((!(decide (x36_0=(⟨6000,8900⟩:Span))))||((x36_1 != 0)||((x41_2 != 0)||((x41_0.Nodes != 3)||(((x41_0.Diffs.length:Int) != 8)||((x41_1.length:Int) != 8)))))))))))=Ab true by simp only [cond_true,cond_false,Bool.true_or,Bool.false_or,Bool.true_and,Bool.false_and,Bool.or_true,Bool.or_false,Bool.and_true,Bool.and_false,hb_14,hb_15,hb_16,hb_17,hb_18,hb_19,hb_20])) z,u0⟩)))
 refine Qk 73 hb_20 z (Qe 4 z ?_)
 rcases b2 (x41_2 != 0) with hb_21 | hb_21
 ·exact Qk 77 hb_21 z (Qd z ((Es [1] [92] z u0 ⟨.imm (Sub.of_eq (show Ab ((x24_0 != 130)||((!x24_1)||((x24_2 != 0)||((!(decide (x30_0=(⟨200,340⟩:Span))))||((x30_1 != 0)||((!(decide (x36_0=(⟨6000,8900⟩:Span))))||((x36_1 != 0)||((x41_2 != 0)||((x41_0.Nodes != 3)||(((x41_0.Diffs.length:Int) != 8)||((x41_1.length:Int) != 8)))))))))))=Ab true by simp only [cond_true,cond_false,Bool.true_or,Bool.false_or,Bool.true_and,Bool.false_and,Bool.or_true,Bool.or_false,Bool.and_true,Bool.and_false,hb_14,hb_15,hb_16,hb_17,hb_18,hb_19,hb_20,hb_21])) z,u0⟩)))
 refine Qk 77 hb_21 z (Qe 5 z ?_)
 rcases b2 (x41_0.Nodes != 3) with hb_22 | hb_22
 ·exact Qk 82 hb_22 z (Qd z ((Es [1] [92] z u0 ⟨.imm (Sub.of_eq (show Ab ((x24_0 != 130)||((!x24_1)||((x24_2 != 0)||((!(decide (x30_0=(⟨200,340⟩:Span))))||((x30_1 != 0)||((!(decide (x36_0=(⟨6000,8900⟩:Span))))||((x36_1 != 0)||((x41_2 != 0)||((x41_0.Nodes != 3)||(((x41_0.Diffs.length:Int) != 8)||((x41_1.length:Int) != 8)))))))))))=Ab true by simp only [cond_true,cond_false,Bool.true_or,Bool.false_or,Bool.true_and,Bool.false_and,Bool.or_true,Bool.or_false,Bool.and_true,Bool.and_false,hb_14,hb_15,hb_16,hb_17,hb_18,hb_19,hb_20,hb_21,hb_22])) z,u0⟩)))
 refine Qk 82 hb_22 z (Qe 2 z (Q1 z z z (Ax.ln (cl:=Diff.cl) z slc_32 z) (Qe 3 z ?_)))
 rcases b2 ((x41_0.Diffs.length:Int) != 8) with hb_23 | hb_23
 ·exact Qk 88 hb_23 z (Qd z ((Es [1] [92] z u0 ⟨.imm (Sub.of_eq (show Ab ((x24_0 != 130)||((!x24_1)||((x24_2 != 0)||((!(decide (x30_0=(⟨200,340⟩:Span))))||((x30_1 != 0)||((!(decide (x36_0=(⟨6000,8900⟩:Span))))||((x36_1 != 0)||((x41_2 != 0)||((x41_0.Nodes != 3)||(((x41_0.Diffs.length:Int) != 8)||((x41_1.length:Int) != 8)))))))))))=Ab true by simp only [cond_true,cond_false,Bool.true_or,Bool.false_or,Bool.true_and,Bool.false_and,Bool.or_true,Bool.or_false,Bool.and_true,Bool.and_false,hb_14,hb_15,hb_16,hb_17,hb_18,hb_19,hb_20,hb_21,hb_22,hb_23])) z,u0⟩)))
 exact Qk 88 hb_23 z (Qe 1 z (Q1 z z z (Ax.ln (cl:=Reason.cl) z slc_35 z) (Qd z ((Es [1] [92] z u0 ⟨.imm (Sub.of_eq (show Ab ((x24_0 != 130)||((!x24_1)||((x24_2 != 0)||((!(decide (x30_0=(⟨200,340⟩:Span))))||((x30_1 != 0)||((!(decide (x36_0=(⟨6000,8900⟩:Span))))||((x36_1 != 0)||((x41_2 != 0)||((x41_0.Nodes != 3)||(((x41_0.Diffs.length:Int) != 8)||((x41_1.length:Int) != 8)))))))))))=Ab ((x41_1.length:Int) != 8) by simp only [cond_true,cond_false,Bool.true_or,Bool.false_or,Bool.true_and,Bool.false_and,Bool.or_true,Bool.or_false,Bool.and_true,Bool.and_false,hb_14,hb_15,hb_16,hb_17,hb_18,hb_19,hb_20,hb_21,hb_22,hb_23])) z,u0⟩)))))
end Go.Proofs.YthlchdnbokhclaaGreat.Ql

import Derived.Test.YthlchdnbokhclaaGreatQt
set_option linter.all false
namespace Go.Proofs.YthlchdnbokhclaaGreat.Ql
open Go Go.Proofs
set_option maxRecDepth 100000
set_option maxHeartbeats 0
theorem f140_ok {K:Nat} {a0:Int} {a1:Int} {a2:Int} {r:Bool} (h:f140 K a0 a1 a2=some r):CallOK Tryz.prog 140 [Ai a0,Ai a1,Ai a2] [] (Ab r) []:=by
 refine Co Tryz.func140 z z (nl z) ?_
 unfold f140 at h
 refine Tp z (Ts (Tri.join1 ⟨[(6,Ab ((decide (a0≥a1))&&(decide (a0≤a2))))],[]⟩ ?_ ?_))
 ·refine Te ?_
  exact Rb h z
 refine Tri.region (Qe 4 z ?_)
 rcases b2 (decide (a0≥a1)) with hb | hb
 ·exact Qk 10 hb z (Qd z ((Es0 [6] z ⟨.imm (Sub.of_eq (show Ab ((decide (a0≥a1))&&(decide (a0≤a2)))=Ab (decide (a0≤a2)) by simp only [cond_true,cond_false,Bool.true_or,Bool.false_or,Bool.true_and,Bool.false_and,Bool.or_true,Bool.or_false,Bool.and_true,Bool.and_false,hb])) z,u0⟩)))
 exact Qk 10 hb z (Qd z ((Es0 [6] z ⟨.imm (Sub.of_eq (show Ab ((decide (a0≥a1))&&(decide (a0≤a2)))=Ab false by simp only [cond_true,cond_false,Bool.true_or,Bool.false_or,Bool.true_and,Bool.false_and,Bool.or_true,Bool.or_false,Bool.and_true,Bool.and_false,hb])) z,u0⟩)))
theorem f177_ok {K:Nat} {a0:Cell} {r:Bool} (h:f177 K a0=some r):CallOK Tryz.prog 177 [.agg (Cell.cl a0)] [] (Ab r) []:=by
 refine Co Tryz.func177 z z (nl z) ?_
 unfold f177 at h
 refine Tp z (Ts ?_)
 obtain⟨v2,hj,h⟩:=bs h
 refine Tri.joinv v2 (fun(y:Bool)=>⟨[(2,Ab y)],[]⟩) ?_ ?_
 ·refine Te ?_
  exact Rb h z
 have h:=hj
 refine Tri.region (Qe 2 z ?_)
 obtain⟨x5,hc,h⟩:=bs h
 refine Qc z z z (args:=[Ai a0.No,Ai 0,Ai 4095]) (r:=Ab x5) (calv z z fnok_140 z) (f140_ok hc) z (Qe 1 z ?_)
 rcases b2 x5 with hb | hb
 ·have h:=cq hb h
  refine Qk 6 hb z (Qe 2 z ?_)
  obtain⟨x9,hc_1,h⟩:=bs h
  refine Qc z z z (args:=[Ai a0.Height,Ai 0,Ai 9000]) (r:=Ab x9) (calv z z fnok_140 z) (f140_ok hc_1) z (Qe 2 z ?_)
  rcases b2 x9 with hb_1 | hb_1
  ·have h:=cq hb_1 h
   refine Qk 11 hb_1 z (Qe 2 z ?_)
   obtain⟨x14,hc_2,h⟩:=bs h
   refine Qc z z z (args:=[Ai a0.Aspect,Ai 0,Ai 7]) (r:=Ab x14) (calv z z fnok_140 z) (f140_ok hc_2) z (Qe 2 z ?_)
   rcases b2 x14 with hb_2 | hb_2
   ·have h:=cq hb_2 h
    refine Qk 16 hb_2 z (Qe 2 z ?_)
    obtain⟨x19,hc_3,h⟩:=bs h
    exact Qc z z z (args:=[Ai a0.Area,Ai 1,Ai 4096]) (r:=Ab x19) (calv z z fnok_140 z) (f140_ok hc_3) z (Qd z (Xi x19 (An h (E0 z))))
   have h:=cw hb_2 h
   exact Qk 16 hb_2 z (Qd z (Xi false (An h (E0 z))))
  have h:=cw hb_1 h
  exact Qk 11 hb_1 z (Qd z (Xi false (An h (E0 z))))
 have h:=cw hb h
 exact Qk 6 hb z (Qd z (Xi false (An h (E0 z))))
theorem f74_ok {K:Nat} {a0:Basin} {r:Int} (h:f74 K a0=some r):CallOK Tryz.prog 74 [.agg (Basin.cl a0)] [] (Ai r) []:=by
 refine Co Tryz.func74 z z (nl z) ?_
 unfold f74 at h
 refine Tp z (Ts ?_)
 obtain⟨v3,hj_5,h⟩:=bs h
 refine Tri.joinv v3 (fun(y:Bool)=>⟨[(1,.ipt (Basin.cl a0) 0),(3,Ab y)],[]⟩) ?_ ?_
 ·refine Ts ?_
  obtain⟨v3_1,hj_4,h⟩:=bs h
  refine Tri.joinv v3_1 (fun(y:Bool)=>⟨[(1,.ipt (Basin.cl a0) 0),(3,Ab y)],[]⟩) ?_ ?_
  ·refine Ts (Tp z (Tc (b:=(!v3_1)) z (fun hb=>?_) (fun hb=>?_)))
   ·have h:=cq hb h
    refine Tp z (Te ?_)
    exact Ri h z
   have h:=cw hb h
   refine Tk (Ts (Tr (Qe 2 z (Q1 z z z (Ax.ln (cl:=Cell.cl) z slc_22 z) (Qd z ?_)))))
   obtain⟨j,hj,h⟩:=jo h
   refine Tri.rngL h (fun p=>⟨[(1,.ipt (Basin.cl a0) 0),(39,.lst 4 (a0.Cells.map Cell.cl)),(40,Ai (a0.Cells.length:Int)),(41,Ai p.1)],[]⟩) (fun y=>j y=some r) (fun(y:Unit)=>⟨[(1,.ipt (Basin.cl a0) 0)],[]⟩) (E0 z) ?_ ?_ ?_
   ·rintro⟨⟩ h
    subst hj
    refine Tr (Qn z z z (v:=.hnd 66) (x:=some (.mp (([]:List (Int × Int)).map prV))) (Ax.mkm z z) z z z z z (Qd z (Ts (Tr (Qe 2 z (Q1 z z z (Ax.ln (cl:=Arr2_3.cl) z slc_23 z) (Qd z ?_)))))))
    obtain⟨j_1,hj_1,h⟩:=jo h
    refine Tri.rngL h (fun p=>⟨[(1,.ipt (Basin.cl a0) 0),(6,.hnd 66),(68,.lst 2 (a0.Pairs.map Arr2_3.cl)),(69,Ai (a0.Pairs.length:Int)),(70,Ai p.1)],[(66,some (.mp (p.2.map prV)))]⟩) (fun y=>j_1 y=some r) (fun(y:Unit)=>⟨[],[]⟩) (Ee [66] z u0) ?_ ?_ ?_
    ·rintro⟨⟩ h
     subst hj_1
     refine Tp z (Te ?_)
     exact Ri h z
    ·rintro v70 vo6 hi_1 h
     refine Tp z (Ts (Tc (b:=(decide (v70 < (a0.Pairs.length:Int)))) z (fun hb_1=>?_) (fun hb_1=>?_)))
     ·exact(lt_f hi_1 hb_1).elim
     exact Tri.exit (Xi () (An h (E0 z)))
    rintro nx_1 x_1 v70 vo6 _ hi_1 hw_1 hx_1 h
    refine Tp z (Ts (Tc (b:=(decide (v70 < (a0.Pairs.length:Int)))) z (fun hb_2=>?_) (fun hb_2=>?_)))
    ·refine Tk (Ts (Tri.block (Tr (Q1 z z z (Ax.ix (cl:=Arr2_3.cl) z slc_23 z z hx_1) (Qe 1 z (Qn z z z (v:=.ptr 8 0) (x:=some (.box (Arr2_3.cl (⟨0,0⟩:Arr2_3)))) (Al_ z z zer_97 z ⟨Sub.refl _,Sub.refl _,u0⟩) z z z z z (Qs z z (x:=some (.box (Arr2_3.cl x_1))) (As z siz_97 z z z z z z z) (Rx (Ts (Ts ?_))))))))))
     obtain⟨v115,hj_2,h⟩:=bs h
     refine Tri.joinv v115 (fun(y:Bool)=>⟨[(1,.ipt (Basin.cl a0) 0),(6,.hnd 66),(8,.ptr 8 0),(68,.lst 2 (a0.Pairs.map Arr2_3.cl)),(69,Ai (a0.Pairs.length:Int)),(70,Ai v70),(115,Ab y)],[(66,some (.mp (vo6.map prV))),(8,some (.box (Arr2_3.cl x_1)))]⟩) ?_ ?_
     ·refine Tc (b:=v115) z (fun hb_3=>?_) (fun hb_3=>?_)
      ·have h:=cq hb_3 h
       refine Tp z (Te ?_)
       exact Ri h z
      have h:=cw hb_3 h
      refine Tk (Tr (Q1 z z z (Ax.index_ptr (k:=.i64) (n:=0) z arr_97 z z z (by decide) (by decide)) (Qe 1 z (Q1 z z z (Ax.index_ptr (k:=.i64) (n:=1) z arr_97 z z z (by decide) (by decide)) (Qe 1 z (Q1 z z z (v:=Ai (if x_1.a1 < x_1.a0 then x_1.a1 else x_1.a0)) (Ax.min z z z) (Q1 z z z (Ax.index_ptr (k:=.i64) (n:=0) z arr_97 z z z (by decide) (by decide)) (Qe 1 z (Q1 z z z (Ax.index_ptr (k:=.i64) (n:=1) z arr_97 z z z (by decide) (by decide)) (Qe 1 z (Q1 z z z (v:=Ai (if x_1.a1 > x_1.a0 then x_1.a1 else x_1.a0)) (Ax.max z z z) (Q1 z z z (v:=.agg (Arr2_3.cl (⟨(if x_1.a1 < x_1.a0 then x_1.a1 else x_1.a0),(if x_1.a1 > x_1.a0 then x_1.a1 else x_1.a0)⟩:Arr2_3))) (Ab_ z zer_97 (blda pla_97 zer_97) z ⟨Sub.refl _,Sub.refl _,u0⟩) ?_))))))))))))
      refine Qn z z z (v:=.ptr 9 0) (x:=some (.box (Arr2_3.cl (⟨0,0⟩:Arr2_3)))) (Al_ z z zer_97 z ⟨Sub.refl _,Sub.refl _,u0⟩) z z z z z (Qs z z (x:=some (.box (Arr2_3.cl (⟨(if x_1.a1 < x_1.a0 then x_1.a1 else x_1.a0),(if x_1.a1 > x_1.a0 then x_1.a1 else x_1.a0)⟩:Arr2_3)))) (As z siz_97 z z z z z z z) (Rx (Ts (Tr (Qe 2 z (Q1 z z z (v:=Ab (vo6.contains ((if x_1.a1 < x_1.a0 then x_1.a1 else x_1.a0),(if x_1.a1 > x_1.a0 then x_1.a1 else x_1.a0)))) (Ax.lkm (ps:=vo6) (a:=(if x_1.a1 < x_1.a0 then x_1.a1 else x_1.a0)) (b:=(if x_1.a1 > x_1.a0 then x_1.a1 else x_1.a0)) z mpt_268 z z z) (Rx (Tc (b:=(vo6.contains ((if x_1.a1 < x_1.a0 then x_1.a1 else x_1.a0),(if x_1.a1 > x_1.a0 then x_1.a1 else x_1.a0)))) z (fun hb_4=>?_) (fun hb_4=>?_)))))))))
      ·have h:=cq hb_4 h
       refine Tp z (Te ?_)
       exact Ri h z
      have h:=cw hb_4 h
      exact Tk (Tri.region (Qe 2 z (Qs z z (x:=some (.mp ((if vo6.contains ((if x_1.a1 < x_1.a0 then x_1.a1 else x_1.a0),(if x_1.a1 > x_1.a0 then x_1.a1 else x_1.a0)) then vo6 else vo6++[((if x_1.a1 < x_1.a0 then x_1.a1 else x_1.a0),(if x_1.a1 > x_1.a0 then x_1.a1 else x_1.a0))]).map prV))) (Ax.ptm (ps:=vo6) (a:=(if x_1.a1 < x_1.a0 then x_1.a1 else x_1.a0)) (b:=(if x_1.a1 > x_1.a0 then x_1.a1 else x_1.a0)) z mpt_268 z z z z) (Rx (Tq z (Xi (v70+1,(if vo6.contains ((if x_1.a1 < x_1.a0 then x_1.a1 else x_1.a0),(if x_1.a1 > x_1.a0 then x_1.a1 else x_1.a0)) then vo6 else vo6++[((if x_1.a1 < x_1.a0 then x_1.a1 else x_1.a0),(if x_1.a1 > x_1.a0 then x_1.a1 else x_1.a0))])) (An (An z h) (Es [66] [70] z u0 ⟨.imm (Sub.of_eq (show Ai (v70+1)=Ai (W (v70+1)) from congrArg Ai hw_1.symm)) z,u0⟩))))))))
     have h:=hj_2
     refine Td [[],[0],[],[2],[2,3],[2,3,4],[0,1,2,3,4,5],[0,1,2,3,4,5,6],[0,1,2,3,4,5,6,7],[0,1,2,3,4,5,6,7,8],[0,1,2,3,4,5,6,7,8,9],[0,1,2,3,4,5,6,7,8],[0,1,2,3,4,5,6,7,8,11],[0,1,2,3,4,5,6,7,8,11,12],[0,1,2,3,4,5,6,7,8,11,12,13],[0,1,2,3,4,5,6,7,8,9,10,11,12,13,14],[0,1,2,3,4,5,6,7,8,9,10,11,12,13,14,15],[0,1,2,3,4,5,6,7,8,9,10,11,12,13,14,15,16],[0,1,2,3,4,5,6,7,8,9,10,11,12,13,14,15,16,17],[0,1,2,3,4,5,6,7,8,9,10,11,12,13,14,15,16,17,18],[0,1,2,3,4,5,6,7,8,9,10,11,12,13,14,15,16,17,18,19],[0,1,2,3,4,5,6,7,8,9,10,11,12,13,14,15,16,17,18],[0,1,2,3,4,5,6,7,8,9,10,11,12,13,14,15,16,17,18,21],[0,1,2,3,4,5,6,7,8,9,10,11,12,13,14,15,16,17,18,19,20,21,22],[0,1,2,3,4,5,6,7,8,9,10,11,12,13,14,15,16,17,18,19,20,21,22,23],[0,1,2,3,4,5,6,7,8,9,10,11,12,13,14,15,16,17,18,19,20,21,22,23,24],[0,1,2,3,4,5,6,7,8,9,10,11,12,13,14,15,16,17,18,19,20,21,22,23,24,25],[0,1,2,3,4,5,6,7,8,9,10,11,12,13,14,15,16,17,18,19,20,21,22,23,24,25,26],[0,1,2,3,4,5,6,7,8,9,10,11,12,13,14,15,16,17,18,19,20,21,22,23,24,25],[0,1,2,3,4,5,6,7,8,9,10,11,12,13,14,15,16,17,18,19,20,21,22,23,24,25,28],[0,1,2,3,4,5,6,7,8,9,10,11,12,13,14,15,16,17,18,19,20,21,22,23,24,25,26,27,28,29],[0,1,2,3,4,5,6,7,8,9,10,11,12,13,14,15,16,17,18,19,20,21,22,23,24,25,26,27,28,29,30],[0,1,2,3,4,5,6,7,8,9,10,11,12,13,14,15,16,17,18,19,20,21,22,23,24,25,26,27,28,29,30,31],[0,1,2,3,4,5,6,7,8,9,10,11,12,13,14,15,16,17,18,19,20,21,22,23,24,25],[0,1,2,3,4,5,6,7,8,9,10,11,12,13,14,15,16,17,18,19,20,21,22,23,24,25,33],[0,1,2,3,4,5,6,7,8,9,10,11,12,13,14,15,16,17,18,19,20,21,22,23,24,25],[0,1,2,3,4,5,6,7,8,9,10,11,12,13,14,15,16,17,18,19,20,21,22,23,24,25,35],[0,1,2,3,4,5,6,7,8,9,10,11,12,13,14,15,16,17,18,19,20,21,22,23,24,25,33,34,35,36],[0,1,2,3,4,5,6,7,8,9,10,11,12,13,14,15,16,17,18,19,20,21,22,23,24,25,33,34,35,36,37],[0,1,2,3,4,5,6,7,8,9,10,11,12,13,14,15,16,17,18,19,20,21,22,23,24,25,33,34,35,36,37,38],[0,1,2,3,4,5,6,7,8,9,10,11,12,13,14,15,16,17,18,19,20,21,22,23,24,25,26,27,28,29,30,31,32,33,34,35,36,37,38,39],[0,1,2,3,4,5,6,7,8,9,10,11,12,13,14,15,16,17,18,19,20,21,22,23,24,25,26,27,28,29,30,31,32,33,34,35,36,37,38,39,40]] hmix (by kernel_rfl) (Q1 z z z (Ax.index_ptr (k:=.i64) (n:=0) z arr_97 z z z (by decide) (by decide)) (Qe 3 z (Q1 z z z (Ax.ln (cl:=Cell.cl) z slc_22 z) (Qe 1 z ?_))))
     obtain⟨x80,hc,h⟩:=bs h
     refine Qc z z z (args:=[Ai x_1.a0,Ai 0,Ai (W ((a0.Cells.length:Int) - 1))]) (r:=Ab x80) (calv z z fnok_140 z) (f140_ok hc) z (Qe 2 z ?_)
     rcases b2 (!x80) with hb_5 | hb_5
     ·have h:=cq hb_5 h
      refine Qk 82 hb_5 z (Qe 33 z (Rx ⟨by kernel_rfl,freshL_of [] (by kernel_rfl) (by kernel_rfl),?_⟩))
      exact Xi true (An h (Ee [66,8] z u0))
     have h:=cw hb_5 h
     refine Qk 82 hb_5 z (Q1 z z z (Ax.index_ptr (k:=.i64) (n:=1) z arr_97 z z z (by decide) (by decide)) (Qe 3 z (Q1 z z z (Ax.ln (cl:=Cell.cl) z slc_22 z) (Qe 1 z ?_))))
     obtain⟨x89,hc_1,h⟩:=bs h
     refine Qc z z z (args:=[Ai x_1.a1,Ai 0,Ai (W ((a0.Cells.length:Int) - 1))]) (r:=Ab x89) (calv z z fnok_140 z) (f140_ok hc_1) z (Qe 3 z ?_)
     rcases b2 (!x89) with hb_6 | hb_6
     ·have h:=cq hb_6 h
      refine Qk 92 hb_6 z (Qe 23 z (Rx ⟨by kernel_rfl,freshL_of [] (by kernel_rfl) (by kernel_rfl),?_⟩))
      exact Xi true (An h (Ee [66,8] z u0))
     have h:=cw hb_6 h
     refine Qk 92 hb_6 z (Q1 z z z (Ax.index_ptr (k:=.i64) (n:=0) z arr_97 z z z (by decide) (by decide)) (Qe 1 z (Q1 z z z (Ax.index_ptr (k:=.i64) (n:=1) z arr_97 z z z (by decide) (by decide)) (Qe 4 z ?_))))
     rcases b2 (x_1.a0==x_1.a1) with hb_7 | hb_7
     ·have h:=cq hb_7 h
      refine Qk 99 hb_7 z (Qe 16 z (Rx ⟨by kernel_rfl,freshL_of [] (by kernel_rfl) (by kernel_rfl),?_⟩))
      exact Xi true (An h (Ee [66,8] z u0))
     have h:=cw hb_7 h
     refine Qk 99 hb_7 z (Qe 2 z (Q1 z z z (Ax.index_ptr (k:=.i64) (n:=0) z arr_97 z z z (by decide) (by decide)) (Qe 1 z ?_)))
     obtain⟨y,hy,h⟩:=bs h
     refine Q1 z z z (Ax.ix (cl:=Cell.cl) z slc_22 z z hy) (Qe 4 z (Q1 z z z (Ax.index_ptr (k:=.i64) (n:=1) z arr_97 z z z (by decide) (by decide)) (Qe 1 z ?_)))
     obtain⟨y_1,hy_1,h⟩:=bs h
     refine Q1 z z z (Ax.ix (cl:=Cell.cl) z slc_22 z z hy_1) (Qe 4 z (Rx ⟨by kernel_rfl,freshL_of [] (by kernel_rfl) (by kernel_rfl),?_⟩))
     exact Xi (decide (y.Height > y_1.Height)) (An h (Ee [66,8] z u0))
    exact(lt_t hi_1 hb_2).elim
   ·rintro v41 ⟨⟩ hi h
    refine Tp z (Ts (Tc (b:=(decide (v41 < (a0.Cells.length:Int)))) z (fun hb_8=>?_) (fun hb_8=>?_)))
    ·exact(lt_f hi hb_8).elim
    exact Tri.exit (Xi () (An h (E0 z)))
   rintro nx x v41 ⟨⟩ _ hi hw hx h
   refine Tp z (Ts (Tc (b:=(decide (v41 < (a0.Cells.length:Int)))) z (fun hb_9=>?_) (fun hb_9=>?_)))
   ·refine Tk (Ts (Tri.block (Tr (Qe 1 z (Q1 z z z (Ax.ix (cl:=Cell.cl) z slc_22 z z hx) (Qe 1 z (Qn z z z (v:=.ptr 5 0) (x:=some (.box (Cell.cl (⟨0,0,0,0⟩:Cell)))) (Al_ z z zer_56 z ⟨Sub.refl _,Sub.refl _,Sub.refl _,Sub.refl _,u0⟩) z z z z z (Qe 1 z (Qs z z (x:=some (.box (Cell.cl x))) (As z siz_56 z z z z z z z) (Rx (Ts ?_)))))))))))
    obtain⟨v64,hj_3,h⟩:=bs h
    refine Tri.joinv v64 (fun(y:Bool)=>⟨[(1,.ipt (Basin.cl a0) 0),(39,.lst 4 (a0.Cells.map Cell.cl)),(40,Ai (a0.Cells.length:Int)),(41,Ai v41),(64,Ab y)],[]⟩) ?_ ?_
    ·refine Tc (b:=v64) z (fun hb_10=>?_) (fun hb_10=>?_)
     ·have h:=cq hb_10 h
      refine Tp z (Te ?_)
      exact Ri h z
     have h:=cw hb_10 h
     exact Tk (Tq z (Xi (v41+1,()) (An (An z h) (Es0 [41] z ⟨.imm (Sub.of_eq (show Ai (v41+1)=Ai (W (v41+1)) from congrArg Ai hw.symm)) z,u0⟩))))
    have h:=hj_3
    refine Td [[],[0],[0,1],[0,1,2],[0,1,2,3],[0,1,2,3,4],[0,1,2,3,4,5],[0,1,2,3,4,5,6],[0,1,2,3,4,5,6,7],[0,1,2,3,4,5,6],[0,1,2,3,4,5,6,9],[0,1,2,3,4,5,6,7,8,9,10],[0,1,2,3,4,5,6,7,8,9,10,11],[0,1,2,3,4,5,6,7,8,9,10,11,12],[0,1,2,3,4,5,6],[0,1,2,3,4,5,6,14],[0,1,2,3,4,5,6,7,8,9,10,11,12,13,14,15],[0,1,2,3,4,5,6,7,8,9,10,11,12,13,14,15,16],[0,1,2,3,4,5,6,7,8,9,10,11,12,13,14,15,16,17]] hmix (by kernel_rfl) (Qe 1 z ?_)
    obtain⟨x47,hc_2,h⟩:=bs h
    refine Qc z z z (args:=[.agg (Cell.cl x)]) (r:=Ab x47) (calv z z fnok_177 z) (f177_ok hc_2) z (Qe 2 z ?_)
    rcases b2 (!x47) with hb_11 | hb_11
    ·have h:=cq hb_11 h
     refine Qk 49 hb_11 z (Qe 15 z (Rx ⟨by kernel_rfl,freshL_of [] (by kernel_rfl) (by kernel_rfl),?_⟩))
     exact Xi true (An h (E0 z))
    have h:=cw hb_11 h
    refine Qk 49 hb_11 z (Qe 3 z ?_)
    rcases b2 (decide (v41 > 0)) with hb_12 | hb_12
    ·have h:=cq hb_12 h
     refine Qk 52 hb_12 z (Qe 4 z ?_)
     obtain⟨y_2,hy_2,h⟩:=bs h
     refine Q1 z z z (Ax.ix (cl:=Cell.cl) z slc_22 z z hy_2) (Qe 7 z (Rx ⟨by kernel_rfl,freshL_of [] (by kernel_rfl) (by kernel_rfl),?_⟩))
     exact Xi (decide (y_2.No≥x.No)) (An h (E0 z))
    have h:=cw hb_12 h
    refine Qk 52 hb_12 z (Qe 12 z (Rx ⟨by kernel_rfl,freshL_of [] (by kernel_rfl) (by kernel_rfl),?_⟩))
    exact Xi false (An h (E0 z))
   exact(lt_t hi hb_9).elim
  have h:=hj_4
  refine Tri.region (Qe 2 z ?_)
  rcases b2 v3 with hb_13 | hb_13
  ·have h:=cq hb_13 h
   refine Qk 21 hb_13 z (Qe 2 z ?_)
   obtain⟨x24,hc_3,h⟩:=bs h
   refine Qc z z z (args:=[Ai a0.Gain,Ai 0,Ai 65536]) (r:=Ab x24) (calv z z fnok_140 z) (f140_ok hc_3) z (Qe 2 z ?_)
   rcases b2 x24 with hb_14 | hb_14
   ·have h:=cq hb_14 h
    refine Qk 26 hb_14 z (Qe 2 z ?_)
    obtain⟨x29,hc_4,h⟩:=bs h
    refine Qc z z z (args:=[Ai a0.Slack,Ai 0,Ai 65536]) (r:=Ab x29) (calv z z fnok_140 z) (f140_ok hc_4) z (Qe 2 z ?_)
    rcases b2 x29 with hb_15 | hb_15
    ·have h:=cq hb_15 h
     refine Qk 31 hb_15 z (Qe 2 z ?_)
     obtain⟨x34,hc_5,h⟩:=bs h
     exact Qc z z z (args:=[Ai a0.Deep,Ai 0,Ai 65536]) (r:=Ab x34) (calv z z fnok_140 z) (f140_ok hc_5) z (Qd z (Xi x34 (An h (E0 z))))
    have h:=cw hb_15 h
    exact Qk 31 hb_15 z (Qd z (Xi false (An h (E0 z))))
   have h:=cw hb_14 h
   exact Qk 26 hb_14 z (Qd z (Xi false (An h (E0 z))))
  have h:=cw hb_13 h
  exact Qk 21 hb_13 z (Qd z (Xi false (An h (E0 z))))
 have h:=hj_5
 refine Tri.region (Qe 2 z (Q1 z z z (Ax.ln (cl:=Cell.cl) z slc_22 z) ?_))
 obtain⟨x13,hc_6,h⟩:=bs h
 refine Qc z z z (args:=[Ai (a0.Cells.length:Int),Ai 1,Ai 12]) (r:=Ab x13) (calv z z fnok_140 z) (f140_ok hc_6) z (Qe 1 z ?_)
 rcases b2 x13 with hb_16 | hb_16
 ·have h:=cq hb_16 h
  exact Qk 14 hb_16 z (Qe 2 z (Q1 z z z (Ax.ln (cl:=Arr2_3.cl) z slc_23 z) (Qd z (Xi (decide ((a0.Pairs.length:Int)≤24)) (An h (E0 z))))))
 have h:=cw hb_16 h
 exact Qk 14 hb_16 z (Qd z (Xi false (An h (E0 z))))
theorem f194_ok {K:Nat} {a0:List Int} {a1:Int} {r:Int} (h:f194 K a0 a1=some r):CallOK Tryz.prog 194 [.lst 1 (a0.map icl),Ai a1] [] (Ai r) []:=by
 refine Co Tryz.func194 z z (nl z) ?_
 unfold f194 at h
 refine Tp z (Ts (Tr (Qe 1 z (Q1 z z z (Ax.ln (cl:=icl) z slc_26 z) (Qd z ?_)))))
 obtain⟨j,hj,h⟩:=jo h
 refine Tri.rngL h (fun p=>⟨[(0,.lst 1 (a0.map icl)),(1,Ai a1),(7,Ai (a0.length:Int)),(8,Ai p.1)],[]⟩) (fun y=>j y=some r) (fun(y:Unit)=>⟨[],[]⟩) (E0 z) ?_ ?_ ?_
 ·rintro⟨⟩ h
  subst hj
  refine Tp z (Te ?_)
  exact Ri h z
 ·rintro v8 ⟨⟩ hi h
  refine Tp z (Ts (Tc (b:=(decide (v8 < (a0.length:Int)))) z (fun hb=>?_) (fun hb=>?_)))
  ·exact(lt_f hi hb).elim
  exact Tri.exit (Xi () (An h (E0 z)))
 rintro nx x v8 ⟨⟩ _ hi hw hx h
 refine Tp z (Ts (Tc (b:=(decide (v8 < (a0.length:Int)))) z (fun hb_1=>?_) (fun hb_1=>?_)))
 ·refine Tk (Ts (Tri.block (Tp z (Tr (Qe 3 z (Q1 z z z (Ax.ix (cl:=icl) z slc_26 z z hx) (Qd z (Tc (b:=(a1==x)) z (fun hb_2=>?_) (fun hb_2=>?_)))))))))
  ·have h:=cq hb_2 h
   refine Tp z (Te ?_)
   exact Ri h z
  have h:=cw hb_2 h
  exact Tk (Tq z (Xi (v8+1,()) (An (An z h) (Es0 [8] z ⟨.imm (Sub.of_eq (show Ai (v8+1)=Ai (W (v8+1)) from congrArg Ai hw.symm)) z,u0⟩))))
 exact(lt_t hi hb_1).elim
theorem f83_ok {K:Nat} {a0:List Int} {a1:Int} {r:Bool} (h:f83 K a0 a1=some r):CallOK Tryz.prog 83 [.lst 1 (a0.map icl),Ai a1] [] (Ab r) []:=by
 refine Co Tryz.func83 z z (nl z) ?_
 unfold f83 at h
 refine Tp z (Tr (Qe 2 z ?_))
 obtain⟨x7,hc,h⟩:=bs h
 refine Qc z z z (args:=[.lst 1 (a0.map icl),Ai a1]) (r:=Ai x7) (calv z z fnok_194 z) (f194_ok hc) z (Qd z (Te ?_))
 exact Rb h z
theorem f209_ok {K:Nat} {a0:List Cell} {a1:Cell→Option Bool} {g1:Nat} {caps1:List AV} {r:Int} (hg1:FnOK Tryz.prog g1) (ho1:(AV.fn g1 caps1).only []=true) (hp1:∀ x0 r,a1 x0=some r→CallOK Tryz.prog g1 ([.agg (Cell.cl x0)]++caps1) [] (Ab r) []) (h:f209 K a0 a1=some r):CallOK Tryz.prog 209 [.lst 4 (a0.map Cell.cl),.fn g1 caps1] [] (Ai r) []:=by
 refine Co Tryz.func209 z z (nl z) ?_
 unfold f209 at h
 refine Tp z (Ts (Tr (Qe 1 z (Q1 z z z (Ax.ln (cl:=Cell.cl) z slc_22 z) (Qd z ?_)))))
 obtain⟨j,hj,h⟩:=jo h
 refine Tri.rngL h (fun p=>⟨[(0,.lst 4 (a0.map Cell.cl)),(1,.fn g1 caps1),(7,Ai (a0.length:Int)),(8,Ai p.1)],[]⟩) (fun y=>j y=some r) (fun(y:Unit)=>⟨[],[]⟩) (Es0 [1] z ⟨.imm (Sub.refl _) ho1,u0⟩) ?_ ?_ ?_
 ·rintro⟨⟩ h
  subst hj
  refine Tp z (Te ?_)
  exact Ri h z
 ·rintro v8 ⟨⟩ hi h
  refine Tp z (Ts (Tc (b:=(decide (v8 < (a0.length:Int)))) z (fun hb=>?_) (fun hb=>?_)))
  ·exact(lt_f hi hb).elim
  exact Tri.exit (Xi () (An h (E0 z)))
 rintro nx x v8 ⟨⟩ _ hi hw hx h
 refine Tp z (Ts (Tc (b:=(decide (v8 < (a0.length:Int)))) z (fun hb_1=>?_) (fun hb_1=>?_)))
 ·refine Tk (Ts (Tri.block (Tp z (Tr (Qe 3 z (Q1 z z z (Ax.ix (cl:=Cell.cl) z slc_22 z z hx) (Qe 1 z ?_)))))))
  obtain⟨x16,hc,h⟩:=bs h
  refine Qc z z z (args:=[.agg (Cell.cl x)]++caps1) (r:=Ab x16) (calv z z hg1 z) (hp1 _ _ hc) z (Rx (Tc (b:=x16) z (fun hb_2=>?_) (fun hb_2=>?_)))
  ·have h:=cq hb_2 h
   refine Tp z (Te ?_)
   exact Ri h z
  have h:=cw hb_2 h
  exact Tk (Tq z (Xi (v8+1,()) (An (An z h) (Es0 [1,8] z ⟨.imm (Sub.refl _) ho1,.imm (Sub.of_eq (show Ai (v8+1)=Ai (W (v8+1)) from congrArg Ai hw.symm)) z,u0⟩))))
 exact(lt_t hi hb_1).elim
theorem f296_ok {K:Nat} {a0:Cell} {a1:Int} {r:Bool} (h:f296 K a0 a1=some r):CallOK Tryz.prog 296 [.agg (Cell.cl a0),.ipt (icl a1) 0] [] (Ab r) []:=by
 refine Co Tryz.func296 z z (nl z) ?_
 unfold f296 at h
 refine Tp z (Tp z (Te ?_))
 exact Rb h z
theorem f221_ok {K:Nat} {a0:Basin} {a1:Int} {r:Int} (h:f221 K a0 a1=some r):CallOK Tryz.prog 221 [.agg (Basin.cl a0),Ai a1] [] (Ai r) []:=by
 refine Co Tryz.func221 z z (nl z) ?_
 unfold f221 at h
 refine Tp z (Tr (Qe 2 z (Q1 z z z (v:=.fn 296 [.ipt (icl a1) 0]) (Ax.func z z) ?_)))
 obtain⟨x8,hc,h⟩:=bs h
 refine Qc z z z (args:=[.lst 4 (a0.Cells.map Cell.cl),.fn 296 [.ipt (icl a1) 0]]) (r:=Ai x8) (calv z z fnok_209 z) (f209_ok fnok_296 z (fun _ _ hr=>f296_ok hr) hc) z (Qd z (Te ?_))
 exact Ri h z
theorem f130_ok {K:Nat} {a0:Scene} {a1:Sight} {r:Bool} (h:f130 K a0 a1=some r):CallOK Tryz.prog 130 [.agg (Scene.cl a0),.agg (Sight.cl a1)] [] (Ab r) []:=by
 refine Co Tryz.func130 z z (nl z) ?_
 unfold f130 at h
 refine Tp z (Ts ?_)
 obtain⟨v4,hj,h⟩:=bs h
 refine Tri.joinv v4 (fun(y:Bool)=>⟨[(4,Ab y)],[]⟩) ?_ ?_
 ·refine Te ?_
  exact Rb h z
 have h:=hj
 refine Tri.region (Qe 2 z ?_)
 obtain⟨x7,hc,h⟩:=bs h
 refine Qc z z z (args:=[Ai a1.No,Ai 0,Ai 8191]) (r:=Ab x7) (calv z z fnok_140 z) (f140_ok hc) z (Qe 1 z ?_)
 rcases b2 x7 with hb | hb
 ·have h:=cq hb h
  refine Qk 8 hb z (Qe 4 z ?_)
  obtain⟨x13,hc_1,h⟩:=bs h
  refine Qc z z z (args:=[.agg (Basin.cl a0.Basin),Ai a1.Cell]) (r:=Ai x13) (calv z z fnok_221 z) (f221_ok hc_1) z (Qe 3 z ?_)
  rcases b2 (decide (x13≥0)) with hb_1 | hb_1
  ·have h:=cq hb_1 h
   refine Qk 16 hb_1 z (Qe 4 z ?_)
   obtain⟨x21,hc_2,h⟩:=bs h
   refine Qc z z z (args:=[.lst 1 (a0.Days.map icl),Ai a1.Day]) (r:=Ab x21) (calv z z fnok_83 z) (f83_ok hc_2) z (Qe 2 z ?_)
   rcases b2 x21 with hb_2 | hb_2
   ·have h:=cq hb_2 h
    refine Qk 23 hb_2 z (Qe 5 z ?_)
    rcases b2 (decide (0≤a1.Lo)) with hb_3 | hb_3
    ·have h:=cq hb_3 h
     refine Qk 28 hb_3 z (Qe 7 z ?_)
     rcases b2 (decide (a1.Lo≤a1.Hi)) with hb_4 | hb_4
     ·have h:=cq hb_4 h
      exact Qk 35 hb_4 z (Qd z (Xi (decide (a1.Hi≤65536)) (An h (E0 z))))
     have h:=cw hb_4 h
     exact Qk 35 hb_4 z (Qd z (Xi false (An h (E0 z))))
    have h:=cw hb_3 h
    exact Qk 28 hb_3 z (Qd z (Xi false (An h (E0 z))))
   have h:=cw hb_2 h
   exact Qk 23 hb_2 z (Qd z (Xi false (An h (E0 z))))
  have h:=cw hb_1 h
  exact Qk 16 hb_1 z (Qd z (Xi false (An h (E0 z))))
 have h:=cw hb h
 exact Qk 8 hb z (Qd z (Xi false (An h (E0 z))))
theorem f174_ok {K:Nat} {a0:List Int} {r:Bool} (h:f174 K a0=some r):CallOK Tryz.prog 174 [.lst 1 (a0.map icl)] [] (Ab r) []:=by
 refine Co Tryz.func174 z z (nl z) ?_
 unfold f174 at h
 refine Tp z (Ts (Tp z ?_))
 obtain⟨j,hj,h⟩:=jo h
 refine Tri.rngN h (fun p=>⟨[(0,.lst 1 (a0.map icl)),(3,Ai p.1)],[]⟩) (fun y=>j y=some r) (fun(y:Unit)=>⟨[],[]⟩) (E0 z) ?_ ?_ ?_
 ·rintro⟨⟩ h
  subst hj
  refine Tp z (Te ?_)
  exact Rb h z
 ·rintro v3 ⟨⟩ hi _ h
  refine Ts (Tr (Qe 2 z (Q1 z z z (Ax.ln (cl:=icl) z slc_26 z) (Qd z (Tc (b:=(decide (v3 < (a0.length:Int)))) z (fun hb=>?_) (fun hb=>?_))))))
  ·exact(lt_f hi hb).elim
  exact Tri.exit (Xi () (An h (E0 z)))
 rintro nx v3 ⟨⟩ _ hi hw h
 refine Ts (Tr (Qe 2 z (Q1 z z z (Ax.ln (cl:=icl) z slc_26 z) (Qd z (Tc (b:=(decide (v3 < (a0.length:Int)))) z (fun hb_1=>?_) (fun hb_1=>?_))))))
 ·refine Tk (Ts (Tri.block (Ts (Td [] hmix (by kernel_rfl) (Qe 3 z ?_)))))
  obtain⟨y,hy,h⟩:=bs h
  refine Q1 z z z (Ax.ix (cl:=icl) z slc_26 z z hy) (Qe 3 z ?_)
  obtain⟨y_1,hy_1,h⟩:=bs h
  refine Q1 z z z (Ax.ix (cl:=icl) z slc_26 z z hy_1) (Qe 2 z (Rx ⟨by kernel_rfl,freshL_of [] (by kernel_rfl) (by kernel_rfl),?_⟩))
  refine Tc (b:=(decide (y≥y_1))) z (fun hb_2=>?_) (fun hb_2=>?_)
  ·have h:=cq hb_2 h
   refine Tp z (Te ?_)
   exact Rb h z
  have h:=cw hb_2 h
  exact Tk (Tq z (Xi (v3+1,()) (An (An z h) (Es0 [3] z ⟨.imm (Sub.of_eq (show Ai (v3+1)=Ai (W (v3+1)) from congrArg Ai hw.symm)) z,u0⟩))))
 exact(lt_t hi hb_1).elim
theorem f175_ok {K:Nat} {a0:Scene} {a1:Change} {r:Bool} (h:f175 K a0 a1=some r):CallOK Tryz.prog 175 [.agg (Scene.cl a0),.agg (Change.cl a1)] [] (Ab r) []:=by
 refine Co Tryz.func175 z z (nl z) ?_
 unfold f175 at h
 refine Tp z (Ts ?_)
 obtain⟨v5,hj_1,h⟩:=bs h
 refine Tri.joinv v5 (fun(y:Bool)=>⟨[(2,.ipt (Scene.cl a0) 0),(3,.ipt (Change.cl a1) 0),(5,Ab y)],[]⟩) ?_ ?_
 ·refine Ts ?_
  obtain⟨v4,hj,h⟩:=bs h
  refine Tri.joinv v4 (fun(y:Bool)=>⟨[(4,Ab y)],[]⟩) ?_ ?_
  ·refine Te ?_
   exact Rb h z
  have h:=hj
  refine Tri.region (Qe 2 z ?_)
  rcases b2 v5 with hb | hb
  ·have h:=cq hb h
   refine Qk 26 hb z (Qe 4 z ?_)
   obtain⟨x31,hc,h⟩:=bs h
   refine Qc z z z (args:=[.agg (Basin.cl a0.Basin),Ai a1.Cell]) (r:=Ai x31) (calv z z fnok_221 z) (f221_ok hc) z (Qe 3 z ?_)
   rcases b2 (decide (x31≥0)) with hb_1 | hb_1
   ·have h:=cq hb_1 h
    refine Qk 34 hb_1 z (Qe 5 z ?_)
    rcases b2 (decide ((-65536)≤a1.Lo)) with hb_2 | hb_2
    ·have h:=cq hb_2 h
     refine Qk 39 hb_2 z (Qe 7 z ?_)
     rcases b2 (decide (a1.Lo≤a1.Hi)) with hb_3 | hb_3
     ·have h:=cq hb_3 h
      exact Qk 46 hb_3 z (Qd z (Xi (decide (a1.Hi≤65536)) (An h (E0 z))))
     have h:=cw hb_3 h
     exact Qk 46 hb_3 z (Qd z (Xi false (An h (E0 z))))
    have h:=cw hb_2 h
    exact Qk 39 hb_2 z (Qd z (Xi false (An h (E0 z))))
   have h:=cw hb_1 h
   exact Qk 34 hb_1 z (Qd z (Xi false (An h (E0 z))))
  have h:=cw hb h
  exact Qk 26 hb z (Qd z (Xi false (An h (E0 z))))
 have h:=hj_1
 refine Tri.region (Qe 6 z ?_)
 rcases b2 (decide (a1.From < a1.To)) with hb_4 | hb_4
 ·have h:=cq hb_4 h
  refine Qk 11 hb_4 z (Qe 4 z ?_)
  obtain⟨x16,hc_1,h⟩:=bs h
  refine Qc z z z (args:=[.lst 1 (a0.Days.map icl),Ai a1.From]) (r:=Ab x16) (calv z z fnok_83 z) (f83_ok hc_1) z (Qe 2 z ?_)
  rcases b2 x16 with hb_5 | hb_5
  ·have h:=cq hb_5 h
   refine Qk 18 hb_5 z (Qe 4 z ?_)
   obtain⟨x23,hc_2,h⟩:=bs h
   exact Qc z z z (args:=[.lst 1 (a0.Days.map icl),Ai a1.To]) (r:=Ab x23) (calv z z fnok_83 z) (f83_ok hc_2) z (Qd z (Xi x23 (An h (E0 z))))
  have h:=cw hb_5 h
  exact Qk 18 hb_5 z (Qd z (Xi false (An h (E0 z))))
 have h:=cw hb_4 h
 exact Qk 11 hb_4 z (Qd z (Xi false (An h (E0 z))))
theorem f66_ok {K:Nat} {a0:Scene} {r:Int} (h:f66 K a0=some r):CallOK Tryz.prog 66 [.agg (Scene.cl a0)] [] (Ai r) []:=by
 refine Co Tryz.func66 z z (nl z) ?_
 unfold f66 at h
 refine Tp z (Ts (Tr (Qe 2 z ?_)))
 obtain⟨x10,hc,h⟩:=bs h
 refine Qc z z z (args:=[.agg (Basin.cl a0.Basin)]) (r:=Ai x10) (calv z z fnok_74 z) (f74_ok hc) z (Qd z (Tp z (Tc (b:=(x10 != 0)) z (fun hb=>?_) (fun hb=>?_))))
 ·have h:=cq hb h
  refine Tp z (Te ?_)
  exact Ri h z
 have h:=cw hb h
 refine Tk (Ts (Ts ?_))
 obtain⟨v42,hj_2,h⟩:=bs h
 refine Tri.joinv v42 (fun(y:Bool)=>⟨[(1,.ipt (Scene.cl a0) 0),(42,Ab y)],[]⟩) ?_ ?_
 ·refine Tc (b:=v42) z (fun hb_1=>?_) (fun hb_1=>?_)
  ·have h:=cq hb_1 h
   refine Tp z (Te ?_)
   exact Ri h z
  have h:=cw hb_1 h
  refine Tk (Ts (Ts (Tri.join1 ⟨[(1,.ipt (Scene.cl a0) 0),(52,Ab ((decide ((a0.Sights.length:Int) > 256))||(decide ((a0.Changes.length:Int) > 256))))],[]⟩ ?_ ?_)))
  ·refine Tc (b:=((decide ((a0.Sights.length:Int) > 256))||(decide ((a0.Changes.length:Int) > 256)))) z (fun hb_2=>?_) (fun hb_2=>?_)
   ·have h:=cq hb_2 h
    refine Tp z (Te ?_)
    exact Ri h z
   have h:=cw hb_2 h
   refine Tk (Ts (Tr (Qe 2 z (Q1 z z z (Ax.ln (cl:=Sight.cl) z slc_27 z) (Qd z ?_)))))
   obtain⟨j,hj,h⟩:=jo h
   refine Tri.rngL h (fun p=>⟨[(1,.ipt (Scene.cl a0) 0),(54,.lst 5 (a0.Sights.map Sight.cl)),(55,Ai (a0.Sights.length:Int)),(56,Ai p.1)],[]⟩) (fun y=>j y=some r) (fun(y:Unit)=>⟨[(1,.ipt (Scene.cl a0) 0)],[]⟩) (E0 z) ?_ ?_ ?_
   ·rintro⟨⟩ h
    subst hj
    refine Ts (Tr (Qe 2 z (Q1 z z z (Ax.ln (cl:=Change.cl) z slc_28 z) (Qd z ?_))))
    obtain⟨j_1,hj_1,h⟩:=jo h
    refine Tri.rngL h (fun p=>⟨[(1,.ipt (Scene.cl a0) 0),(66,.lst 5 (a0.Changes.map Change.cl)),(67,Ai (a0.Changes.length:Int)),(68,Ai p.1)],[]⟩) (fun y=>j_1 y=some r) (fun(y:Unit)=>⟨[],[]⟩) (E0 z) ?_ ?_ ?_
    ·rintro⟨⟩ h
     subst hj_1
     refine Tp z (Te ?_)
     exact Ri h z
    ·rintro v68 ⟨⟩ hi_1 h
     refine Tp z (Ts (Tc (b:=(decide (v68 < (a0.Changes.length:Int)))) z (fun hb_3=>?_) (fun hb_3=>?_)))
     ·exact(lt_f hi_1 hb_3).elim
     exact Tri.exit (Xi () (An h (E0 z)))
    rintro nx_1 x_1 v68 ⟨⟩ _ hi_1 hw_1 hx_1 h
    refine Tp z (Ts (Tc (b:=(decide (v68 < (a0.Changes.length:Int)))) z (fun hb_4=>?_) (fun hb_4=>?_)))
    ·refine Tk (Ts (Tri.block (Tr (Q1 z z z (Ax.ix (cl:=Change.cl) z slc_28 z z hx_1) (Qe 1 z (Qn z z z (v:=.ptr 7 0) (x:=some (.box (Change.cl (⟨0,0,0,0,0⟩:Change)))) (Al_ z z zer_67 z ⟨Sub.refl _,Sub.refl _,Sub.refl _,Sub.refl _,Sub.refl _,u0⟩) z z z z z (Qs z z (x:=some (.box (Change.cl x_1))) (As z siz_67 z z z z z z z) (Rx (Tr (Qe 2 z ?_))))))))))
     obtain⟨x74,hc_1,h⟩:=bs h
     refine Qc z z z (args:=[.agg (Scene.cl a0),.agg (Change.cl x_1)]) (r:=Ab x74) (calv z z fnok_175 z) (f175_ok hc_1) z (Qd z (Tc (b:=(!x74)) z (fun hb_5=>?_) (fun hb_5=>?_)))
     ·have h:=cq hb_5 h
      refine Tp z (Te ?_)
      exact Ri h z
     have h:=cw hb_5 h
     exact Tk (Tq z (Xi (v68+1,()) (An (An z h) (Es0 [68] z ⟨.imm (Sub.of_eq (show Ai (v68+1)=Ai (W (v68+1)) from congrArg Ai hw_1.symm)) z,u0⟩))))
    exact(lt_t hi_1 hb_4).elim
   ·rintro v56 ⟨⟩ hi h
    refine Tp z (Ts (Tc (b:=(decide (v56 < (a0.Sights.length:Int)))) z (fun hb_6=>?_) (fun hb_6=>?_)))
    ·exact(lt_f hi hb_6).elim
    exact Tri.exit (Xi () (An h (E0 z)))
   rintro nx x v56 ⟨⟩ _ hi hw hx h
   refine Tp z (Ts (Tc (b:=(decide (v56 < (a0.Sights.length:Int)))) z (fun hb_7=>?_) (fun hb_7=>?_)))
   ·refine Tk (Ts (Tri.block (Tr (Q1 z z z (Ax.ix (cl:=Sight.cl) z slc_27 z z hx) (Qe 1 z (Qn z z z (v:=.ptr 5 0) (x:=some (.box (Sight.cl (⟨0,0,0,0,0⟩:Sight)))) (Al_ z z zer_64 z ⟨Sub.refl _,Sub.refl _,Sub.refl _,Sub.refl _,Sub.refl _,u0⟩) z z z z z (Qs z z (x:=some (.box (Sight.cl x))) (As z siz_64 z z z z z z z) (Rx (Tr (Qe 2 z ?_))))))))))
    obtain⟨x62,hc_2,h⟩:=bs h
    refine Qc z z z (args:=[.agg (Scene.cl a0),.agg (Sight.cl x)]) (r:=Ab x62) (calv z z fnok_130 z) (f130_ok hc_2) z (Qd z (Tc (b:=(!x62)) z (fun hb_8=>?_) (fun hb_8=>?_)))
    ·have h:=cq hb_8 h
     refine Tp z (Te ?_)
     exact Ri h z
    have h:=cw hb_8 h
    exact Tk (Tq z (Xi (v56+1,()) (An (An z h) (Es0 [56] z ⟨.imm (Sub.of_eq (show Ai (v56+1)=Ai (W (v56+1)) from congrArg Ai hw.symm)) z,u0⟩))))
   exact(lt_t hi hb_7).elim
  refine Tri.region (Qe 2 z (Q1 z z z (Ax.ln (cl:=Sight.cl) z slc_27 z) (Qe 2 z ?_)))
  rcases b2 (decide ((a0.Sights.length:Int) > 256)) with hb_9 | hb_9
  ·exact Qk 47 hb_9 z (Qd z ((Es0 [52] z ⟨.imm (Sub.of_eq (show Ab ((decide ((a0.Sights.length:Int) > 256))||(decide ((a0.Changes.length:Int) > 256)))=Ab true by simp only [cond_true,cond_false,Bool.true_or,Bool.false_or,Bool.true_and,Bool.false_and,Bool.or_true,Bool.or_false,Bool.and_true,Bool.and_false,hb,hb_1,hb_9])) z,u0⟩)))
  exact Qk 47 hb_9 z (Qe 2 z (Q1 z z z (Ax.ln (cl:=Change.cl) z slc_28 z) (Qd z ((Es0 [52] z ⟨.imm (Sub.of_eq (show Ab ((decide ((a0.Sights.length:Int) > 256))||(decide ((a0.Changes.length:Int) > 256)))=Ab (decide ((a0.Changes.length:Int) > 256)) by simp only [cond_true,cond_false,Bool.true_or,Bool.false_or,Bool.true_and,Bool.false_and,Bool.or_true,Bool.or_false,Bool.and_true,Bool.and_false,hb,hb_1,hb_9])) z,u0⟩)))))
 have h:=hj_2
 refine Tri.region (Qe 2 z (Q1 z z z (Ax.ln (cl:=icl) z slc_26 z) ?_))
 obtain⟨x17,hc_3,h⟩:=bs h
 refine Qc z z z (args:=[Ai (a0.Days.length:Int),Ai 1,Ai 16]) (r:=Ab x17) (calv z z fnok_140 z) (f140_ok hc_3) z (Qe 2 z ?_)
 rcases b2 (!x17) with hb_10 | hb_10
 ·have h:=cq hb_10 h
  exact Qk 19 hb_10 z (Qd z (Xi true (An h (E0 z))))
 have h:=cw hb_10 h
 refine Qk 19 hb_10 z (Qe 2 z ?_)
 obtain⟨x22,hc_4,h⟩:=bs h
 refine Qc z z z (args:=[.lst 1 (a0.Days.map icl)]) (r:=Ab x22) (calv z z fnok_174 z) (f174_ok hc_4) z (Qe 3 z ?_)
 rcases b2 (!x22) with hb_11 | hb_11
 ·have h:=cq hb_11 h
  exact Qk 25 hb_11 z (Qd z (Xi true (An h (E0 z))))
 have h:=cw hb_11 h
 refine Qk 25 hb_11 z (Qe 2 z ?_)
 obtain⟨y,hy,h⟩:=bs h
 refine Q1 z z z (Ax.ix (cl:=icl) z slc_26 z z hy) (Qe 4 z ?_)
 rcases b2 (decide (y < 0)) with hb_12 | hb_12
 ·have h:=cq hb_12 h
  exact Qk 32 hb_12 z (Qd z (Xi true (An h (E0 z))))
 have h:=cw hb_12 h
 refine Qk 32 hb_12 z (Qe 4 z (Q1 z z z (Ax.ln (cl:=icl) z slc_26 z) (Qe 1 z ?_)))
 obtain⟨y_1,hy_1,h⟩:=bs h
 exact Q1 z z z (Ax.ix (cl:=icl) z slc_26 z z hy_1) (Qd z (Xi (decide (y_1 > 1048576)) (An h (E0 z))))
theorem f141_ok {K:Nat} {a0:Cell} {a1:Cell} {r:Bool} (h:f141 K a0 a1=some r):CallOK Tryz.prog 141 [.agg (Cell.cl a0),.agg (Cell.cl a1)] [] (Ab r) []:=by
 refine Co Tryz.func141 z z (nl z) ?_
 unfold f141 at h
 refine Tp z (Tr (Qe 6 z (Q1 z z z (v:=Ai (Int.tmod (W ((W (a0.Aspect - a1.Aspect))+8)) 8)) (Ax.div z z z (.inr z) (by decide)) (Qd z (Ts (Tri.join1 ⟨[(4,Ab ((decide ((Int.tmod (W ((W (a0.Aspect - a1.Aspect))+8)) 8)≤1))||((Int.tmod (W ((W (a0.Aspect - a1.Aspect))+8)) 8)==7)))],[]⟩ ?_ ?_))))))
 ·refine Te ?_
  exact Rb h z
 refine Tri.region (Qe 3 z ?_)
 rcases b2 (decide ((Int.tmod (W ((W (a0.Aspect - a1.Aspect))+8)) 8)≤1)) with hb | hb
 ·exact Qk 15 hb z (Qd z ((Es0 [4] z ⟨.imm (Sub.of_eq (show Ab ((decide ((Int.tmod (W ((W (a0.Aspect - a1.Aspect))+8)) 8)≤1))||((Int.tmod (W ((W (a0.Aspect - a1.Aspect))+8)) 8)==7))=Ab true by simp only [cond_true,cond_false,Bool.true_or,Bool.false_or,Bool.true_and,Bool.false_and,Bool.or_true,Bool.or_false,Bool.and_true,Bool.and_false,hb])) z,u0⟩)))
 exact Qk 15 hb z (Qd z ((Es0 [4] z ⟨.imm (Sub.of_eq (show Ab ((decide ((Int.tmod (W ((W (a0.Aspect - a1.Aspect))+8)) 8)≤1))||((Int.tmod (W ((W (a0.Aspect - a1.Aspect))+8)) 8)==7))=Ab ((Int.tmod (W ((W (a0.Aspect - a1.Aspect))+8)) 8)==7) by simp only [cond_true,cond_false,Bool.true_or,Bool.false_or,Bool.true_and,Bool.false_and,Bool.or_true,Bool.or_false,Bool.and_true,Bool.and_false,hb])) z,u0⟩)))
theorem f142_ok {K:Nat} {a0:Basin} {a1:Arr2_3} {r:Int} (h:f142 K a0 a1=some r):CallOK Tryz.prog 142 [.agg (Basin.cl a0),.agg (Arr2_3.cl a1)] [] (Ai r) []:=by
 refine Co Tryz.func142 z z (nl z) ?_
 unfold f142 at h
 refine Tp z (Ts (Td [] hmix (by kernel_rfl) (Qe 6 z (Q1 z z z (v:=.ipt (Arr2_3.cl a1) 1) (Ax.index_ipt (k:=.i64) (n:=1) z arr_97 z z (by decide) (by decide)) (Qe 1 z ?_)))))
 obtain⟨y,hy,h⟩:=bs h
 refine Q1 z z z (Ax.ix (cl:=Cell.cl) z slc_22 z z hy) (Qe 4 z (Q1 z z z (v:=.ipt (Arr2_3.cl a1) 0) (Ax.index_ipt (k:=.i64) (n:=0) z arr_97 z z (by decide) (by decide)) (Qe 1 z ?_)))
 obtain⟨y_1,hy_1,h⟩:=bs h
 refine Q1 z z z (Ax.ix (cl:=Cell.cl) z slc_22 z z hy_1) (Qe 4 z (Q1 z z z (v:=Ai (W (Int.tdiv (W (a0.Gain*(W (y.Height - y_1.Height)))) 100))) (Ax.div z z z (.inl z) (by decide)) (Qe 2 z (Rx ⟨by kernel_rfl,freshL_of [] (by kernel_rfl) (by kernel_rfl),?_⟩))))
 refine Te ?_
 exact Ri h z
theorem f202_ok {K:Nat} {a0:Laid_basin} {a1:Int} {a2:Int} {r:Int} (h:f202 K a0 a1 a2=some r):CallOK Tryz.prog 202 [.ipt (Laid_basin.cl a0) 0,Ai a1,Ai a2] [] (Ai r) []:=by
 refine Co Tryz.func202 z z (nl z) ?_
 unfold f202 at h
 refine Tp z (Tr (Qe 2 z (Q1 z z z (Ax.nil_ipt z z) (Qe 4 z (Q1 z z z (Ax.ln (cl:=Cell.cl) z slc_22 z) (Qd z (Te ?_)))))))
 exact Ri h z
theorem f219_ok {K:Nat} {a0:Laid_basin} {a1:Int} {a2:Int} {a3:Int} {a4:Reason} {r:Laid_basin} (h:f219 K a0 a1 a2 a3 a4=some r):CallOK Tryz.prog 219 [.ptr 80170000 0,Ai a1,Ai a2,Ai a3,.agg (Reason.cl a4)] [(80170010,.arr 174 3 (a0.net.Diffs.map Diff.cl)),(80170011,.arr 42 4 (a0.reasons.map Reason.cl)),(80170000,.box [.lst 4 (a0.s.Basin.Cells.map Cell.cl),.lst 2 (a0.s.Basin.Pairs.map Arr2_3.cl),Ai a0.s.Basin.Gain,Ai a0.s.Basin.Slack,Ai a0.s.Basin.Deep,.lst 1 (a0.s.Days.map icl),.lst 5 (a0.s.Sights.map Sight.cl),.lst 5 (a0.s.Changes.map Change.cl),Ai a0.net.Nodes,.hnd 80170010,.hnd 80170011])] (.tup []) [(80170510,.arr 174 3 (r.net.Diffs.map Diff.cl)),(80170511,.arr 42 4 (r.reasons.map Reason.cl)),(80170000,.box [.lst 4 (r.s.Basin.Cells.map Cell.cl),.lst 2 (r.s.Basin.Pairs.map Arr2_3.cl),Ai r.s.Basin.Gain,Ai r.s.Basin.Slack,Ai r.s.Basin.Deep,.lst 1 (r.s.Days.map icl),.lst 5 (r.s.Sights.map Sight.cl),.lst 5 (r.s.Changes.map Change.cl),Ai r.net.Nodes,.hnd 80170510,.hnd 80170511])]:=by
 refine Co Tryz.func219 z z (nl z) ?_
 unfold f219 at h
 refine Tp z (Tr (Qe 2 z (Q1 z z z (Ax.nil_ptr z z z) (Qe 6 z (Q1 z z z (v:=.agg (Diff.cl (⟨a1,a2,a3⟩:Diff))) (Ab_ z zer_174 (bld plc_174 zer_174) z ⟨Sub.refl _,Sub.refl _,Sub.refl _,u0⟩) (Q1 z z z (v:=.lst 3 (([(⟨a1,a2,a3⟩:Diff)]:List Diff).map Diff.cl)) (Ax.sl (xs:=([(⟨a1,a2,a3⟩:Diff)]:List Diff)) z slc_32 z z ⟨Sub.refl _,Sub.refl _,Sub.refl _,u0⟩ z Diff_len Diff_one Diff_im) ?_))))))
 obtain⟨z21,hz,h⟩:=bs h
 refine Qa z z z (v:=.hnd 21) (x:=some (.arr 174 3 (z21.map Diff.cl))) (Ax.app_l (cl:=Diff.cl) z z slc_32 z z z Diff_one Diff_im hz z z) z z z z z (Q1 z z z (Ax.nil_ptr z z z) (Qe 2 z (Qs z z (x:=some (.box [.lst 4 (a0.s.Basin.Cells.map Cell.cl),.lst 2 (a0.s.Basin.Pairs.map Arr2_3.cl),Ai a0.s.Basin.Gain,Ai a0.s.Basin.Slack,Ai a0.s.Basin.Deep,.lst 1 (a0.s.Days.map icl),.lst 5 (a0.s.Sights.map Sight.cl),.lst 5 (a0.s.Changes.map Change.cl),Ai a0.net.Nodes,.hnd 21,.hnd 80170011])) (As z siz_32 z z z z z z z) (Rx (Td [[],[],[1],[1,2],[1,2,3],[],[5],[1,2,3,4,5,6],[0,1,2,3,4,5,6,7],[0,1,2,3,4,5,6,7,8],[0,1,2,3,4,5,6,7,8,9]] hmix (by kernel_rfl) (Qe 2 z (Q1 z z z (Ax.nil_ptr z z z) (Qe 3 z (Q1 z z z (v:=.lst 4 (([a4]:List Reason).map Reason.cl)) (Ax.sl (xs:=([a4]:List Reason)) z slc_35 z z ⟨Sub.refl _,Sub.refl _,Sub.refl _,Sub.refl _,u0⟩ z Reason_len Reason_one Reason_im) ?_)))))))))
 obtain⟨z32,hz_1,h⟩:=bs h
 refine Qa z z z (v:=.hnd 32) (x:=some (.arr 42 4 (z32.map Reason.cl))) (Ax.app_l (cl:=Reason.cl) z z slc_35 z z z Reason_one Reason_im hz_1 z z) z z z z z (Q1 z z z (Ax.nil_ptr z z z) (Qe 1 z (Qs z z (x:=some (.box [.lst 4 (a0.s.Basin.Cells.map Cell.cl),.lst 2 (a0.s.Basin.Pairs.map Arr2_3.cl),Ai a0.s.Basin.Gain,Ai a0.s.Basin.Slack,Ai a0.s.Basin.Deep,.lst 1 (a0.s.Days.map icl),.lst 5 (a0.s.Sights.map Sight.cl),.lst 5 (a0.s.Changes.map Change.cl),Ai a0.net.Nodes,.hnd 21,.hnd 32])) (As z siz_35 z z z z z z z) (Rx ⟨by kernel_rfl,freshL_of [32] (by kernel_rfl) (by kernel_rfl),?_⟩))))
 refine RetQ.eq2 (fun r=>.tup []) (fun r=>[(80170510,.arr 174 3 (r.net.Diffs.map Diff.cl)),(80170511,.arr 42 4 (r.reasons.map Reason.cl)),(80170000,.box [.lst 4 (r.s.Basin.Cells.map Cell.cl),.lst 2 (r.s.Basin.Pairs.map Arr2_3.cl),Ai r.s.Basin.Gain,Ai r.s.Basin.Slack,Ai r.s.Basin.Deep,.lst 1 (r.s.Days.map icl),.lst 5 (r.s.Sights.map Sight.cl),.lst 5 (r.s.Changes.map Change.cl),Ai r.net.Nodes,.hnd 80170510,.hnd 80170511])]) (Option.some.inj h) ?_
 exact RetQ.mk (vs:=[]) (.inl z) z [] [(80170510,21,.arr 174 3 (z21.map Diff.cl)),(80170511,32,.arr 42 4 (z32.map Reason.cl)),(80170000,80170000,.box [.lst 4 (a0.s.Basin.Cells.map Cell.cl),.lst 2 (a0.s.Basin.Pairs.map Arr2_3.cl),Ai a0.s.Basin.Gain,Ai a0.s.Basin.Slack,Ai a0.s.Basin.Deep,.lst 1 (a0.s.Days.map icl),.lst 5 (a0.s.Sights.map Sight.cl),.lst 5 (a0.s.Changes.map Change.cl),Ai a0.net.Nodes,.hnd 80170510,.hnd 80170511])] z z ⟨⟨_,z,.arr (im_flat Diff_im z21)⟩,⟨_,z,.arr (im_flat Reason_im z32)⟩,⟨_,z,.boxV ⟨.rfl' z,.rfl' z,.rfl' z,.rfl' z,.rfl' z,.rfl' z,.rfl' z,.rfl' z,.rfl' z,.hnd mh,.hnd (mt mh),u0⟩⟩,u0⟩ (.tupV u0)
theorem f220_ok {K:Nat} {a0:Int} {a1:Int} {a2:Laid_basin} {a3:Basin} {a4:Scene} {r:Int} (h:f220 K a0 a1 a2 a3 a4=some r):CallOK Tryz.prog 220 [Ai a0,Ai a1,.ipt [.ipt (Laid_basin.cl a2) 0] 0,.ipt (Basin.cl a3) 0,.ipt (Scene.cl a4) 0] [] (Ai r) []:=by
 refine Co Tryz.func220 z z (nl z) ?_
 unfold f220 at h
 refine Tp z (Ts (Td [[],[],[],[1,2],[],[4],[],[1,2,3,4,5,6],[0,1,2,3,4,5,6,7],[0,1,2,3,4,5,6,7,8]] hmix (by kernel_rfl) (Qe 3 z ?_)))
 obtain⟨x11,hc,h⟩:=bs h
 refine Qc z z z (args:=[.agg (Basin.cl a3),Ai a0]) (r:=Ai x11) (calv z z fnok_221 z) (f221_ok hc) z (Qe 3 z ?_)
 obtain⟨x15,hc_1,h⟩:=bs h
 refine Qc z z z (args:=[.lst 1 (a4.Days.map icl),Ai a1]) (r:=Ai x15) (calv z z fnok_194 z) (f194_ok hc_1) z ?_
 obtain⟨x16,hc_2,h⟩:=bs h
 refine Qc z z z (args:=[.ipt (Laid_basin.cl a2) 0,Ai x11,Ai x15]) (r:=Ai x16) (calv z z fnok_202 z) (f202_ok hc_2) z (Qe 1 z (Rx ⟨by kernel_rfl,freshL_of [] (by kernel_rfl) (by kernel_rfl),?_⟩))
 refine Te ?_
 exact Ri h z
theorem f102_ok {K:Nat} {a0:Scene} {r:Laid_basin} (h:f102 K a0=some r):CallOK Tryz.prog 102 [.agg (Scene.cl a0)] [] (.ipt (Laid_basin.cl r) 0) []:=by
 refine Co Tryz.func102 z z (nl z) ?_
 unfold f102 at h
 refine Tp z (Tr (Qe 2 z (Qn z z z (v:=.ptr 3 0) (x:=some (.box (Basin.cl (⟨([]:List Cell),([]:List Arr2_3),0,0,0⟩:Basin)))) (Al_ z z zer_25 z ⟨Sub.nil _,Sub.nil _,Sub.refl _,Sub.refl _,Sub.refl _,u0⟩) z z z z z (Qs z z (x:=some (.box (Basin.cl a0.Basin))) (As z siz_25 z z z z z z z) (Rx (Tr (Qe 3 z (Q1 z z z (Ax.ln (cl:=icl) z slc_26 z) (Qe 2 z (Q1 z z z (Ax.ln (cl:=Cell.cl) z slc_22 z) (Qe 2 z (Q1 z z z (v:=.agg [Ai (W (1+(W ((a0.Days.length:Int)*(a0.Basin.Cells.length:Int))))),.sc (.slice none 0 0)]) (Ab_ z zer_34 (bld plc_34 zer_34) z ⟨Sub.refl _,Sub.refl _,u0⟩) ?_))))))))))))
 refine Q1 z z z (v:=.agg [.lst 4 (a0.Basin.Cells.map Cell.cl),.lst 2 (a0.Basin.Pairs.map Arr2_3.cl),Ai a0.Basin.Gain,Ai a0.Basin.Slack,Ai a0.Basin.Deep,.lst 1 (a0.Days.map icl),.lst 5 (a0.Sights.map Sight.cl),.lst 5 (a0.Changes.map Change.cl),Ai (W (1+(W ((a0.Days.length:Int)*(a0.Basin.Cells.length:Int))))),.sc (.slice none 0 0),.sc (.slice none 0 0)]) (Ab_ z zer_170 (bld plc_170 zer_170) z ⟨Sub.refl _,Sub.refl _,Sub.refl _,Sub.refl _,Sub.refl _,Sub.refl _,Sub.refl _,Sub.refl _,Sub.refl _,Sub.refl _,Sub.refl _,u0⟩) (Qn z z z (v:=.ptr 35 0) (x:=some (.box [.lst 4 (a0.Basin.Cells.map Cell.cl),.lst 2 (a0.Basin.Pairs.map Arr2_3.cl),Ai a0.Basin.Gain,Ai a0.Basin.Slack,Ai a0.Basin.Deep,.lst 1 (a0.Days.map icl),.lst 5 (a0.Sights.map Sight.cl),.lst 5 (a0.Changes.map Change.cl),Ai (W (1+(W ((a0.Days.length:Int)*(a0.Basin.Cells.length:Int))))),.sc (.slice none 0 0),.sc (.slice none 0 0)])) (Ax.box_ptr z z z z) z z z z z (Qn z z z (v:=.ptr 4 0) (x:=some (.box [.sc (.pointer none)])) (Al_ z z zer_167 z ⟨Sub.refl _,u0⟩) z z z z z (Qs z z (x:=some (.box [.ptr 35 0])) (As z siz_167 z z z z z z z) (Rx (Tn (Eg 35 9 900003509 174 3 (cells':=[.lst 4 (a0.Basin.Cells.map Cell.cl),.lst 2 (a0.Basin.Pairs.map Arr2_3.cl),Ai a0.Basin.Gain,Ai a0.Basin.Slack,Ai a0.Basin.Deep,.lst 1 (a0.Days.map icl),.lst 5 (a0.Sights.map Sight.cl),.lst 5 (a0.Changes.map Change.cl),Ai (W (1+(W ((a0.Days.length:Int)*(a0.Basin.Cells.length:Int))))),.hnd 900003509,.sc (.slice none 0 0)]) z z z z) (Tn (Eg 35 10 901003510 42 4 (cells':=[.lst 4 (a0.Basin.Cells.map Cell.cl),.lst 2 (a0.Basin.Pairs.map Arr2_3.cl),Ai a0.Basin.Gain,Ai a0.Basin.Slack,Ai a0.Basin.Deep,.lst 1 (a0.Days.map icl),.lst 5 (a0.Sights.map Sight.cl),.lst 5 (a0.Changes.map Change.cl),Ai (W (1+(W ((a0.Days.length:Int)*(a0.Basin.Cells.length:Int))))),.hnd 900003509,.hnd 901003510]) z z z z) (Ts (Tr (Qe 2 z (Q1 z z z (Ax.ln (cl:=icl) z slc_26 z) (Qd z ?_)))))))))))
 obtain⟨⟨voo4_0_0_1,voo4_0_1_1,voo4_0_2_1,voo4_0_3_1,voo4_0_4_1,voo4_0_5_1,voo4_0_6_1,voo4_0_7_1,voo4_0_8_1,vooo4_0_9_1,vooo4_0_10_1⟩,hj,h⟩:=bs h
 refine Tri.rngLv hj (fun p=>⟨[(1,.ipt (Scene.cl a0) 0),(3,.ptr 3 0),(4,.ptr 4 0),(37,.lst 1 (a0.Days.map icl)),(38,Ai (a0.Days.length:Int)),(39,Ai p.1)],[(3,some (.box (Basin.cl a0.Basin))),(900003509,some (.arr 174 3 (p.2.2.2.2.2.2.2.2.2.2.1.map Diff.cl))),(901003510,some (.arr 42 4 (p.2.2.2.2.2.2.2.2.2.2.2.map Reason.cl))),(35,some (.box [.lst 4 (p.2.1.map Cell.cl),.lst 2 (p.2.2.1.map Arr2_3.cl),Ai p.2.2.2.1,Ai p.2.2.2.2.1,Ai p.2.2.2.2.2.1,.lst 1 (p.2.2.2.2.2.2.1.map icl),.lst 5 (p.2.2.2.2.2.2.2.1.map Sight.cl),.lst 5 (p.2.2.2.2.2.2.2.2.1.map Change.cl),Ai p.2.2.2.2.2.2.2.2.2.1,.hnd 900003509,.hnd 901003510])),(4,some (.box [.ptr 35 0]))]⟩) (fun(y:List Cell × List Arr2_3 × Int × Int × Int × List Int × List Sight × List Change × Int × List Diff × List Reason)=>⟨[(1,.ipt (Scene.cl a0) 0),(3,.ptr 3 0),(4,.ptr 4 0)],[(3,some (.box (Basin.cl a0.Basin))),(900003509,some (.arr 174 3 (y.2.2.2.2.2.2.2.2.2.1.map Diff.cl))),(901003510,some (.arr 42 4 (y.2.2.2.2.2.2.2.2.2.2.map Reason.cl))),(35,some (.box [.lst 4 (y.1.map Cell.cl),.lst 2 (y.2.1.map Arr2_3.cl),Ai y.2.2.1,Ai y.2.2.2.1,Ai y.2.2.2.2.1,.lst 1 (y.2.2.2.2.2.1.map icl),.lst 5 (y.2.2.2.2.2.2.1.map Sight.cl),.lst 5 (y.2.2.2.2.2.2.2.1.map Change.cl),Ai y.2.2.2.2.2.2.2.2.1,.hnd 900003509,.hnd 901003510])),(4,some (.box [.ptr 35 0]))]⟩) (Ee [3,900003509,901003510,35,4] z ⟨im_flat Diff_im ([]:List Diff),im_flat Reason_im ([]:List Reason),u0⟩) ?_ ?_ ?_
 ·refine Tr (Q1 z z z (v:=.fn 220 [.ptr 4 0,.ptr 3 0,.ipt (Scene.cl a0) 0]) (Ax.func z z) (Qd z (Ts (Tr (Qe 2 z (Q1 z z z (Ax.ln (cl:=Sight.cl) z slc_27 z) (Qd z ?_)))))))
  obtain⟨⟨voo4_0_0_3,voo4_0_1_3,voo4_0_2_3,voo4_0_3_3,voo4_0_4_3,voo4_0_5_3,voo4_0_6_3,voo4_0_7_3,voo4_0_8_3,vooo4_0_9_3,vooo4_0_10_3⟩,hj_1,h⟩:=bs h
  refine Tri.rngLv hj_1 (fun p=>⟨[(1,.ipt (Scene.cl a0) 0),(4,.ptr 4 0),(14,.fn 220 [.ptr 4 0,.ptr 3 0,.ipt (Scene.cl a0) 0]),(144,.lst 5 (a0.Sights.map Sight.cl)),(145,Ai (a0.Sights.length:Int)),(146,Ai p.1)],[(900003509,some (.arr 174 3 (p.2.2.2.2.2.2.2.2.2.2.1.map Diff.cl))),(901003510,some (.arr 42 4 (p.2.2.2.2.2.2.2.2.2.2.2.map Reason.cl))),(35,some (.box [.lst 4 (p.2.1.map Cell.cl),.lst 2 (p.2.2.1.map Arr2_3.cl),Ai p.2.2.2.1,Ai p.2.2.2.2.1,Ai p.2.2.2.2.2.1,.lst 1 (p.2.2.2.2.2.2.1.map icl),.lst 5 (p.2.2.2.2.2.2.2.1.map Sight.cl),.lst 5 (p.2.2.2.2.2.2.2.2.1.map Change.cl),Ai p.2.2.2.2.2.2.2.2.2.1,.hnd 900003509,.hnd 901003510])),(4,some (.box [.ptr 35 0])),(3,some (.box (Basin.cl a0.Basin)))]⟩) (fun(y:List Cell × List Arr2_3 × Int × Int × Int × List Int × List Sight × List Change × Int × List Diff × List Reason)=>⟨[(1,.ipt (Scene.cl a0) 0),(4,.ptr 4 0),(14,.fn 220 [.ptr 4 0,.ptr 3 0,.ipt (Scene.cl a0) 0])],[(900003509,some (.arr 174 3 (y.2.2.2.2.2.2.2.2.2.1.map Diff.cl))),(901003510,some (.arr 42 4 (y.2.2.2.2.2.2.2.2.2.2.map Reason.cl))),(35,some (.box [.lst 4 (y.1.map Cell.cl),.lst 2 (y.2.1.map Arr2_3.cl),Ai y.2.2.1,Ai y.2.2.2.1,Ai y.2.2.2.2.1,.lst 1 (y.2.2.2.2.2.1.map icl),.lst 5 (y.2.2.2.2.2.2.1.map Sight.cl),.lst 5 (y.2.2.2.2.2.2.2.1.map Change.cl),Ai y.2.2.2.2.2.2.2.2.1,.hnd 900003509,.hnd 901003510])),(4,some (.box [.ptr 35 0])),(3,some (.box (Basin.cl a0.Basin)))]⟩) (Ee [900003509,901003510,35,4,3] z ⟨imf Diff_im,imf Reason_im,u0⟩) ?_ ?_ ?_
  ·refine Ts (Tr (Qe 2 z (Q1 z z z (Ax.ln (cl:=Change.cl) z slc_28 z) (Qd z ?_))))
   obtain⟨⟨voo4_0_0_5,voo4_0_1_5,voo4_0_2_5,voo4_0_3_5,voo4_0_4_5,voo4_0_5_5,voo4_0_6_5,voo4_0_7_5,voo4_0_8_5,vooo4_0_9_5,vooo4_0_10_5⟩,hj_2,h⟩:=bs h
   refine Tri.rngLv hj_2 (fun p=>⟨[(4,.ptr 4 0),(14,.fn 220 [.ptr 4 0,.ptr 3 0,.ipt (Scene.cl a0) 0]),(174,.lst 5 (a0.Changes.map Change.cl)),(175,Ai (a0.Changes.length:Int)),(176,Ai p.1)],[(900003509,some (.arr 174 3 (p.2.2.2.2.2.2.2.2.2.2.1.map Diff.cl))),(901003510,some (.arr 42 4 (p.2.2.2.2.2.2.2.2.2.2.2.map Reason.cl))),(35,some (.box [.lst 4 (p.2.1.map Cell.cl),.lst 2 (p.2.2.1.map Arr2_3.cl),Ai p.2.2.2.1,Ai p.2.2.2.2.1,Ai p.2.2.2.2.2.1,.lst 1 (p.2.2.2.2.2.2.1.map icl),.lst 5 (p.2.2.2.2.2.2.2.1.map Sight.cl),.lst 5 (p.2.2.2.2.2.2.2.2.1.map Change.cl),Ai p.2.2.2.2.2.2.2.2.2.1,.hnd 900003509,.hnd 901003510])),(4,some (.box [.ptr 35 0])),(3,some (.box (Basin.cl a0.Basin)))]⟩) (fun(y:List Cell × List Arr2_3 × Int × Int × Int × List Int × List Sight × List Change × Int × List Diff × List Reason)=>⟨[(4,.ptr 4 0)],[(900003509,some (.arr 174 3 (y.2.2.2.2.2.2.2.2.2.1.map Diff.cl))),(901003510,some (.arr 42 4 (y.2.2.2.2.2.2.2.2.2.2.map Reason.cl))),(35,some (.box [.lst 4 (y.1.map Cell.cl),.lst 2 (y.2.1.map Arr2_3.cl),Ai y.2.2.1,Ai y.2.2.2.1,Ai y.2.2.2.2.1,.lst 1 (y.2.2.2.2.2.1.map icl),.lst 5 (y.2.2.2.2.2.2.1.map Sight.cl),.lst 5 (y.2.2.2.2.2.2.2.1.map Change.cl),Ai y.2.2.2.2.2.2.2.2.1,.hnd 900003509,.hnd 901003510])),(4,some (.box [.ptr 35 0]))]⟩) (Ee [900003509,901003510,35,4,3] z ⟨imf Diff_im,imf Reason_im,u0⟩) ?_ ?_ ?_
   ·refine Tp z (Te ?_)
    refine RetQ.eq2 (fun r=>.ipt (Laid_basin.cl r) 0) (fun r=>[]) (Option.some.inj h) ?_
    exact RetQ.mk (vs:=[.ptr 35 0]) (.inr z) ⟨_,_,z,.tmp z,z⟩ [35,900003509,901003510] [] z z u0 (.frz (.ptrV mh z ⟨(.imm z),(.imm z),(.imm z),(.imm z),(.imm z),(.imm z),(.imm z),(.imm z),(.imm z),(.hnd (mt mh) z (im_flat Diff_im vooo4_0_9_5)),(.hnd (mt (mt mh)) z (im_flat Reason_im vooo4_0_10_5)),u0⟩) z)
   ·rintro v176 ⟨voo4_0_0_4,voo4_0_1_4,voo4_0_2_4,voo4_0_3_4,voo4_0_4_4,voo4_0_5_4,voo4_0_6_4,voo4_0_7_4,voo4_0_8_4,vooo4_0_9_4,vooo4_0_10_4⟩ hi_2 h
    refine Tp z (Ts (Tc (b:=(decide (v176 < (a0.Changes.length:Int)))) z (fun hb=>?_) (fun hb=>?_)))
    ·exact(lt_f hi_2 hb).elim
    exact Tri.exit (Xi (voo4_0_0_4,voo4_0_1_4,voo4_0_2_4,voo4_0_3_4,voo4_0_4_4,voo4_0_5_4,voo4_0_6_4,voo4_0_7_4,voo4_0_8_4,vooo4_0_9_4,vooo4_0_10_4) (An h (Ee [900003509,901003510,35,4] z ⟨imf Diff_im,imf Reason_im,u0⟩)))
   rintro nx_2 x_2 v176 ⟨voo4_0_0_4,voo4_0_1_4,voo4_0_2_4,voo4_0_3_4,voo4_0_4_4,voo4_0_5_4,voo4_0_6_4,voo4_0_7_4,voo4_0_8_4,vooo4_0_9_4,vooo4_0_10_4⟩ _ hi_2 hw_2 hx_2 h
   refine Tp z (Ts (Tc (b:=(decide (v176 < (a0.Changes.length:Int)))) z (fun hb_1=>?_) (fun hb_1=>?_)))
   ·refine Tk (Ts (Tri.block (Tr (Qe 1 z (Q1 z z z (Ax.ix (cl:=Change.cl) z slc_28 z z hx_2) (Qe 1 z (Qn z z z (v:=.ptr 19 0) (x:=some (.box (Change.cl (⟨0,0,0,0,0⟩:Change)))) (Al_ z z zer_67 z ⟨Sub.refl _,Sub.refl _,Sub.refl _,Sub.refl _,Sub.refl _,u0⟩) z z z z z (Qe 1 z (Qs z z (x:=some (.box (Change.cl x_2))) (As z siz_67 z z z z z z z) (Rx (Ts (Td [[],[],[1],[],[3],[0,1,2,3,4],[],[],[7],[],[9],[0,1,2,3,4,5,6,7,8,9,10],[0,1,2,3,4,5,6,7,8,9,10,11],[0,1,2,3,4,5,6,7,8,9,10,11,12]] hmix (by kernel_rfl) ?_))))))))))))
    refine Qe 5 z ?_
    obtain⟨x186,hc,h⟩:=bs h
    refine Ql [4,35,900003509,901003510,3] z z z (args:=[Ai x_2.Cell,Ai x_2.From,.ptr 4 0,.ptr 3 0,.ipt (Scene.cl a0) 0]) (args':=[Ai x_2.Cell,Ai x_2.From,.ipt [.ipt (Laid_basin.cl (⟨(⟨(⟨voo4_0_0_4,voo4_0_1_4,voo4_0_2_4,voo4_0_3_4,voo4_0_4_4⟩:Basin),voo4_0_5_4,voo4_0_6_4,voo4_0_7_4⟩:Scene),(⟨voo4_0_8_4,vooo4_0_9_4⟩:Net),vooo4_0_10_4⟩:Laid_basin)) 0] 0,.ipt (Basin.cl a0.Basin) 0,.ipt (Scene.cl a0) 0]) (r:=Ai x186) (calv z z fnok_220 z) ⟨.imm z,.imm z,.ptrV mh z ⟨.ptrV (mt mh) z ⟨.imm z,.imm z,.imm z,.imm z,.imm z,.imm z,.imm z,.imm z,.imm z,.hnd (mt (mt mh)) z (im_flat Diff_im vooo4_0_9_4),.hnd (mt (mt (mt mh))) z (im_flat Reason_im vooo4_0_10_4),u0⟩,u0⟩,.ptrV (mt (mt (mt (mt mh)))) z ⟨.imm z,.imm z,.imm z,.imm z,.imm z,u0⟩,.imm z,u0⟩ (f220_ok hc) z z (Qe 5 z ?_)
    obtain⟨x192,hc_1,h⟩:=bs h
    refine Ql [4,35,900003509,901003510,3] z z z (args:=[Ai x_2.Cell,Ai x_2.To,.ptr 4 0,.ptr 3 0,.ipt (Scene.cl a0) 0]) (args':=[Ai x_2.Cell,Ai x_2.To,.ipt [.ipt (Laid_basin.cl (⟨(⟨(⟨voo4_0_0_4,voo4_0_1_4,voo4_0_2_4,voo4_0_3_4,voo4_0_4_4⟩:Basin),voo4_0_5_4,voo4_0_6_4,voo4_0_7_4⟩:Scene),(⟨voo4_0_8_4,vooo4_0_9_4⟩:Net),vooo4_0_10_4⟩:Laid_basin)) 0] 0,.ipt (Basin.cl a0.Basin) 0,.ipt (Scene.cl a0) 0]) (r:=Ai x192) (calv z z fnok_220 z) ⟨.imm z,.imm z,.ptrV mh z ⟨.ptrV (mt mh) z ⟨.imm z,.imm z,.imm z,.imm z,.imm z,.imm z,.imm z,.imm z,.imm z,.hnd (mt (mt mh)) z (im_flat Diff_im vooo4_0_9_4),.hnd (mt (mt (mt mh))) z (im_flat Reason_im vooo4_0_10_4),u0⟩,u0⟩,.ptrV (mt (mt (mt (mt mh)))) z ⟨.imm z,.imm z,.imm z,.imm z,.imm z,u0⟩,.imm z,u0⟩ (f220_ok hc_1) z z (Qe 2 z (Rx ⟨by kernel_rfl,freshL_of [] (by kernel_rfl) (by kernel_rfl),?_⟩))
    refine Ts (Tn (Ent.norm [] [(3,3,.box (Basin.cl a0.Basin)),(4,4,.box [.ptr 80170000 0]),(19,19,.box (Change.cl x_2)),(80170000,35,.box [.lst 4 (voo4_0_0_4.map Cell.cl),.lst 2 (voo4_0_1_4.map Arr2_3.cl),Ai voo4_0_2_4,Ai voo4_0_3_4,Ai voo4_0_4_4,.lst 1 (voo4_0_5_4.map icl),.lst 5 (voo4_0_6_4.map Sight.cl),.lst 5 (voo4_0_7_4.map Change.cl),Ai voo4_0_8_4,.hnd 80170010,.hnd 80170011]),(80170010,900003509,.arr 174 3 (vooo4_0_9_4.map Diff.cl)),(80170011,901003510,.arr 42 4 (vooo4_0_10_4.map Reason.cl))] [(4,.ptr 4 0),(14,.fn 220 [.ptr 4 0,.ptr 3 0,.ipt (Scene.cl a0) 0]),(18,Ai v176),(19,.ptr 19 0),(20,Ai x186),(21,Ai x192),(174,.lst 5 (a0.Changes.map Change.cl)),(175,Ai (a0.Changes.length:Int)),(176,Ai v176)] z ⟨⟨_,z,.boxV ⟨.rfl' z,.rfl' z,.rfl' z,.rfl' z,.rfl' z,u0⟩⟩,⟨_,z,.boxV ⟨.ptr (mt (mt (mt mh))),u0⟩⟩,⟨_,z,.boxV ⟨.rfl' z,.rfl' z,.rfl' z,.rfl' z,.rfl' z,u0⟩⟩,⟨_,z,.boxV ⟨.rfl' z,.rfl' z,.rfl' z,.rfl' z,.rfl' z,.rfl' z,.rfl' z,.rfl' z,.rfl' z,.hnd (mt (mt (mt (mt mh)))),.hnd (mt (mt (mt (mt (mt mh))))),u0⟩⟩,⟨_,z,.arr (im_flat Diff_im vooo4_0_9_4)⟩,⟨_,z,.arr (im_flat Reason_im vooo4_0_10_4)⟩,u0⟩ ⟨.ptr (mt mh),.fnV ⟨.ptr (mt mh),.ptr mh,.rfl' z,u0⟩,.rfl' z,.ptr (mt (mt mh)),.rfl' z,.rfl' z,.rfl' z,.rfl' z,.rfl' z,u0⟩) (Tri.region (Qe 6 z (Q1 z z z (v:=.agg (Reason.cl (⟨6,v176,0,true⟩:Reason))) (Ab_ z zer_42 (bld plc_42 zer_42) z ⟨Sub.refl _,Sub.refl _,Sub.refl _,Sub.refl _,u0⟩) ?_))))
    obtain⟨x200,hc_2,h⟩:=bs h
    refine Qo [(80170010,.arr 174 3 (vooo4_0_9_4.map Diff.cl)),(80170011,.arr 42 4 (vooo4_0_10_4.map Reason.cl)),(80170000,.box [.lst 4 (voo4_0_0_4.map Cell.cl),.lst 2 (voo4_0_1_4.map Arr2_3.cl),Ai voo4_0_2_4,Ai voo4_0_3_4,Ai voo4_0_4_4,.lst 1 (voo4_0_5_4.map icl),.lst 5 (voo4_0_6_4.map Sight.cl),.lst 5 (voo4_0_7_4.map Change.cl),Ai voo4_0_8_4,.hnd 80170010,.hnd 80170011])] [(80170510,.arr 174 3 (x200.net.Diffs.map Diff.cl)),(80170511,.arr 42 4 (x200.reasons.map Reason.cl)),(80170000,.box [.lst 4 (x200.s.Basin.Cells.map Cell.cl),.lst 2 (x200.s.Basin.Pairs.map Arr2_3.cl),Ai x200.s.Basin.Gain,Ai x200.s.Basin.Slack,Ai x200.s.Basin.Deep,.lst 1 (x200.s.Days.map icl),.lst 5 (x200.s.Sights.map Sight.cl),.lst 5 (x200.s.Changes.map Change.cl),Ai x200.net.Nodes,.hnd 80170510,.hnd 80170511])] [80170510,80170511] z z z (args:=[.ptr 80170000 0,Ai x186,Ai x192,Ai x_2.Hi,.agg (Reason.cl (⟨6,v176,0,true⟩:Reason))]) (r:=.tup []) (calv z z fnok_219 z) (f219_ok hc_2) ⟨z,z,z,u0⟩ z z z z z (Rx (Tn (Ent.norm [] [(3,3,.box (Basin.cl a0.Basin)),(4,4,.box [.ptr 80170000 0]),(19,19,.box (Change.cl x_2)),(80170000,80170000,.box [.lst 4 (x200.s.Basin.Cells.map Cell.cl),.lst 2 (x200.s.Basin.Pairs.map Arr2_3.cl),Ai x200.s.Basin.Gain,Ai x200.s.Basin.Slack,Ai x200.s.Basin.Deep,.lst 1 (x200.s.Days.map icl),.lst 5 (x200.s.Sights.map Sight.cl),.lst 5 (x200.s.Changes.map Change.cl),Ai x200.net.Nodes,.hnd 80170010,.hnd 80170011]),(80170010,80170510,.arr 174 3 (x200.net.Diffs.map Diff.cl)),(80170011,80170511,.arr 42 4 (x200.reasons.map Reason.cl))] [(4,.ptr 4 0),(14,.fn 220 [.ptr 4 0,.ptr 3 0,.ipt (Scene.cl a0) 0]),(18,Ai v176),(19,.ptr 19 0),(20,Ai x186),(21,Ai x192),(174,.lst 5 (a0.Changes.map Change.cl)),(175,Ai (a0.Changes.length:Int)),(176,Ai v176)] z ⟨⟨_,z,.boxV ⟨.rfl' z,.rfl' z,.rfl' z,.rfl' z,.rfl' z,u0⟩⟩,⟨_,z,.boxV ⟨.ptr (mt (mt (mt mh))),u0⟩⟩,⟨_,z,.boxV ⟨.rfl' z,.rfl' z,.rfl' z,.rfl' z,.rfl' z,u0⟩⟩,⟨_,z,.boxV ⟨.rfl' z,.rfl' z,.rfl' z,.rfl' z,.rfl' z,.rfl' z,.rfl' z,.rfl' z,.rfl' z,.hnd (mt (mt (mt (mt mh)))),.hnd (mt (mt (mt (mt (mt mh))))),u0⟩⟩,⟨_,z,.arr (im_flat Diff_im x200.net.Diffs)⟩,⟨_,z,.arr (im_flat Reason_im x200.reasons)⟩,u0⟩ ⟨.ptr (mt mh),.fnV ⟨.ptr (mt mh),.ptr mh,.rfl' z,u0⟩,.rfl' z,.ptr (mt (mt mh)),.rfl' z,.rfl' z,.rfl' z,.rfl' z,.rfl' z,u0⟩) (Tri.region (Qe 7 z (Q1 z z z (v:=.agg (Reason.cl (⟨6,v176,0,false⟩:Reason))) (Ab_ z zer_42 (bld plc_42 zer_42) z ⟨Sub.refl _,Sub.refl _,Sub.refl _,Sub.refl _,u0⟩) ?_)))))
    obtain⟨x209,hc_3,h⟩:=bs h
    exact Qo [(80170010,.arr 174 3 (x200.net.Diffs.map Diff.cl)),(80170011,.arr 42 4 (x200.reasons.map Reason.cl)),(80170000,.box [.lst 4 (x200.s.Basin.Cells.map Cell.cl),.lst 2 (x200.s.Basin.Pairs.map Arr2_3.cl),Ai x200.s.Basin.Gain,Ai x200.s.Basin.Slack,Ai x200.s.Basin.Deep,.lst 1 (x200.s.Days.map icl),.lst 5 (x200.s.Sights.map Sight.cl),.lst 5 (x200.s.Changes.map Change.cl),Ai x200.net.Nodes,.hnd 80170010,.hnd 80170011])] [(80170510,.arr 174 3 (x209.net.Diffs.map Diff.cl)),(80170511,.arr 42 4 (x209.reasons.map Reason.cl)),(80170000,.box [.lst 4 (x209.s.Basin.Cells.map Cell.cl),.lst 2 (x209.s.Basin.Pairs.map Arr2_3.cl),Ai x209.s.Basin.Gain,Ai x209.s.Basin.Slack,Ai x209.s.Basin.Deep,.lst 1 (x209.s.Days.map icl),.lst 5 (x209.s.Sights.map Sight.cl),.lst 5 (x209.s.Changes.map Change.cl),Ai x209.net.Nodes,.hnd 80170510,.hnd 80170511])] [80170510,80170511] z z z (args:=[.ptr 80170000 0,Ai x192,Ai x186,Ai (W (-x_2.Lo)),.agg (Reason.cl (⟨6,v176,0,false⟩:Reason))]) (r:=.tup []) (calv z z fnok_219 z) (f219_ok hc_3) ⟨z,z,z,u0⟩ z z z z z (Rx (Tq z (Xi (v176+1,(x209.s.Basin.Cells,x209.s.Basin.Pairs,x209.s.Basin.Gain,x209.s.Basin.Slack,x209.s.Basin.Deep,x209.s.Days,x209.s.Sights,x209.s.Changes,x209.net.Nodes,x209.net.Diffs,x209.reasons)) (An (An z h) (Es [80170510,80170511,80170000,4,3] [176] z ⟨imf Diff_im,imf Reason_im,u0⟩ ⟨.imm (Sub.of_eq (show Ai (v176+1)=Ai (W (v176+1)) from congrArg Ai hw_2.symm)) z,u0⟩)))))
   exact(lt_t hi_2 hb_1).elim
  ·rintro v146 ⟨voo4_0_0_2,voo4_0_1_2,voo4_0_2_2,voo4_0_3_2,voo4_0_4_2,voo4_0_5_2,voo4_0_6_2,voo4_0_7_2,voo4_0_8_2,vooo4_0_9_2,vooo4_0_10_2⟩ hi_1 h
   refine Tp z (Ts (Tc (b:=(decide (v146 < (a0.Sights.length:Int)))) z (fun hb_2=>?_) (fun hb_2=>?_)))
   ·exact(lt_f hi_1 hb_2).elim
   exact Tri.exit (Xi (voo4_0_0_2,voo4_0_1_2,voo4_0_2_2,voo4_0_3_2,voo4_0_4_2,voo4_0_5_2,voo4_0_6_2,voo4_0_7_2,voo4_0_8_2,vooo4_0_9_2,vooo4_0_10_2) (An h (Ee [900003509,901003510,35,4,3] z ⟨imf Diff_im,imf Reason_im,u0⟩)))
  rintro nx_1 x_1 v146 ⟨voo4_0_0_2,voo4_0_1_2,voo4_0_2_2,voo4_0_3_2,voo4_0_4_2,voo4_0_5_2,voo4_0_6_2,voo4_0_7_2,voo4_0_8_2,vooo4_0_9_2,vooo4_0_10_2⟩ _ hi_1 hw_1 hx_1 h
  refine Tp z (Ts (Tc (b:=(decide (v146 < (a0.Sights.length:Int)))) z (fun hb_3=>?_) (fun hb_3=>?_)))
  ·refine Tk (Ts (Tri.block (Tr (Qe 1 z (Q1 z z z (Ax.ix (cl:=Sight.cl) z slc_27 z z hx_1) (Qe 1 z (Qn z z z (v:=.ptr 16 0) (x:=some (.box (Sight.cl (⟨0,0,0,0,0⟩:Sight)))) (Al_ z z zer_64 z ⟨Sub.refl _,Sub.refl _,Sub.refl _,Sub.refl _,Sub.refl _,u0⟩) z z z z z (Qe 1 z (Qs z z (x:=some (.box (Sight.cl x_1))) (As z siz_64 z z z z z z z) (Rx (Tr (Qe 5 z ?_))))))))))))
   obtain⟨x156,hc_4,h⟩:=bs h
   refine Ql [4,35,900003509,901003510,3] z z z (args:=[Ai x_1.Cell,Ai x_1.Day,.ptr 4 0,.ptr 3 0,.ipt (Scene.cl a0) 0]) (args':=[Ai x_1.Cell,Ai x_1.Day,.ipt [.ipt (Laid_basin.cl (⟨(⟨(⟨voo4_0_0_2,voo4_0_1_2,voo4_0_2_2,voo4_0_3_2,voo4_0_4_2⟩:Basin),voo4_0_5_2,voo4_0_6_2,voo4_0_7_2⟩:Scene),(⟨voo4_0_8_2,vooo4_0_9_2⟩:Net),vooo4_0_10_2⟩:Laid_basin)) 0] 0,.ipt (Basin.cl a0.Basin) 0,.ipt (Scene.cl a0) 0]) (r:=Ai x156) (calv z z fnok_220 z) ⟨.imm z,.imm z,.ptrV mh z ⟨.ptrV (mt mh) z ⟨.imm z,.imm z,.imm z,.imm z,.imm z,.imm z,.imm z,.imm z,.imm z,.hnd (mt (mt mh)) z (im_flat Diff_im vooo4_0_9_2),.hnd (mt (mt (mt mh))) z (im_flat Reason_im vooo4_0_10_2),u0⟩,u0⟩,.ptrV (mt (mt (mt (mt mh)))) z ⟨.imm z,.imm z,.imm z,.imm z,.imm z,u0⟩,.imm z,u0⟩ (f220_ok hc_4) z z (Qd z (Ts (Tn (Ent.norm [] [(3,3,.box (Basin.cl a0.Basin)),(4,4,.box [.ptr 80170000 0]),(16,16,.box (Sight.cl x_1)),(80170000,35,.box [.lst 4 (voo4_0_0_2.map Cell.cl),.lst 2 (voo4_0_1_2.map Arr2_3.cl),Ai voo4_0_2_2,Ai voo4_0_3_2,Ai voo4_0_4_2,.lst 1 (voo4_0_5_2.map icl),.lst 5 (voo4_0_6_2.map Sight.cl),.lst 5 (voo4_0_7_2.map Change.cl),Ai voo4_0_8_2,.hnd 80170010,.hnd 80170011]),(80170010,900003509,.arr 174 3 (vooo4_0_9_2.map Diff.cl)),(80170011,901003510,.arr 42 4 (vooo4_0_10_2.map Reason.cl))] [(1,.ipt (Scene.cl a0) 0),(4,.ptr 4 0),(14,.fn 220 [.ptr 4 0,.ptr 3 0,.ipt (Scene.cl a0) 0]),(15,Ai v146),(16,.ptr 16 0),(17,Ai x156),(144,.lst 5 (a0.Sights.map Sight.cl)),(145,Ai (a0.Sights.length:Int)),(146,Ai v146)] z ⟨⟨_,z,.boxV ⟨.rfl' z,.rfl' z,.rfl' z,.rfl' z,.rfl' z,u0⟩⟩,⟨_,z,.boxV ⟨.ptr (mt (mt (mt mh))),u0⟩⟩,⟨_,z,.boxV ⟨.rfl' z,.rfl' z,.rfl' z,.rfl' z,.rfl' z,u0⟩⟩,⟨_,z,.boxV ⟨.rfl' z,.rfl' z,.rfl' z,.rfl' z,.rfl' z,.rfl' z,.rfl' z,.rfl' z,.rfl' z,.hnd (mt (mt (mt (mt mh)))),.hnd (mt (mt (mt (mt (mt mh))))),u0⟩⟩,⟨_,z,.arr (im_flat Diff_im vooo4_0_9_2)⟩,⟨_,z,.arr (im_flat Reason_im vooo4_0_10_2)⟩,u0⟩ ⟨.rfl' z,.ptr (mt mh),.fnV ⟨.ptr (mt mh),.ptr mh,.rfl' z,u0⟩,.rfl' z,.ptr (mt (mt mh)),.rfl' z,.rfl' z,.rfl' z,.rfl' z,u0⟩) (Tri.region (Qe 5 z (Q1 z z z (v:=.agg (Reason.cl (⟨5,v146,0,true⟩:Reason))) (Ab_ z zer_42 (bld plc_42 zer_42) z ⟨Sub.refl _,Sub.refl _,Sub.refl _,Sub.refl _,u0⟩) ?_))))))
   obtain⟨x163,hc_5,h⟩:=bs h
   refine Qo [(80170010,.arr 174 3 (vooo4_0_9_2.map Diff.cl)),(80170011,.arr 42 4 (vooo4_0_10_2.map Reason.cl)),(80170000,.box [.lst 4 (voo4_0_0_2.map Cell.cl),.lst 2 (voo4_0_1_2.map Arr2_3.cl),Ai voo4_0_2_2,Ai voo4_0_3_2,Ai voo4_0_4_2,.lst 1 (voo4_0_5_2.map icl),.lst 5 (voo4_0_6_2.map Sight.cl),.lst 5 (voo4_0_7_2.map Change.cl),Ai voo4_0_8_2,.hnd 80170010,.hnd 80170011])] [(80170510,.arr 174 3 (x163.net.Diffs.map Diff.cl)),(80170511,.arr 42 4 (x163.reasons.map Reason.cl)),(80170000,.box [.lst 4 (x163.s.Basin.Cells.map Cell.cl),.lst 2 (x163.s.Basin.Pairs.map Arr2_3.cl),Ai x163.s.Basin.Gain,Ai x163.s.Basin.Slack,Ai x163.s.Basin.Deep,.lst 1 (x163.s.Days.map icl),.lst 5 (x163.s.Sights.map Sight.cl),.lst 5 (x163.s.Changes.map Change.cl),Ai x163.net.Nodes,.hnd 80170510,.hnd 80170511])] [80170510,80170511] z z z (args:=[.ptr 80170000 0,Ai 0,Ai x156,Ai x_1.Hi,.agg (Reason.cl (⟨5,v146,0,true⟩:Reason))]) (r:=.tup []) (calv z z fnok_219 z) (f219_ok hc_5) ⟨z,z,z,u0⟩ z z z z z (Rx (Tn (Ent.norm [] [(3,3,.box (Basin.cl a0.Basin)),(4,4,.box [.ptr 80170000 0]),(16,16,.box (Sight.cl x_1)),(80170000,80170000,.box [.lst 4 (x163.s.Basin.Cells.map Cell.cl),.lst 2 (x163.s.Basin.Pairs.map Arr2_3.cl),Ai x163.s.Basin.Gain,Ai x163.s.Basin.Slack,Ai x163.s.Basin.Deep,.lst 1 (x163.s.Days.map icl),.lst 5 (x163.s.Sights.map Sight.cl),.lst 5 (x163.s.Changes.map Change.cl),Ai x163.net.Nodes,.hnd 80170010,.hnd 80170011]),(80170010,80170510,.arr 174 3 (x163.net.Diffs.map Diff.cl)),(80170011,80170511,.arr 42 4 (x163.reasons.map Reason.cl))] [(1,.ipt (Scene.cl a0) 0),(4,.ptr 4 0),(14,.fn 220 [.ptr 4 0,.ptr 3 0,.ipt (Scene.cl a0) 0]),(15,Ai v146),(16,.ptr 16 0),(17,Ai x156),(144,.lst 5 (a0.Sights.map Sight.cl)),(145,Ai (a0.Sights.length:Int)),(146,Ai v146)] z ⟨⟨_,z,.boxV ⟨.rfl' z,.rfl' z,.rfl' z,.rfl' z,.rfl' z,u0⟩⟩,⟨_,z,.boxV ⟨.ptr (mt (mt (mt mh))),u0⟩⟩,⟨_,z,.boxV ⟨.rfl' z,.rfl' z,.rfl' z,.rfl' z,.rfl' z,u0⟩⟩,⟨_,z,.boxV ⟨.rfl' z,.rfl' z,.rfl' z,.rfl' z,.rfl' z,.rfl' z,.rfl' z,.rfl' z,.rfl' z,.hnd (mt (mt (mt (mt mh)))),.hnd (mt (mt (mt (mt (mt mh))))),u0⟩⟩,⟨_,z,.arr (im_flat Diff_im x163.net.Diffs)⟩,⟨_,z,.arr (im_flat Reason_im x163.reasons)⟩,u0⟩ ⟨.rfl' z,.ptr (mt mh),.fnV ⟨.ptr (mt mh),.ptr mh,.rfl' z,u0⟩,.rfl' z,.ptr (mt (mt mh)),.rfl' z,.rfl' z,.rfl' z,.rfl' z,u0⟩) (Tri.region (Qe 6 z (Q1 z z z (v:=.agg (Reason.cl (⟨5,v146,0,false⟩:Reason))) (Ab_ z zer_42 (bld plc_42 zer_42) z ⟨Sub.refl _,Sub.refl _,Sub.refl _,Sub.refl _,u0⟩) ?_)))))
   obtain⟨x171,hc_6,h⟩:=bs h
   exact Qo [(80170010,.arr 174 3 (x163.net.Diffs.map Diff.cl)),(80170011,.arr 42 4 (x163.reasons.map Reason.cl)),(80170000,.box [.lst 4 (x163.s.Basin.Cells.map Cell.cl),.lst 2 (x163.s.Basin.Pairs.map Arr2_3.cl),Ai x163.s.Basin.Gain,Ai x163.s.Basin.Slack,Ai x163.s.Basin.Deep,.lst 1 (x163.s.Days.map icl),.lst 5 (x163.s.Sights.map Sight.cl),.lst 5 (x163.s.Changes.map Change.cl),Ai x163.net.Nodes,.hnd 80170010,.hnd 80170011])] [(80170510,.arr 174 3 (x171.net.Diffs.map Diff.cl)),(80170511,.arr 42 4 (x171.reasons.map Reason.cl)),(80170000,.box [.lst 4 (x171.s.Basin.Cells.map Cell.cl),.lst 2 (x171.s.Basin.Pairs.map Arr2_3.cl),Ai x171.s.Basin.Gain,Ai x171.s.Basin.Slack,Ai x171.s.Basin.Deep,.lst 1 (x171.s.Days.map icl),.lst 5 (x171.s.Sights.map Sight.cl),.lst 5 (x171.s.Changes.map Change.cl),Ai x171.net.Nodes,.hnd 80170510,.hnd 80170511])] [80170510,80170511] z z z (args:=[.ptr 80170000 0,Ai x156,Ai 0,Ai (W (-x_1.Lo)),.agg (Reason.cl (⟨5,v146,0,false⟩:Reason))]) (r:=.tup []) (calv z z fnok_219 z) (f219_ok hc_6) ⟨z,z,z,u0⟩ z z z z z (Rx (Tq z (Xi (v146+1,(x171.s.Basin.Cells,x171.s.Basin.Pairs,x171.s.Basin.Gain,x171.s.Basin.Slack,x171.s.Basin.Deep,x171.s.Days,x171.s.Sights,x171.s.Changes,x171.net.Nodes,x171.net.Diffs,x171.reasons)) (An (An z h) (Es [80170510,80170511,80170000,4,3] [146] z ⟨imf Diff_im,imf Reason_im,u0⟩ ⟨.imm (Sub.of_eq (show Ai (v146+1)=Ai (W (v146+1)) from congrArg Ai hw_1.symm)) z,u0⟩)))))
  exact(lt_t hi_1 hb_3).elim
 ·rintro v39 ⟨voo4_0_0,voo4_0_1,voo4_0_2,voo4_0_3,voo4_0_4,voo4_0_5,voo4_0_6,voo4_0_7,voo4_0_8,vooo4_0_9,vooo4_0_10⟩ hi h
  refine Tp z (Ts (Tc (b:=(decide (v39 < (a0.Days.length:Int)))) z (fun hb_4=>?_) (fun hb_4=>?_)))
  ·exact(lt_f hi hb_4).elim
  exact Tri.exit (Xi (voo4_0_0,voo4_0_1,voo4_0_2,voo4_0_3,voo4_0_4,voo4_0_5,voo4_0_6,voo4_0_7,voo4_0_8,vooo4_0_9,vooo4_0_10) (An h (Ee [3,900003509,901003510,35,4] z ⟨imf Diff_im,imf Reason_im,u0⟩)))
 rintro nx x v39 ⟨voo4_0_0,voo4_0_1,voo4_0_2,voo4_0_3,voo4_0_4,voo4_0_5,voo4_0_6,voo4_0_7,voo4_0_8,vooo4_0_9,vooo4_0_10⟩ _ hi hw hx h
 refine Tp z (Ts (Tc (b:=(decide (v39 < (a0.Days.length:Int)))) z (fun hb_5=>?_) (fun hb_5=>?_)))
 ·refine Tk (Ts (Tri.block (Tr (Qe 1 z (Q1 z z z (Ax.ix (cl:=icl) z slc_26 z z hx) (Qd z (Ts (Tr (Qe 2 z (Q1 z z z (Ax.ln (cl:=Cell.cl) z slc_22 z) (Qd z ?_)))))))))))
  obtain⟨⟨voo4_0_0_7,voo4_0_1_7,voo4_0_2_7,voo4_0_3_7,voo4_0_4_7,voo4_0_5_7,voo4_0_6_7,voo4_0_7_7,voo4_0_8_7,vooo4_0_9_7,vooo4_0_10_7⟩,hj_3,h⟩:=bs h
  refine Tri.rngLv hj_3 (fun p=>⟨[(1,.ipt (Scene.cl a0) 0),(3,.ptr 3 0),(4,.ptr 4 0),(5,Ai v39),(6,Ai x),(37,.lst 1 (a0.Days.map icl)),(38,Ai (a0.Days.length:Int)),(39,Ai v39),(45,.lst 4 (a0.Basin.Cells.map Cell.cl)),(46,Ai (a0.Basin.Cells.length:Int)),(47,Ai p.1)],[(3,some (.box (Basin.cl a0.Basin))),(900003509,some (.arr 174 3 (p.2.2.2.2.2.2.2.2.2.2.1.map Diff.cl))),(901003510,some (.arr 42 4 (p.2.2.2.2.2.2.2.2.2.2.2.map Reason.cl))),(35,some (.box [.lst 4 (p.2.1.map Cell.cl),.lst 2 (p.2.2.1.map Arr2_3.cl),Ai p.2.2.2.1,Ai p.2.2.2.2.1,Ai p.2.2.2.2.2.1,.lst 1 (p.2.2.2.2.2.2.1.map icl),.lst 5 (p.2.2.2.2.2.2.2.1.map Sight.cl),.lst 5 (p.2.2.2.2.2.2.2.2.1.map Change.cl),Ai p.2.2.2.2.2.2.2.2.2.1,.hnd 900003509,.hnd 901003510])),(4,some (.box [.ptr 35 0]))]⟩) (fun(y:List Cell × List Arr2_3 × Int × Int × Int × List Int × List Sight × List Change × Int × List Diff × List Reason)=>⟨[(1,.ipt (Scene.cl a0) 0),(3,.ptr 3 0),(4,.ptr 4 0),(5,Ai v39),(6,Ai x),(37,.lst 1 (a0.Days.map icl)),(38,Ai (a0.Days.length:Int)),(39,Ai v39)],[(3,some (.box (Basin.cl a0.Basin))),(900003509,some (.arr 174 3 (y.2.2.2.2.2.2.2.2.2.1.map Diff.cl))),(901003510,some (.arr 42 4 (y.2.2.2.2.2.2.2.2.2.2.map Reason.cl))),(35,some (.box [.lst 4 (y.1.map Cell.cl),.lst 2 (y.2.1.map Arr2_3.cl),Ai y.2.2.1,Ai y.2.2.2.1,Ai y.2.2.2.2.1,.lst 1 (y.2.2.2.2.2.1.map icl),.lst 5 (y.2.2.2.2.2.2.1.map Sight.cl),.lst 5 (y.2.2.2.2.2.2.2.1.map Change.cl),Ai y.2.2.2.2.2.2.2.2.1,.hnd 900003509,.hnd 901003510])),(4,some (.box [.ptr 35 0]))]⟩) (Ee [3,900003509,901003510,35,4] z ⟨imf Diff_im,imf Reason_im,u0⟩) ?_ ?_ ?_
  ·refine Tr (Qe 2 z (Q1 z z z (Ax.ln (cl:=Arr2_3.cl) z slc_23 z) (Qd z ?_)))
   obtain⟨⟨voo4_0_0_9,voo4_0_1_9,voo4_0_2_9,voo4_0_3_9,voo4_0_4_9,voo4_0_5_9,voo4_0_6_9,voo4_0_7_9,voo4_0_8_9,vooo4_0_9_9,vooo4_0_10_9⟩,hj_4,h⟩:=bs h
   refine Tri.rngLv hj_4 (fun p=>⟨[(1,.ipt (Scene.cl a0) 0),(3,.ptr 3 0),(4,.ptr 4 0),(5,Ai v39),(6,Ai x),(37,.lst 1 (a0.Days.map icl)),(38,Ai (a0.Days.length:Int)),(39,Ai v39),(76,.lst 2 (a0.Basin.Pairs.map Arr2_3.cl)),(77,Ai (a0.Basin.Pairs.length:Int)),(78,Ai p.1)],[(3,some (.box (Basin.cl a0.Basin))),(900003509,some (.arr 174 3 (p.2.2.2.2.2.2.2.2.2.2.1.map Diff.cl))),(901003510,some (.arr 42 4 (p.2.2.2.2.2.2.2.2.2.2.2.map Reason.cl))),(35,some (.box [.lst 4 (p.2.1.map Cell.cl),.lst 2 (p.2.2.1.map Arr2_3.cl),Ai p.2.2.2.1,Ai p.2.2.2.2.1,Ai p.2.2.2.2.2.1,.lst 1 (p.2.2.2.2.2.2.1.map icl),.lst 5 (p.2.2.2.2.2.2.2.1.map Sight.cl),.lst 5 (p.2.2.2.2.2.2.2.2.1.map Change.cl),Ai p.2.2.2.2.2.2.2.2.2.1,.hnd 900003509,.hnd 901003510])),(4,some (.box [.ptr 35 0]))]⟩) (fun(y:List Cell × List Arr2_3 × Int × Int × Int × List Int × List Sight × List Change × Int × List Diff × List Reason)=>⟨[(1,.ipt (Scene.cl a0) 0),(3,.ptr 3 0),(4,.ptr 4 0),(37,.lst 1 (a0.Days.map icl)),(38,Ai (a0.Days.length:Int)),(39,Ai v39)],[(3,some (.box (Basin.cl a0.Basin))),(900003509,some (.arr 174 3 (y.2.2.2.2.2.2.2.2.2.1.map Diff.cl))),(901003510,some (.arr 42 4 (y.2.2.2.2.2.2.2.2.2.2.map Reason.cl))),(35,some (.box [.lst 4 (y.1.map Cell.cl),.lst 2 (y.2.1.map Arr2_3.cl),Ai y.2.2.1,Ai y.2.2.2.1,Ai y.2.2.2.2.1,.lst 1 (y.2.2.2.2.2.1.map icl),.lst 5 (y.2.2.2.2.2.2.1.map Sight.cl),.lst 5 (y.2.2.2.2.2.2.2.1.map Change.cl),Ai y.2.2.2.2.2.2.2.2.1,.hnd 900003509,.hnd 901003510])),(4,some (.box [.ptr 35 0]))]⟩) (Ee [3,900003509,901003510,35,4] z ⟨imf Diff_im,imf Reason_im,u0⟩) ?_ ?_ ?_
   ·exact Tq z (Xi (v39+1,(voo4_0_0_9,voo4_0_1_9,voo4_0_2_9,voo4_0_3_9,voo4_0_4_9,voo4_0_5_9,voo4_0_6_9,voo4_0_7_9,voo4_0_8_9,vooo4_0_9_9,vooo4_0_10_9)) (An (An z h) (Es [3,900003509,901003510,35,4] [39] z ⟨imf Diff_im,imf Reason_im,u0⟩ ⟨.imm (Sub.of_eq (show Ai (v39+1)=Ai (W (v39+1)) from congrArg Ai hw.symm)) z,u0⟩)))
   ·rintro v78 ⟨voo4_0_0_8,voo4_0_1_8,voo4_0_2_8,voo4_0_3_8,voo4_0_4_8,voo4_0_5_8,voo4_0_6_8,voo4_0_7_8,voo4_0_8_8,vooo4_0_9_8,vooo4_0_10_8⟩ hi_4 h
    refine Tp z (Ts (Tc (b:=(decide (v78 < (a0.Basin.Pairs.length:Int)))) z (fun hb_6=>?_) (fun hb_6=>?_)))
    ·exact(lt_f hi_4 hb_6).elim
    exact Tri.exit (Xi (voo4_0_0_8,voo4_0_1_8,voo4_0_2_8,voo4_0_3_8,voo4_0_4_8,voo4_0_5_8,voo4_0_6_8,voo4_0_7_8,voo4_0_8_8,vooo4_0_9_8,vooo4_0_10_8) (An h (Ee [3,900003509,901003510,35,4] z ⟨imf Diff_im,imf Reason_im,u0⟩)))
   rintro nx_4 x_4 v78 ⟨voo4_0_0_8,voo4_0_1_8,voo4_0_2_8,voo4_0_3_8,voo4_0_4_8,voo4_0_5_8,voo4_0_6_8,voo4_0_7_8,voo4_0_8_8,vooo4_0_9_8,vooo4_0_10_8⟩ _ hi_4 hw_4 hx_4 h
   refine Tp z (Ts (Tc (b:=(decide (v78 < (a0.Basin.Pairs.length:Int)))) z (fun hb_7=>?_) (fun hb_7=>?_)))
   ·refine Tk (Ts ?_)
    obtain⟨⟨voo4_0_0_10,voo4_0_1_10,voo4_0_2_10,voo4_0_3_10,voo4_0_4_10,voo4_0_5_10,voo4_0_6_10,voo4_0_7_10,voo4_0_8_10,vooo4_0_9_10,vooo4_0_10_10⟩,hj_5,h⟩:=bs h
    refine Tri.joinv (voo4_0_0_10,voo4_0_1_10,voo4_0_2_10,voo4_0_3_10,voo4_0_4_10,voo4_0_5_10,voo4_0_6_10,voo4_0_7_10,voo4_0_8_10,vooo4_0_9_10,vooo4_0_10_10) (fun(y:List Cell × List Arr2_3 × Int × Int × Int × List Int × List Sight × List Change × Int × List Diff × List Reason)=>⟨[(1,.ipt (Scene.cl a0) 0),(3,.ptr 3 0),(4,.ptr 4 0),(5,Ai v39),(6,Ai x),(37,.lst 1 (a0.Days.map icl)),(38,Ai (a0.Days.length:Int)),(39,Ai v39),(76,.lst 2 (a0.Basin.Pairs.map Arr2_3.cl)),(77,Ai (a0.Basin.Pairs.length:Int)),(78,Ai v78)],[(3,some (.box (Basin.cl a0.Basin))),(900003509,some (.arr 174 3 (y.2.2.2.2.2.2.2.2.2.1.map Diff.cl))),(901003510,some (.arr 42 4 (y.2.2.2.2.2.2.2.2.2.2.map Reason.cl))),(35,some (.box [.lst 4 (y.1.map Cell.cl),.lst 2 (y.2.1.map Arr2_3.cl),Ai y.2.2.1,Ai y.2.2.2.1,Ai y.2.2.2.2.1,.lst 1 (y.2.2.2.2.2.1.map icl),.lst 5 (y.2.2.2.2.2.2.1.map Sight.cl),.lst 5 (y.2.2.2.2.2.2.2.1.map Change.cl),Ai y.2.2.2.2.2.2.2.2.1,.hnd 900003509,.hnd 901003510])),(4,some (.box [.ptr 35 0]))]⟩) ?_ ?_
    ·exact Tq z (Xi (v78+1,(voo4_0_0_10,voo4_0_1_10,voo4_0_2_10,voo4_0_3_10,voo4_0_4_10,voo4_0_5_10,voo4_0_6_10,voo4_0_7_10,voo4_0_8_10,vooo4_0_9_10,vooo4_0_10_10)) (An (An z h) (Es [3,900003509,901003510,35,4] [78] z ⟨imf Diff_im,imf Reason_im,u0⟩ ⟨.imm (Sub.of_eq (show Ai (v78+1)=Ai (W (v78+1)) from congrArg Ai hw_4.symm)) z,u0⟩)))
    have h:=hj_5
    refine Tri.block (Tr (Qe 1 z (Q1 z z z (Ax.ix (cl:=Arr2_3.cl) z slc_23 z z hx_4) (Qe 1 z (Qn z z z (v:=.ptr 10 0) (x:=some (.box (Arr2_3.cl (⟨0,0⟩:Arr2_3)))) (Al_ z z zer_97 z ⟨Sub.refl _,Sub.refl _,u0⟩) z z z z z (Qe 1 z (Qs z z (x:=some (.box (Arr2_3.cl x_4))) (As z siz_97 z z z z z z z) (Rx (Ts (Td [[],[0],[],[2],[0,1,2,3],[0,1,2,3,4],[],[6],[],[8],[6,7,8,9],[6,7,8,9,10],[],[],[0,1,2,3,4,5,12,13],[0,1,2,3,4,5,6,7,8,9,10,11,12,13,14]] hmix (by kernel_rfl) (Qe 2 z (Q1 z z z (Ax.index_ptr (k:=.i64) (n:=0) z arr_97 z z z (by decide) (by decide)) ?_))))))))))))
    refine Qe 1 z ?_
    obtain⟨y,hy,h⟩:=bs h
    refine Q1 z z z (Ax.ix (cl:=Cell.cl) z slc_22 z z hy) (Qe 3 z (Q1 z z z (Ax.index_ptr (k:=.i64) (n:=1) z arr_97 z z z (by decide) (by decide)) (Qe 1 z ?_)))
    obtain⟨y_1,hy_1,h⟩:=bs h
    refine Q1 z z z (Ax.ix (cl:=Cell.cl) z slc_22 z z hy_1) (Qe 1 z (Qn z z z (v:=.ptr 11 0) (x:=some (.box (Cell.cl (⟨0,0,0,0⟩:Cell)))) (Al_ z z zer_56 z ⟨Sub.refl _,Sub.refl _,Sub.refl _,Sub.refl _,u0⟩) z z z z z (Qn z z z (v:=.ptr 12 0) (x:=some (.box (Cell.cl (⟨0,0,0,0⟩:Cell)))) (Al_ z z zer_56 z ⟨Sub.refl _,Sub.refl _,Sub.refl _,Sub.refl _,u0⟩) z z z z z (Qs z z (x:=some (.box (Cell.cl y))) (As z siz_56 z z z z z z z) (Qs z z (x:=some (.box (Cell.cl y_1))) (As z siz_56 z z z z z z z) (Rx ⟨by kernel_rfl,freshL_of [11,12] (by kernel_rfl) (by kernel_rfl),?_⟩))))))
    refine Ts (Tr (Qe 2 z ?_))
    obtain⟨x97,hc_7,h⟩:=bs h
    refine Qc z z z (args:=[.agg (Cell.cl y),.agg (Cell.cl y_1)]) (r:=Ab x97) (calv z z fnok_141 z) (f141_ok hc_7) z (Qd z (Tc (b:=(!x97)) z (fun hb_8=>?_) (fun hb_8=>?_)))
    ·have h:=cq hb_8 h
     exact Tri.exit (Xi (voo4_0_0_8,voo4_0_1_8,voo4_0_2_8,voo4_0_3_8,voo4_0_4_8,voo4_0_5_8,voo4_0_6_8,voo4_0_7_8,voo4_0_8_8,vooo4_0_9_8,vooo4_0_10_8) (An h (Ee [3,900003509,901003510,35,4] z ⟨imf Diff_im,imf Reason_im,u0⟩)))
    have h:=cw hb_8 h
    refine Tk (Tp z (Ts (Tp z ?_)))
    obtain⟨v13,hv,h⟩:=lt h
    refine Tri.join1 ⟨[(1,.ipt (Scene.cl a0) 0),(3,.ptr 3 0),(4,.ptr 4 0),(5,Ai v39),(6,Ai x),(9,Ai v78),(10,.ptr 10 0),(13,Ai v13),(37,.lst 1 (a0.Days.map icl)),(38,Ai (a0.Days.length:Int)),(39,Ai v39),(76,.lst 2 (a0.Basin.Pairs.map Arr2_3.cl)),(77,Ai (a0.Basin.Pairs.length:Int)),(78,Ai v78)],[(3,some (.box (Basin.cl a0.Basin))),(900003509,some (.arr 174 3 (vooo4_0_9_8.map Diff.cl))),(901003510,some (.arr 42 4 (vooo4_0_10_8.map Reason.cl))),(35,some (.box [.lst 4 (voo4_0_0_8.map Cell.cl),.lst 2 (voo4_0_1_8.map Arr2_3.cl),Ai voo4_0_2_8,Ai voo4_0_3_8,Ai voo4_0_4_8,.lst 1 (voo4_0_5_8.map icl),.lst 5 (voo4_0_6_8.map Sight.cl),.lst 5 (voo4_0_7_8.map Change.cl),Ai voo4_0_8_8,.hnd 900003509,.hnd 901003510])),(4,some (.box [.ptr 35 0])),(10,some (.box (Arr2_3.cl x_4)))]⟩ ?_ ?_
    ·refine Ts (Tn (Ent.norm [] [(3,3,.box (Basin.cl a0.Basin)),(4,4,.box [.ptr 80170000 0]),(10,10,.box (Arr2_3.cl x_4)),(80170000,35,.box [.lst 4 (voo4_0_0_8.map Cell.cl),.lst 2 (voo4_0_1_8.map Arr2_3.cl),Ai voo4_0_2_8,Ai voo4_0_3_8,Ai voo4_0_4_8,.lst 1 (voo4_0_5_8.map icl),.lst 5 (voo4_0_6_8.map Sight.cl),.lst 5 (voo4_0_7_8.map Change.cl),Ai voo4_0_8_8,.hnd 80170010,.hnd 80170011]),(80170010,900003509,.arr 174 3 (vooo4_0_9_8.map Diff.cl)),(80170011,901003510,.arr 42 4 (vooo4_0_10_8.map Reason.cl))] [(1,.ipt (Scene.cl a0) 0),(3,.ptr 3 0),(4,.ptr 4 0),(5,Ai v39),(6,Ai x),(9,Ai v78),(10,.ptr 10 0),(13,Ai v13),(37,.lst 1 (a0.Days.map icl)),(38,Ai (a0.Days.length:Int)),(39,Ai v39),(76,.lst 2 (a0.Basin.Pairs.map Arr2_3.cl)),(77,Ai (a0.Basin.Pairs.length:Int)),(78,Ai v78)] z ⟨⟨_,z,.boxV ⟨.rfl' z,.rfl' z,.rfl' z,.rfl' z,.rfl' z,u0⟩⟩,⟨_,z,.boxV ⟨.ptr (mt (mt (mt mh))),u0⟩⟩,⟨_,z,.boxV ⟨.rfl' z,.rfl' z,u0⟩⟩,⟨_,z,.boxV ⟨.rfl' z,.rfl' z,.rfl' z,.rfl' z,.rfl' z,.rfl' z,.rfl' z,.rfl' z,.rfl' z,.hnd (mt (mt (mt (mt mh)))),.hnd (mt (mt (mt (mt (mt mh))))),u0⟩⟩,⟨_,z,.arr (im_flat Diff_im vooo4_0_9_8)⟩,⟨_,z,.arr (im_flat Reason_im vooo4_0_10_8)⟩,u0⟩ ⟨.rfl' z,.ptr mh,.ptr (mt mh),.rfl' z,.rfl' z,.rfl' z,.ptr (mt (mt mh)),.rfl' z,.rfl' z,.rfl' z,.rfl' z,.rfl' z,.rfl' z,.rfl' z,u0⟩) (Td [[],[],[],[2],[],[1,2,3,4],[],[],[7],[],[1,2,3,4,5,6,7,8,9],[],[],[1,2,3,4,5,6,7,8,9,10,11,12],[],[],[14,15],[0,1,2,3,4,5,6,7,8,9,10,11,12,13,14,15,16]] hmix (by kernel_rfl) (Qe 2 z (Q1 z z z (Ax.index_ptr (k:=.i64) (n:=0) z arr_97 z z z (by decide) (by decide)) (Qe 2 z ?_)))))
     obtain⟨x111,hc_8,h⟩:=bs h
     refine Ql [80170000,80170010,80170011] z z z (args:=[.ptr 80170000 0,Ai x_4.a0,Ai v39]) (args':=[.ipt (Laid_basin.cl (⟨(⟨(⟨voo4_0_0_8,voo4_0_1_8,voo4_0_2_8,voo4_0_3_8,voo4_0_4_8⟩:Basin),voo4_0_5_8,voo4_0_6_8,voo4_0_7_8⟩:Scene),(⟨voo4_0_8_8,vooo4_0_9_8⟩:Net),vooo4_0_10_8⟩:Laid_basin)) 0,Ai x_4.a0,Ai v39]) (r:=Ai x111) (calv z z fnok_202 z) ⟨.ptrV mh z ⟨.imm z,.imm z,.imm z,.imm z,.imm z,.imm z,.imm z,.imm z,.imm z,.hnd (mt mh) z (im_flat Diff_im vooo4_0_9_8),.hnd (mt (mt mh)) z (im_flat Reason_im vooo4_0_10_8),u0⟩,.imm z,.imm z,u0⟩ (f202_ok hc_8) z z (Qe 1 z (Q1 z z z (Ax.index_ptr (k:=.i64) (n:=1) z arr_97 z z z (by decide) (by decide)) (Qe 2 z ?_)))
     obtain⟨x116,hc_9,h⟩:=bs h
     refine Ql [80170000,80170010,80170011] z z z (args:=[.ptr 80170000 0,Ai x_4.a1,Ai v39]) (args':=[.ipt (Laid_basin.cl (⟨(⟨(⟨voo4_0_0_8,voo4_0_1_8,voo4_0_2_8,voo4_0_3_8,voo4_0_4_8⟩:Basin),voo4_0_5_8,voo4_0_6_8,voo4_0_7_8⟩:Scene),(⟨voo4_0_8_8,vooo4_0_9_8⟩:Net),vooo4_0_10_8⟩:Laid_basin)) 0,Ai x_4.a1,Ai v39]) (r:=Ai x116) (calv z z fnok_202 z) ⟨.ptrV mh z ⟨.imm z,.imm z,.imm z,.imm z,.imm z,.imm z,.imm z,.imm z,.imm z,.hnd (mt mh) z (im_flat Diff_im vooo4_0_9_8),.hnd (mt (mt mh)) z (im_flat Reason_im vooo4_0_10_8),u0⟩,.imm z,.imm z,u0⟩ (f202_ok hc_9) z z (Qe 2 z ?_)
     obtain⟨x119,hc_10,h⟩:=bs h
     refine Qc z z z (args:=[.agg (Basin.cl a0.Basin),.agg (Arr2_3.cl x_4)]) (r:=Ai x119) (calv z z fnok_142 z) (f142_ok hc_10) z (Qe 2 z (Q1 z z z (v:=.agg (Reason.cl (⟨3,v78,x,false⟩:Reason))) (Ab_ z zer_42 (bld plc_42 zer_42) z ⟨Sub.refl _,Sub.refl _,Sub.refl _,Sub.refl _,u0⟩) ?_))
     obtain⟨x123,hc_11,h⟩:=bs h
     refine Qo [(80170010,.arr 174 3 (vooo4_0_9_8.map Diff.cl)),(80170011,.arr 42 4 (vooo4_0_10_8.map Reason.cl)),(80170000,.box [.lst 4 (voo4_0_0_8.map Cell.cl),.lst 2 (voo4_0_1_8.map Arr2_3.cl),Ai voo4_0_2_8,Ai voo4_0_3_8,Ai voo4_0_4_8,.lst 1 (voo4_0_5_8.map icl),.lst 5 (voo4_0_6_8.map Sight.cl),.lst 5 (voo4_0_7_8.map Change.cl),Ai voo4_0_8_8,.hnd 80170010,.hnd 80170011])] [(80170510,.arr 174 3 (x123.net.Diffs.map Diff.cl)),(80170511,.arr 42 4 (x123.reasons.map Reason.cl)),(80170000,.box [.lst 4 (x123.s.Basin.Cells.map Cell.cl),.lst 2 (x123.s.Basin.Pairs.map Arr2_3.cl),Ai x123.s.Basin.Gain,Ai x123.s.Basin.Slack,Ai x123.s.Basin.Deep,.lst 1 (x123.s.Days.map icl),.lst 5 (x123.s.Sights.map Sight.cl),.lst 5 (x123.s.Changes.map Change.cl),Ai x123.net.Nodes,.hnd 80170510,.hnd 80170511])] [80170510,80170511] z z z (args:=[.ptr 80170000 0,Ai x111,Ai x116,Ai x119,.agg (Reason.cl (⟨3,v78,x,false⟩:Reason))]) (r:=.tup []) (calv z z fnok_219 z) (f219_ok hc_11) ⟨z,z,z,u0⟩ z z z z z (Rx ⟨by kernel_rfl,freshL_of [80170510,80170511] (by kernel_rfl) (by kernel_rfl),?_⟩)
     refine Tn (Ent.norm [] [(3,3,.box (Basin.cl a0.Basin)),(4,4,.box [.ptr 80170000 0]),(10,10,.box (Arr2_3.cl x_4)),(80170000,80170000,.box [.lst 4 (x123.s.Basin.Cells.map Cell.cl),.lst 2 (x123.s.Basin.Pairs.map Arr2_3.cl),Ai x123.s.Basin.Gain,Ai x123.s.Basin.Slack,Ai x123.s.Basin.Deep,.lst 1 (x123.s.Days.map icl),.lst 5 (x123.s.Sights.map Sight.cl),.lst 5 (x123.s.Changes.map Change.cl),Ai x123.net.Nodes,.hnd 80170010,.hnd 80170011]),(80170010,80170510,.arr 174 3 (x123.net.Diffs.map Diff.cl)),(80170011,80170511,.arr 42 4 (x123.reasons.map Reason.cl))] [(1,.ipt (Scene.cl a0) 0),(3,.ptr 3 0),(4,.ptr 4 0),(5,Ai v39),(6,Ai x),(9,Ai v78),(10,.ptr 10 0),(13,Ai v13),(37,.lst 1 (a0.Days.map icl)),(38,Ai (a0.Days.length:Int)),(39,Ai v39),(76,.lst 2 (a0.Basin.Pairs.map Arr2_3.cl)),(77,Ai (a0.Basin.Pairs.length:Int)),(78,Ai v78)] z ⟨⟨_,z,.boxV ⟨.rfl' z,.rfl' z,.rfl' z,.rfl' z,.rfl' z,u0⟩⟩,⟨_,z,.boxV ⟨.ptr (mt (mt (mt mh))),u0⟩⟩,⟨_,z,.boxV ⟨.rfl' z,.rfl' z,u0⟩⟩,⟨_,z,.boxV ⟨.rfl' z,.rfl' z,.rfl' z,.rfl' z,.rfl' z,.rfl' z,.rfl' z,.rfl' z,.rfl' z,.hnd (mt (mt (mt (mt mh)))),.hnd (mt (mt (mt (mt (mt mh))))),u0⟩⟩,⟨_,z,.arr (im_flat Diff_im x123.net.Diffs)⟩,⟨_,z,.arr (im_flat Reason_im x123.reasons)⟩,u0⟩ ⟨.rfl' z,.ptr mh,.ptr (mt mh),.rfl' z,.rfl' z,.rfl' z,.ptr (mt (mt mh)),.rfl' z,.rfl' z,.rfl' z,.rfl' z,.rfl' z,.rfl' z,.rfl' z,u0⟩) (Td [[],[],[],[2],[],[1,2,3,4],[],[],[7],[],[1,2,3,4,5,6,7,8,9],[],[],[],[12,13],[0,1,2,3,4,5,6,7,8,9,10,11,12,13,14]] hmix (by kernel_rfl) (Qe 2 z (Q1 z z z (Ax.index_ptr (k:=.i64) (n:=1) z arr_97 z z z (by decide) (by decide)) (Qe 2 z ?_))))
     obtain⟨x129,hc_12,h⟩:=bs h
     refine Ql [80170000,80170010,80170011] z z z (args:=[.ptr 80170000 0,Ai x_4.a1,Ai v39]) (args':=[.ipt (Laid_basin.cl x123) 0,Ai x_4.a1,Ai v39]) (r:=Ai x129) (calv z z fnok_202 z) ⟨.ptrV mh z ⟨.imm z,.imm z,.imm z,.imm z,.imm z,.imm z,.imm z,.imm z,.imm z,.hnd (mt mh) z (im_flat Diff_im x123.net.Diffs),.hnd (mt (mt mh)) z (im_flat Reason_im x123.reasons),u0⟩,.imm z,.imm z,u0⟩ (f202_ok hc_12) z z (Qe 1 z (Q1 z z z (Ax.index_ptr (k:=.i64) (n:=0) z arr_97 z z z (by decide) (by decide)) (Qe 2 z ?_)))
     obtain⟨x134,hc_13,h⟩:=bs h
     refine Ql [80170000,80170010,80170011] z z z (args:=[.ptr 80170000 0,Ai x_4.a0,Ai v39]) (args':=[.ipt (Laid_basin.cl x123) 0,Ai x_4.a0,Ai v39]) (r:=Ai x134) (calv z z fnok_202 z) ⟨.ptrV mh z ⟨.imm z,.imm z,.imm z,.imm z,.imm z,.imm z,.imm z,.imm z,.imm z,.hnd (mt mh) z (im_flat Diff_im x123.net.Diffs),.hnd (mt (mt mh)) z (im_flat Reason_im x123.reasons),u0⟩,.imm z,.imm z,u0⟩ (f202_ok hc_13) z z (Qe 3 z (Q1 z z z (v:=.agg (Reason.cl (⟨4,v78,x,false⟩:Reason))) (Ab_ z zer_42 (bld plc_42 zer_42) z ⟨Sub.refl _,Sub.refl _,Sub.refl _,Sub.refl _,u0⟩) ?_))
     obtain⟨x139,hc_14,h⟩:=bs h
     refine Qo [(80170010,.arr 174 3 (x123.net.Diffs.map Diff.cl)),(80170011,.arr 42 4 (x123.reasons.map Reason.cl)),(80170000,.box [.lst 4 (x123.s.Basin.Cells.map Cell.cl),.lst 2 (x123.s.Basin.Pairs.map Arr2_3.cl),Ai x123.s.Basin.Gain,Ai x123.s.Basin.Slack,Ai x123.s.Basin.Deep,.lst 1 (x123.s.Days.map icl),.lst 5 (x123.s.Sights.map Sight.cl),.lst 5 (x123.s.Changes.map Change.cl),Ai x123.net.Nodes,.hnd 80170010,.hnd 80170011])] [(80170510,.arr 174 3 (x139.net.Diffs.map Diff.cl)),(80170511,.arr 42 4 (x139.reasons.map Reason.cl)),(80170000,.box [.lst 4 (x139.s.Basin.Cells.map Cell.cl),.lst 2 (x139.s.Basin.Pairs.map Arr2_3.cl),Ai x139.s.Basin.Gain,Ai x139.s.Basin.Slack,Ai x139.s.Basin.Deep,.lst 1 (x139.s.Days.map icl),.lst 5 (x139.s.Sights.map Sight.cl),.lst 5 (x139.s.Changes.map Change.cl),Ai x139.net.Nodes,.hnd 80170510,.hnd 80170511])] [80170510,80170511] z z z (args:=[.ptr 80170000 0,Ai x129,Ai x134,Ai v13,.agg (Reason.cl (⟨4,v78,x,false⟩:Reason))]) (r:=.tup []) (calv z z fnok_219 z) (f219_ok hc_14) ⟨z,z,z,u0⟩ z z z z z (Rx ⟨by kernel_rfl,freshL_of [80170510,80170511] (by kernel_rfl) (by kernel_rfl),?_⟩)
     exact Xi (x139.s.Basin.Cells,x139.s.Basin.Pairs,x139.s.Basin.Gain,x139.s.Basin.Slack,x139.s.Basin.Deep,x139.s.Days,x139.s.Sights,x139.s.Changes,x139.net.Nodes,x139.net.Diffs,x139.reasons) (An h (Ee [3,80170510,80170511,80170000,4] z ⟨imf Diff_im,imf Reason_im,u0⟩))
    refine Tc (b:=(y.Height==y_1.Height)) z (fun hb_9=>?_) (fun hb_9=>?_)
    ·exact Tq z ((Es [3,900003509,901003510,35,4,10] [13] z ⟨imf Diff_im,imf Reason_im,u0⟩ ⟨.imm (Sub.of_eq (show Ai v13=Ai a0.Basin.Slack by simp only [cond_true,cond_false,Bool.true_or,Bool.false_or,Bool.true_and,Bool.false_and,Bool.or_true,Bool.or_false,Bool.and_true,Bool.and_false,hv,hb_5,hb_7,hb_8,hb_9])) z,u0⟩))
    exact Tk ((Es [3,900003509,901003510,35,4,10] [13] z ⟨imf Diff_im,imf Reason_im,u0⟩ ⟨.imm (Sub.of_eq (show Ai v13=Ai 0 by simp only [cond_true,cond_false,Bool.true_or,Bool.false_or,Bool.true_and,Bool.false_and,Bool.or_true,Bool.or_false,Bool.and_true,Bool.and_false,hv,hb_5,hb_7,hb_8,hb_9])) z,u0⟩))
   exact(lt_t hi_4 hb_7).elim
  ·rintro v47 ⟨voo4_0_0_6,voo4_0_1_6,voo4_0_2_6,voo4_0_3_6,voo4_0_4_6,voo4_0_5_6,voo4_0_6_6,voo4_0_7_6,voo4_0_8_6,vooo4_0_9_6,vooo4_0_10_6⟩ hi_3 h
   refine Tp z (Ts (Tc (b:=(decide (v47 < (a0.Basin.Cells.length:Int)))) z (fun hb_10=>?_) (fun hb_10=>?_)))
   ·exact(lt_f hi_3 hb_10).elim
   exact Tri.exit (Xi (voo4_0_0_6,voo4_0_1_6,voo4_0_2_6,voo4_0_3_6,voo4_0_4_6,voo4_0_5_6,voo4_0_6_6,voo4_0_7_6,voo4_0_8_6,vooo4_0_9_6,vooo4_0_10_6) (An h (Ee [3,900003509,901003510,35,4] z ⟨imf Diff_im,imf Reason_im,u0⟩)))
  rintro nx_3 x_3 v47 ⟨voo4_0_0_6,voo4_0_1_6,voo4_0_2_6,voo4_0_3_6,voo4_0_4_6,voo4_0_5_6,voo4_0_6_6,voo4_0_7_6,voo4_0_8_6,vooo4_0_9_6,vooo4_0_10_6⟩ _ hi_3 hw_3 hx_3 h
  refine Tp z (Ts (Tc (b:=(decide (v47 < (a0.Basin.Cells.length:Int)))) z (fun hb_11=>?_) (fun hb_11=>?_)))
  ·refine Tk (Ts (Tri.block (Tr (Qe 1 z (Q1 z z z (Ax.ix (cl:=Cell.cl) z slc_22 z z hx_3) (Qe 1 z (Qn z z z (v:=.ptr 8 0) (x:=some (.box (Cell.cl (⟨0,0,0,0⟩:Cell)))) (Al_ z z zer_56 z ⟨Sub.refl _,Sub.refl _,Sub.refl _,Sub.refl _,u0⟩) z z z z z (Qe 1 z (Qs z z (x:=some (.box (Cell.cl x_3))) (As z siz_56 z z z z z z z) (Rx (Ts (Tn (Ent.norm [] [(3,3,.box (Basin.cl a0.Basin)),(4,4,.box [.ptr 80170000 0]),(8,8,.box (Cell.cl x_3)),(80170000,35,.box [.lst 4 (voo4_0_0_6.map Cell.cl),.lst 2 (voo4_0_1_6.map Arr2_3.cl),Ai voo4_0_2_6,Ai voo4_0_3_6,Ai voo4_0_4_6,.lst 1 (voo4_0_5_6.map icl),.lst 5 (voo4_0_6_6.map Sight.cl),.lst 5 (voo4_0_7_6.map Change.cl),Ai voo4_0_8_6,.hnd 80170010,.hnd 80170011]),(80170010,900003509,.arr 174 3 (vooo4_0_9_6.map Diff.cl)),(80170011,901003510,.arr 42 4 (vooo4_0_10_6.map Reason.cl))] [(1,.ipt (Scene.cl a0) 0),(3,.ptr 3 0),(4,.ptr 4 0),(5,Ai v39),(6,Ai x),(7,Ai v47),(8,.ptr 8 0),(37,.lst 1 (a0.Days.map icl)),(38,Ai (a0.Days.length:Int)),(39,Ai v39),(45,.lst 4 (a0.Basin.Cells.map Cell.cl)),(46,Ai (a0.Basin.Cells.length:Int)),(47,Ai v47)] z ⟨⟨_,z,.boxV ⟨.rfl' z,.rfl' z,.rfl' z,.rfl' z,.rfl' z,u0⟩⟩,⟨_,z,.boxV ⟨.ptr (mt (mt (mt mh))),u0⟩⟩,⟨_,z,.boxV ⟨.rfl' z,.rfl' z,.rfl' z,.rfl' z,u0⟩⟩,⟨_,z,.boxV ⟨.rfl' z,.rfl' z,.rfl' z,.rfl' z,.rfl' z,.rfl' z,.rfl' z,.rfl' z,.rfl' z,.hnd (mt (mt (mt (mt mh)))),.hnd (mt (mt (mt (mt (mt mh))))),u0⟩⟩,⟨_,z,.arr (im_flat Diff_im vooo4_0_9_6)⟩,⟨_,z,.arr (im_flat Reason_im vooo4_0_10_6)⟩,u0⟩ ⟨.rfl' z,.ptr mh,.ptr (mt mh),.rfl' z,.rfl' z,.rfl' z,.ptr (mt (mt mh)),.rfl' z,.rfl' z,.rfl' z,.rfl' z,.rfl' z,.rfl' z,u0⟩) ?_))))))))))))
   refine Td [[],[],[],[],[1,2,3],[],[5],[],[7],[],[7,8,9],[0,1,2,3,4,5,6,7,8,9,10]] hmix (by kernel_rfl) (Qe 4 z ?_)
   obtain⟨x56,hc_15,h⟩:=bs h
   refine Ql [80170000,80170010,80170011] z z z (args:=[.ptr 80170000 0,Ai v47,Ai v39]) (args':=[.ipt (Laid_basin.cl (⟨(⟨(⟨voo4_0_0_6,voo4_0_1_6,voo4_0_2_6,voo4_0_3_6,voo4_0_4_6⟩:Basin),voo4_0_5_6,voo4_0_6_6,voo4_0_7_6⟩:Scene),(⟨voo4_0_8_6,vooo4_0_9_6⟩:Net),vooo4_0_10_6⟩:Laid_basin)) 0,Ai v47,Ai v39]) (r:=Ai x56) (calv z z fnok_202 z) ⟨.ptrV mh z ⟨.imm z,.imm z,.imm z,.imm z,.imm z,.imm z,.imm z,.imm z,.imm z,.hnd (mt mh) z (im_flat Diff_im vooo4_0_9_6),.hnd (mt (mt mh)) z (im_flat Reason_im vooo4_0_10_6),u0⟩,.imm z,.imm z,u0⟩ (f202_ok hc_15) z z (Qe 5 z (Q1 z z z (v:=.agg (Reason.cl (⟨1,x_3.No,x,false⟩:Reason))) (Ab_ z zer_42 (bld plc_42 zer_42) z ⟨Sub.refl _,Sub.refl _,Sub.refl _,Sub.refl _,u0⟩) ?_))
   obtain⟨x63,hc_16,h⟩:=bs h
   refine Qo [(80170010,.arr 174 3 (vooo4_0_9_6.map Diff.cl)),(80170011,.arr 42 4 (vooo4_0_10_6.map Reason.cl)),(80170000,.box [.lst 4 (voo4_0_0_6.map Cell.cl),.lst 2 (voo4_0_1_6.map Arr2_3.cl),Ai voo4_0_2_6,Ai voo4_0_3_6,Ai voo4_0_4_6,.lst 1 (voo4_0_5_6.map icl),.lst 5 (voo4_0_6_6.map Sight.cl),.lst 5 (voo4_0_7_6.map Change.cl),Ai voo4_0_8_6,.hnd 80170010,.hnd 80170011])] [(80170510,.arr 174 3 (x63.net.Diffs.map Diff.cl)),(80170511,.arr 42 4 (x63.reasons.map Reason.cl)),(80170000,.box [.lst 4 (x63.s.Basin.Cells.map Cell.cl),.lst 2 (x63.s.Basin.Pairs.map Arr2_3.cl),Ai x63.s.Basin.Gain,Ai x63.s.Basin.Slack,Ai x63.s.Basin.Deep,.lst 1 (x63.s.Days.map icl),.lst 5 (x63.s.Sights.map Sight.cl),.lst 5 (x63.s.Changes.map Change.cl),Ai x63.net.Nodes,.hnd 80170510,.hnd 80170511])] [80170510,80170511] z z z (args:=[.ptr 80170000 0,Ai 0,Ai x56,Ai a0.Basin.Deep,.agg (Reason.cl (⟨1,x_3.No,x,false⟩:Reason))]) (r:=.tup []) (calv z z fnok_219 z) (f219_ok hc_16) ⟨z,z,z,u0⟩ z z z z z (Rx ⟨by kernel_rfl,freshL_of [80170510,80170511] (by kernel_rfl) (by kernel_rfl),?_⟩)
   refine Tn (Ent.norm [] [(3,3,.box (Basin.cl a0.Basin)),(4,4,.box [.ptr 80170000 0]),(8,8,.box (Cell.cl x_3)),(80170000,80170000,.box [.lst 4 (x63.s.Basin.Cells.map Cell.cl),.lst 2 (x63.s.Basin.Pairs.map Arr2_3.cl),Ai x63.s.Basin.Gain,Ai x63.s.Basin.Slack,Ai x63.s.Basin.Deep,.lst 1 (x63.s.Days.map icl),.lst 5 (x63.s.Sights.map Sight.cl),.lst 5 (x63.s.Changes.map Change.cl),Ai x63.net.Nodes,.hnd 80170010,.hnd 80170011]),(80170010,80170510,.arr 174 3 (x63.net.Diffs.map Diff.cl)),(80170011,80170511,.arr 42 4 (x63.reasons.map Reason.cl))] [(1,.ipt (Scene.cl a0) 0),(3,.ptr 3 0),(4,.ptr 4 0),(5,Ai v39),(6,Ai x),(7,Ai v47),(8,.ptr 8 0),(37,.lst 1 (a0.Days.map icl)),(38,Ai (a0.Days.length:Int)),(39,Ai v39),(45,.lst 4 (a0.Basin.Cells.map Cell.cl)),(46,Ai (a0.Basin.Cells.length:Int)),(47,Ai v47)] z ⟨⟨_,z,.boxV ⟨.rfl' z,.rfl' z,.rfl' z,.rfl' z,.rfl' z,u0⟩⟩,⟨_,z,.boxV ⟨.ptr (mt (mt (mt mh))),u0⟩⟩,⟨_,z,.boxV ⟨.rfl' z,.rfl' z,.rfl' z,.rfl' z,u0⟩⟩,⟨_,z,.boxV ⟨.rfl' z,.rfl' z,.rfl' z,.rfl' z,.rfl' z,.rfl' z,.rfl' z,.rfl' z,.rfl' z,.hnd (mt (mt (mt (mt mh)))),.hnd (mt (mt (mt (mt (mt mh))))),u0⟩⟩,⟨_,z,.arr (im_flat Diff_im x63.net.Diffs)⟩,⟨_,z,.arr (im_flat Reason_im x63.reasons)⟩,u0⟩ ⟨.rfl' z,.ptr mh,.ptr (mt mh),.rfl' z,.rfl' z,.rfl' z,.ptr (mt (mt mh)),.rfl' z,.rfl' z,.rfl' z,.rfl' z,.rfl' z,.rfl' z,u0⟩) (Td [[],[],[],[],[1,2,3],[],[5],[],[5,6,7],[0,1,2,3,4,5,6,7,8]] hmix (by kernel_rfl) (Qe 4 z ?_))
   obtain⟨x68,hc_17,h⟩:=bs h
   refine Ql [80170000,80170010,80170011] z z z (args:=[.ptr 80170000 0,Ai v47,Ai v39]) (args':=[.ipt (Laid_basin.cl x63) 0,Ai v47,Ai v39]) (r:=Ai x68) (calv z z fnok_202 z) ⟨.ptrV mh z ⟨.imm z,.imm z,.imm z,.imm z,.imm z,.imm z,.imm z,.imm z,.imm z,.hnd (mt mh) z (im_flat Diff_im x63.net.Diffs),.hnd (mt (mt mh)) z (im_flat Reason_im x63.reasons),u0⟩,.imm z,.imm z,u0⟩ (f202_ok hc_17) z z (Qe 3 z (Q1 z z z (v:=.agg (Reason.cl (⟨2,x_3.No,x,false⟩:Reason))) (Ab_ z zer_42 (bld plc_42 zer_42) z ⟨Sub.refl _,Sub.refl _,Sub.refl _,Sub.refl _,u0⟩) ?_))
   obtain⟨x73,hc_18,h⟩:=bs h
   refine Qo [(80170010,.arr 174 3 (x63.net.Diffs.map Diff.cl)),(80170011,.arr 42 4 (x63.reasons.map Reason.cl)),(80170000,.box [.lst 4 (x63.s.Basin.Cells.map Cell.cl),.lst 2 (x63.s.Basin.Pairs.map Arr2_3.cl),Ai x63.s.Basin.Gain,Ai x63.s.Basin.Slack,Ai x63.s.Basin.Deep,.lst 1 (x63.s.Days.map icl),.lst 5 (x63.s.Sights.map Sight.cl),.lst 5 (x63.s.Changes.map Change.cl),Ai x63.net.Nodes,.hnd 80170010,.hnd 80170011])] [(80170510,.arr 174 3 (x73.net.Diffs.map Diff.cl)),(80170511,.arr 42 4 (x73.reasons.map Reason.cl)),(80170000,.box [.lst 4 (x73.s.Basin.Cells.map Cell.cl),.lst 2 (x73.s.Basin.Pairs.map Arr2_3.cl),Ai x73.s.Basin.Gain,Ai x73.s.Basin.Slack,Ai x73.s.Basin.Deep,.lst 1 (x73.s.Days.map icl),.lst 5 (x73.s.Sights.map Sight.cl),.lst 5 (x73.s.Changes.map Change.cl),Ai x73.net.Nodes,.hnd 80170510,.hnd 80170511])] [80170510,80170511] z z z (args:=[.ptr 80170000 0,Ai x68,Ai 0,Ai 0,.agg (Reason.cl (⟨2,x_3.No,x,false⟩:Reason))]) (r:=.tup []) (calv z z fnok_219 z) (f219_ok hc_18) ⟨z,z,z,u0⟩ z z z z z (Rx ⟨by kernel_rfl,freshL_of [80170510,80170511] (by kernel_rfl) (by kernel_rfl),?_⟩)
   exact Tq z (Xi (v47+1,(x73.s.Basin.Cells,x73.s.Basin.Pairs,x73.s.Basin.Gain,x73.s.Basin.Slack,x73.s.Basin.Deep,x73.s.Days,x73.s.Sights,x73.s.Changes,x73.net.Nodes,x73.net.Diffs,x73.reasons)) (An (An z h) (Es [3,80170510,80170511,80170000,4] [47] z ⟨imf Diff_im,imf Reason_im,u0⟩ ⟨.imm (Sub.of_eq (show Ai (v47+1)=Ai (W (v47+1)) from congrArg Ai hw_3.symm)) z,u0⟩)))
  exact(lt_t hi_3 hb_11).elim
 exact(lt_t hi hb_5).elim
theorem f22_ok {K:Nat} {a0:Scene} {r:Net × List Reason × Int} (h:f22 K a0=some r):CallOK Tryz.prog 22 [.agg (Scene.cl a0)] [] (.tup [.agg (Net.cl r.1),.lst 4 (r.2.1.map Reason.cl),Ai r.2.2]) []:=by
 refine Co Tryz.func22 z z (nl z) ?_
 unfold f22 at h
 refine Tr (Qe 1 z (Qn z z z (v:=.ptr 2 0) (x:=some (.box (Net.cl (⟨0,([]:List Diff)⟩:Net)))) (Al_ z z zer_34 z ⟨Sub.refl _,Sub.nil _,u0⟩) z z z z z (Q1 z z z (v:=.lst 4 (([]:List Reason).map Reason.cl)) (Ax.nl 4 z z) (Qd z (Ts (Tr (Qe 1 z ?_)))))))
 obtain⟨x8,hc,h⟩:=bs h
 refine Qc z z z (args:=[.agg (Scene.cl a0)]) (r:=Ai x8) (calv z z fnok_66 z) (f66_ok hc) z (Qd z (Tp z (Tc (b:=(x8 != 0)) z (fun hb=>?_) (fun hb=>?_))))
 ·have h:=cq hb h
  refine Tr (Q1 z z z (v:=.agg (Net.cl (⟨0,([]:List Diff)⟩:Net))) (Ab_ z zer_34 (bld plc_34 zer_34) z ⟨Sub.refl _,Sub.nil _,u0⟩) (Qe 1 z (Qs z z (x:=some (.box (Net.cl (⟨0,([]:List Diff)⟩:Net)))) (As z siz_34 z z z z z z z) (Q1 z z z (v:=.lst 4 (([]:List Reason).map Reason.cl)) (Ax.nl 4 z z) (Qd z (Te ?_))))))
  refine Rr (fun r=>.tup [.agg (Net.cl r.1),.lst 4 (r.2.1.map Reason.cl),Ai r.2.2]) (fun r=>[]) [] h ?_ u0
  rfl
 have h:=cw hb h
 refine Tk (Tr (Qe 1 z ?_))
 obtain⟨x14,hc_1,h⟩:=bs h
 refine Qc z z z (args:=[.agg (Scene.cl a0)]) (r:=.ipt (Laid_basin.cl x14) 0) (calv z z fnok_102 z) (f102_ok hc_1) z (Qd z (Ts (Td [[],[0],[0,1],[0,1,2],[],[],[],[],[0,1,2,3],[],[]] hmix (by kernel_rfl) (Qe 1 z (Q1 z z z (Ax.nil_ipt z z) (Qe 3 z (Q1 z z z (Ax.nil_ipt z z) (Qe 2 z (Qs z z (x:=some (.box (Net.cl x14.net))) (As z siz_34 z z z z z z z) (Qe 2 z (Rx ⟨by kernel_rfl,freshL_of [] (by kernel_rfl) (by kernel_rfl),?_⟩)))))))))))
 refine Te ?_
 refine Rr (fun r=>.tup [.agg (Net.cl r.1),.lst 4 (r.2.1.map Reason.cl),Ai r.2.2]) (fun r=>[]) [] h ?_ u0
 rfl
theorem f282_ok {K:Nat} {a0:Int} {a1:Int} {a2:Int} {r:Bool} (h:f282 K a0 a1 a2=some r):CallOK Tryz.prog 282 [Ai a0,Ai a1,Ai a2] [] (Ab r) []:=by
 refine Co Tryz.func282 z z (nl z) ?_
 unfold f282 at h
 refine Tp z (Ts (Tri.join1 ⟨[(6,Ab ((decide (a0≥a1))&&(decide (a0≤a2))))],[]⟩ ?_ ?_))
 ·refine Te ?_
  exact Rb h z
 refine Tri.region (Qe 4 z ?_)
 rcases b2 (decide (a0≥a1)) with hb | hb
 ·exact Qk 10 hb z (Qd z ((Es0 [6] z ⟨.imm (Sub.of_eq (show Ab ((decide (a0≥a1))&&(decide (a0≤a2)))=Ab (decide (a0≤a2)) by simp only [cond_true,cond_false,Bool.true_or,Bool.false_or,Bool.true_and,Bool.false_and,Bool.or_true,Bool.or_false,Bool.and_true,Bool.and_false,hb])) z,u0⟩)))
 exact Qk 10 hb z (Qd z ((Es0 [6] z ⟨.imm (Sub.of_eq (show Ab ((decide (a0≥a1))&&(decide (a0≤a2)))=Ab false by simp only [cond_true,cond_false,Bool.true_or,Bool.false_or,Bool.true_and,Bool.false_and,Bool.or_true,Bool.or_false,Bool.and_true,Bool.and_false,hb])) z,u0⟩)))
theorem f301_ok {K:Nat} {a0:Diff} {a1:Int} {r:Bool} (h:f301 K a0 a1=some r):CallOK Tryz.prog 301 [.agg (Diff.cl a0),Ai a1] [] (Ab r) []:=by
 refine Co Tryz.func301 z z (nl z) ?_
 unfold f301 at h
 refine Tp z (Ts ?_)
 obtain⟨v4,hj,h⟩:=bs h
 refine Tri.joinv v4 (fun(y:Bool)=>⟨[(4,Ab y)],[]⟩) ?_ ?_
 ·refine Te ?_
  exact Rb h z
 have h:=hj
 refine Tri.region (Qe 4 z ?_)
 obtain⟨x9,hc,h⟩:=bs h
 refine Qc z z z (args:=[Ai a0.From,Ai 0,Ai (W (a1 - 1))]) (r:=Ab x9) (calv z z fnok_282 z) (f282_ok hc) z (Qe 1 z ?_)
 rcases b2 x9 with hb | hb
 ·have h:=cq hb h
  refine Qk 10 hb z (Qe 4 z ?_)
  obtain⟨x15,hc_1,h⟩:=bs h
  refine Qc z z z (args:=[Ai a0.To,Ai 0,Ai (W (a1 - 1))]) (r:=Ab x15) (calv z z fnok_282 z) (f282_ok hc_1) z (Qe 2 z ?_)
  rcases b2 x15 with hb_1 | hb_1
  ·have h:=cq hb_1 h
   refine Qk 17 hb_1 z (Qe 2 z ?_)
   obtain⟨x20,hc_2,h⟩:=bs h
   exact Qc z z z (args:=[Ai a0.Most,Ai (-1073741824),Ai 1073741824]) (r:=Ab x20) (calv z z fnok_282 z) (f282_ok hc_2) z (Qd z (Xi x20 (An h (E0 z))))
  have h:=cw hb_1 h
  exact Qk 17 hb_1 z (Qd z (Xi false (An h (E0 z))))
 have h:=cw hb h
 exact Qk 10 hb z (Qd z (Xi false (An h (E0 z))))
theorem f227_ok {K:Nat} {a0:Net} {r:Int} (h:f227 K a0=some r):CallOK Tryz.prog 227 [.agg (Net.cl a0)] [] (Ai r) []:=by
 refine Co Tryz.func227 z z (nl z) ?_
 unfold f227 at h
 refine Tp z (Ts (Ts ?_))
 obtain⟨v14,hj_1,h⟩:=bs h
 refine Tri.joinv v14 (fun(y:Bool)=>⟨[(1,.ipt (Net.cl a0) 0),(14,Ab y)],[]⟩) ?_ ?_
 ·refine Tc (b:=v14) z (fun hb=>?_) (fun hb=>?_)
  ·have h:=cq hb h
   refine Tp z (Te ?_)
   exact Ri h z
  have h:=cw hb h
  refine Tk (Ts (Tr (Qe 2 z (Q1 z z z (Ax.ln (cl:=Diff.cl) z slc_32 z) (Qd z ?_)))))
  obtain⟨j,hj,h⟩:=jo h
  refine Tri.rngL h (fun p=>⟨[(1,.ipt (Net.cl a0) 0),(16,.lst 3 (a0.Diffs.map Diff.cl)),(17,Ai (a0.Diffs.length:Int)),(18,Ai p.1)],[]⟩) (fun y=>j y=some r) (fun(y:Unit)=>⟨[],[]⟩) (E0 z) ?_ ?_ ?_
  ·rintro⟨⟩ h
   subst hj
   refine Tp z (Te ?_)
   exact Ri h z
  ·rintro v18 ⟨⟩ hi h
   refine Tp z (Ts (Tc (b:=(decide (v18 < (a0.Diffs.length:Int)))) z (fun hb_1=>?_) (fun hb_1=>?_)))
   ·exact(lt_f hi hb_1).elim
   exact Tri.exit (Xi () (An h (E0 z)))
  rintro nx x v18 ⟨⟩ _ hi hw hx h
  refine Tp z (Ts (Tc (b:=(decide (v18 < (a0.Diffs.length:Int)))) z (fun hb_2=>?_) (fun hb_2=>?_)))
  ·refine Tk (Ts (Tri.block (Tr (Q1 z z z (Ax.ix (cl:=Diff.cl) z slc_32 z z hx) (Qe 1 z (Qn z z z (v:=.ptr 4 0) (x:=some (.box (Diff.cl (⟨0,0,0⟩:Diff)))) (Al_ z z zer_174 z ⟨Sub.refl _,Sub.refl _,Sub.refl _,u0⟩) z z z z z (Qs z z (x:=some (.box (Diff.cl x))) (As z siz_174 z z z z z z z) (Rx (Tr (Qe 3 z ?_))))))))))
   obtain⟨x25,hc,h⟩:=bs h
   refine Qc z z z (args:=[.agg (Diff.cl x),Ai a0.Nodes]) (r:=Ab x25) (calv z z fnok_301 z) (f301_ok hc) z (Qd z (Tc (b:=(!x25)) z (fun hb_3=>?_) (fun hb_3=>?_)))
   ·have h:=cq hb_3 h
    refine Tp z (Te ?_)
    exact Ri h z
   have h:=cw hb_3 h
   exact Tk (Tq z (Xi (v18+1,()) (An (An z h) (Es0 [18] z ⟨.imm (Sub.of_eq (show Ai (v18+1)=Ai (W (v18+1)) from congrArg Ai hw.symm)) z,u0⟩))))
  exact(lt_t hi hb_2).elim
 have h:=hj_1
 refine Tri.region (Qe 2 z ?_)
 obtain⟨x7,hc_1,h⟩:=bs h
 refine Qc z z z (args:=[Ai a0.Nodes,Ai 1,Ai 256]) (r:=Ab x7) (calv z z fnok_282 z) (f282_ok hc_1) z (Qe 2 z ?_)
 rcases b2 (!x7) with hb_4 | hb_4
 ·have h:=cq hb_4 h
  exact Qk 9 hb_4 z (Qd z (Xi true (An h (E0 z))))
 have h:=cw hb_4 h
 exact Qk 9 hb_4 z (Qe 2 z (Q1 z z z (Ax.ln (cl:=Diff.cl) z slc_32 z) (Qd z (Xi (decide ((a0.Diffs.length:Int) > 4096)) (An h (E0 z))))))
theorem f339_ok {K:Nat} {a0:List Bool} {a1:Bool} {r:Int} (h:f339 K a0 a1=some r):CallOK Tryz.prog 339 [.lst 1 (a0.map bcl),Ab a1] [] (Ai r) []:=by
 refine Co Tryz.func339 z z (nl z) ?_
 unfold f339 at h
 refine Tp z (Ts (Tr (Qe 1 z (Q1 z z z (Ax.ln (cl:=bcl) z slc_191 z) (Qd z ?_)))))
 obtain⟨j,hj,h⟩:=jo h
 refine Tri.rngL h (fun p=>⟨[(0,.lst 1 (a0.map bcl)),(1,Ab a1),(7,Ai (a0.length:Int)),(8,Ai p.1)],[]⟩) (fun y=>j y=some r) (fun(y:Unit)=>⟨[],[]⟩) (E0 z) ?_ ?_ ?_
 ·rintro⟨⟩ h
  subst hj
  refine Tp z (Te ?_)
  exact Ri h z
 ·rintro v8 ⟨⟩ hi h
  refine Tp z (Ts (Tc (b:=(decide (v8 < (a0.length:Int)))) z (fun hb=>?_) (fun hb=>?_)))
  ·exact(lt_f hi hb).elim
  exact Tri.exit (Xi () (An h (E0 z)))
 rintro nx x v8 ⟨⟩ _ hi hw hx h
 refine Tp z (Ts (Tc (b:=(decide (v8 < (a0.length:Int)))) z (fun hb_1=>?_) (fun hb_1=>?_)))
 ·refine Tk (Ts (Tri.block (Tp z (Tr (Qe 3 z (Q1 z z z (Ax.ix (cl:=bcl) z slc_191 z z hx) (Qe 1 z (Q1 z z z (v:=Ab (a1==x)) (Ax.bool_eql bol_4 z z z) (Rx (Tc (b:=(a1==x)) z (fun hb_2=>?_) (fun hb_2=>?_)))))))))))
  ·have h:=cq hb_2 h
   refine Tp z (Te ?_)
   exact Ri h z
  have h:=cw hb_2 h
  exact Tk (Tq z (Xi (v8+1,()) (An (An z h) (Es0 [8] z ⟨.imm (Sub.of_eq (show Ai (v8+1)=Ai (W (v8+1)) from congrArg Ai hw.symm)) z,u0⟩))))
 exact(lt_t hi hb_1).elim
theorem f297_ok {K:Nat} {a0:List Bool} {a1:Bool} {r:Bool} (h:f297 K a0 a1=some r):CallOK Tryz.prog 297 [.lst 1 (a0.map bcl),Ab a1] [] (Ab r) []:=by
 refine Co Tryz.func297 z z (nl z) ?_
 unfold f297 at h
 refine Tp z (Tr (Qe 2 z ?_))
 obtain⟨x7,hc,h⟩:=bs h
 refine Qc z z z (args:=[.lst 1 (a0.map bcl),Ab a1]) (r:=Ai x7) (calv z z fnok_339 z) (f339_ok hc) z (Qd z (Te ?_))
 exact Rb h z
theorem f223_ok {K:Nat} {a0:Net} {a1:List Bool} {r:Int} (h:f223 K a0 a1=some r):CallOK Tryz.prog 223 [.agg (Net.cl a0),.lst 1 (a1.map bcl)] [] (Ai r) []:=by
 refine Co Tryz.func223 z z (nl z) ?_
 unfold f223 at h
 refine Tp z (Ts (Tr (Qe 1 z ?_)))
 obtain⟨x7,hc,h⟩:=bs h
 refine Qc z z z (args:=[.agg (Net.cl a0)]) (r:=Ai x7) (calv z z fnok_227 z) (f227_ok hc) z (Qd z (Tp z (Tc (b:=(x7 != 0)) z (fun hb=>?_) (fun hb=>?_))))
 ·have h:=cq hb h
  refine Tp z (Te ?_)
  exact Ri h z
 have h:=cw hb h
 refine Tk (Ts (Tr (Qe 1 z ?_)))
 obtain⟨x12,hc_1,h⟩:=bs h
 refine Qc z z z (args:=[.lst 1 (a1.map bcl),Ab false]) (r:=Ab x12) (calv z z fnok_297 z) (f297_ok hc_1) z (Rx (Tc (b:=x12) z (fun hb_1=>?_) (fun hb_1=>?_)))
 ·have h:=cq hb_1 h
  refine Tp z (Te ?_)
  exact Ri h z
 have h:=cw hb_1 h
 refine Tk (Tp z (Te ?_))
 exact Ri h z
theorem f337_ok {K:Nat} {a0:List Int} {a1:Int→Option Bool} {g1:Nat} {caps1:List AV} {r:Int} (hg1:FnOK Tryz.prog g1) (ho1:(AV.fn g1 caps1).only []=true) (hp1:∀ x0 r,a1 x0=some r→CallOK Tryz.prog g1 ([Ai x0]++caps1) [] (Ab r) []) (h:f337 K a0 a1=some r):CallOK Tryz.prog 337 [.lst 1 (a0.map icl),.fn g1 caps1] [] (Ai r) []:=by
 refine Co Tryz.func337 z z (nl z) ?_
 unfold f337 at h
 refine Tp z (Ts (Tr (Qe 1 z (Q1 z z z (Ax.ln (cl:=icl) z slc_26 z) (Qd z ?_)))))
 obtain⟨j,hj,h⟩:=jo h
 refine Tri.rngL h (fun p=>⟨[(0,.lst 1 (a0.map icl)),(1,.fn g1 caps1),(7,Ai (a0.length:Int)),(8,Ai p.1)],[]⟩) (fun y=>j y=some r) (fun(y:Unit)=>⟨[],[]⟩) (Es0 [1] z ⟨.imm (Sub.refl _) ho1,u0⟩) ?_ ?_ ?_
 ·rintro⟨⟩ h
  subst hj
  refine Tp z (Te ?_)
  exact Ri h z
 ·rintro v8 ⟨⟩ hi h
  refine Tp z (Ts (Tc (b:=(decide (v8 < (a0.length:Int)))) z (fun hb=>?_) (fun hb=>?_)))
  ·exact(lt_f hi hb).elim
  exact Tri.exit (Xi () (An h (E0 z)))
 rintro nx x v8 ⟨⟩ _ hi hw hx h
 refine Tp z (Ts (Tc (b:=(decide (v8 < (a0.length:Int)))) z (fun hb_1=>?_) (fun hb_1=>?_)))
 ·refine Tk (Ts (Tri.block (Tp z (Tr (Qe 3 z (Q1 z z z (Ax.ix (cl:=icl) z slc_26 z z hx) (Qe 1 z ?_)))))))
  obtain⟨x16,hc,h⟩:=bs h
  refine Qc z z z (args:=[Ai x]++caps1) (r:=Ab x16) (calv z z hg1 z) (hp1 _ _ hc) z (Rx (Tc (b:=x16) z (fun hb_2=>?_) (fun hb_2=>?_)))
  ·have h:=cq hb_2 h
   refine Tp z (Te ?_)
   exact Ri h z
  have h:=cw hb_2 h
  exact Tk (Tq z (Xi (v8+1,()) (An (An z h) (Es0 [1,8] z ⟨.imm (Sub.refl _) ho1,.imm (Sub.of_eq (show Ai (v8+1)=Ai (W (v8+1)) from congrArg Ai hw.symm)) z,u0⟩))))
 exact(lt_t hi hb_1).elim
theorem f292_ok {K:Nat} {a0:List Int} {a1:Int→Option Bool} {g1:Nat} {caps1:List AV} {r:Bool} (hg1:FnOK Tryz.prog g1) (ho1:(AV.fn g1 caps1).only []=true) (hp1:∀ x0 r,a1 x0=some r→CallOK Tryz.prog g1 ([Ai x0]++caps1) [] (Ab r) []) (h:f292 K a0 a1=some r):CallOK Tryz.prog 292 [.lst 1 (a0.map icl),.fn g1 caps1] [] (Ab r) []:=by
 refine Co Tryz.func292 z z (nl z) ?_
 unfold f292 at h
 refine Tp z (Tr (Qe 2 z ?_))
 obtain⟨x7,hc,h⟩:=bs h
 refine Qc z z z (args:=[.lst 1 (a0.map icl),.fn g1 caps1]) (r:=Ai x7) (calv z z fnok_337 z) (f337_ok hg1 ho1 hp1 hc) z (Qd z (Te ?_))
 exact Rb h z
theorem f298_ok {K:Nat} {a0:Int} {r:Bool} (h:f298 K a0=some r):CallOK Tryz.prog 298 [Ai a0] [] (Ab r) []:=by
 refine Co Tryz.func298 z z (nl z) ?_
 unfold f298 at h
 refine Tp z (Tr (Qe 1 z ?_))
 obtain⟨x4,hc,h⟩:=bs h
 refine Qc z z z (args:=[Ai a0,Ai (-1099511627776),Ai 1099511627776]) (r:=Ab x4) (calv z z fnok_282 z) (f282_ok hc) z (Qd z (Te ?_))
 exact Rb h z
theorem f224_ok {K:Nat} {a0:Int} {a1:List Int} {r:Bool} (h:f224 K a0 a1=some r):CallOK Tryz.prog 224 [Ai a0,.lst 1 (a1.map icl)] [] (Ab r) []:=by
 refine Co Tryz.func224 z z (nl z) ?_
 unfold f224 at h
 refine Tp z (Ts ?_)
 obtain⟨v4,hj,h⟩:=bs h
 refine Tri.joinv v4 (fun(y:Bool)=>⟨[(4,Ab y)],[]⟩) ?_ ?_
 ·refine Te ?_
  exact Rb h z
 have h:=hj
 refine Tri.region (Qe 1 z (Q1 z z z (Ax.ln (cl:=icl) z slc_26 z) (Qe 3 z ?_)))
 rcases b2 ((a1.length:Int)==a0) with hb | hb
 ·have h:=cq hb h
  refine Qk 9 hb z (Qe 1 z ?_)
  obtain⟨x11,hc,h⟩:=bs h
  exact Qc z z z (args:=[.lst 1 (a1.map icl),.fn 298 []]) (r:=Ab x11) (calv z z fnok_292 z) (f292_ok fnok_298 z (fun _ _ hr=>f298_ok hr) hc) z (Qd z (Xi (!x11) (An h (E0 z))))
 have h:=cw hb h
 exact Qk 9 hb z (Qd z (Xi false (An h (E0 z))))
theorem f340_ok {K:Nat} {a0:List Diff} {a1:Diff→Option Bool} {g1:Nat} {caps1:List AV} {r:Int} (hg1:FnOK Tryz.prog g1) (ho1:(AV.fn g1 caps1).only []=true) (hp1:∀ x0 r,a1 x0=some r→CallOK Tryz.prog g1 ([.agg (Diff.cl x0)]++caps1) [] (Ab r) []) (h:f340 K a0 a1=some r):CallOK Tryz.prog 340 [.lst 3 (a0.map Diff.cl),.fn g1 caps1] [] (Ai r) []:=by
 refine Co Tryz.func340 z z (nl z) ?_
 unfold f340 at h
 refine Tp z (Ts (Tr (Qe 1 z (Q1 z z z (Ax.ln (cl:=Diff.cl) z slc_32 z) (Qd z ?_)))))
 obtain⟨j,hj,h⟩:=jo h
 refine Tri.rngL h (fun p=>⟨[(0,.lst 3 (a0.map Diff.cl)),(1,.fn g1 caps1),(7,Ai (a0.length:Int)),(8,Ai p.1)],[]⟩) (fun y=>j y=some r) (fun(y:Unit)=>⟨[],[]⟩) (Es0 [1] z ⟨.imm (Sub.refl _) ho1,u0⟩) ?_ ?_ ?_
 ·rintro⟨⟩ h
  subst hj
  refine Tp z (Te ?_)
  exact Ri h z
 ·rintro v8 ⟨⟩ hi h
  refine Tp z (Ts (Tc (b:=(decide (v8 < (a0.length:Int)))) z (fun hb=>?_) (fun hb=>?_)))
  ·exact(lt_f hi hb).elim
  exact Tri.exit (Xi () (An h (E0 z)))
 rintro nx x v8 ⟨⟩ _ hi hw hx h
 refine Tp z (Ts (Tc (b:=(decide (v8 < (a0.length:Int)))) z (fun hb_1=>?_) (fun hb_1=>?_)))
 ·refine Tk (Ts (Tri.block (Tp z (Tr (Qe 3 z (Q1 z z z (Ax.ix (cl:=Diff.cl) z slc_32 z z hx) (Qe 1 z ?_)))))))
  obtain⟨x16,hc,h⟩:=bs h
  refine Qc z z z (args:=[.agg (Diff.cl x)]++caps1) (r:=Ab x16) (calv z z hg1 z) (hp1 _ _ hc) z (Rx (Tc (b:=x16) z (fun hb_2=>?_) (fun hb_2=>?_)))
  ·have h:=cq hb_2 h
   refine Tp z (Te ?_)
   exact Ri h z
  have h:=cw hb_2 h
  exact Tk (Tq z (Xi (v8+1,()) (An (An z h) (Es0 [1,8] z ⟨.imm (Sub.refl _) ho1,.imm (Sub.of_eq (show Ai (v8+1)=Ai (W (v8+1)) from congrArg Ai hw.symm)) z,u0⟩))))
 exact(lt_t hi hb_1).elim
theorem f299_ok {K:Nat} {a0:List Diff} {a1:Diff→Option Bool} {g1:Nat} {caps1:List AV} {r:Bool} (hg1:FnOK Tryz.prog g1) (ho1:(AV.fn g1 caps1).only []=true) (hp1:∀ x0 r,a1 x0=some r→CallOK Tryz.prog g1 ([.agg (Diff.cl x0)]++caps1) [] (Ab r) []) (h:f299 K a0 a1=some r):CallOK Tryz.prog 299 [.lst 3 (a0.map Diff.cl),.fn g1 caps1] [] (Ab r) []:=by
 refine Co Tryz.func299 z z (nl z) ?_
 unfold f299 at h
 refine Tp z (Tr (Qe 2 z ?_))
 obtain⟨x7,hc,h⟩:=bs h
 refine Qc z z z (args:=[.lst 3 (a0.map Diff.cl),.fn g1 caps1]) (r:=Ai x7) (calv z z fnok_340 z) (f340_ok hg1 ho1 hp1 hc) z (Qd z (Te ?_))
 exact Rb h z
theorem f300_ok {K:Nat} {a0:Diff} {a1:List Int} {r:Bool} (h:f300 K a0 a1=some r):CallOK Tryz.prog 300 [.agg (Diff.cl a0),.ipt (cl26 a1) 0] [] (Ab r) []:=by
 refine Co Tryz.func300 z z (nl z) ?_
 unfold f300 at h
 refine Tp z (Ts (Td [] hmix (by kernel_rfl) (Qe 3 z ?_)))
 obtain⟨y,hy,h⟩:=bs h
 refine Q1 z z z (Ax.ix (cl:=icl) z slc_26 z z hy) (Qe 4 z ?_)
 obtain⟨y_1,hy_1,h⟩:=bs h
 refine Q1 z z z (Ax.ix (cl:=icl) z slc_26 z z hy_1) (Qe 6 z (Rx ⟨by kernel_rfl,freshL_of [] (by kernel_rfl) (by kernel_rfl),?_⟩))
 refine Te ?_
 exact Rb h z
theorem f225_ok {K:Nat} {a0:Net} {a1:List Int} {r:Bool} (h:f225 K a0 a1=some r):CallOK Tryz.prog 225 [.agg (Net.cl a0),.lst 1 (a1.map icl)] [] (Ab r) []:=by
 refine Co Tryz.func225 z z (nl z) ?_
 unfold f225 at h
 refine Tp z (Ts ?_)
 obtain⟨v4,hj,h⟩:=bs h
 refine Tri.joinv v4 (fun(y:Bool)=>⟨[(4,Ab y)],[]⟩) ?_ ?_
 ·refine Te ?_
  exact Rb h z
 have h:=hj
 refine Tri.region (Qe 1 z ?_)
 obtain⟨y,hy,h⟩:=bs h
 refine Q1 z z z (Ax.ix (cl:=icl) z slc_26 z z hy) (Qe 3 z ?_)
 rcases b2 (y==0) with hb | hb
 ·have h:=cq hb h
  refine Qk 9 hb z (Qe 2 z (Q1 z z z (v:=.fn 300 [.ipt (cl26 a1) 0]) (Ax.func z z) ?_))
  obtain⟨x13,hc,h⟩:=bs h
  exact Qc z z z (args:=[.lst 3 (a0.Diffs.map Diff.cl),.fn 300 [.ipt (cl26 a1) 0]]) (r:=Ab x13) (calv z z fnok_299 z) (f299_ok fnok_300 z (fun _ _ hr=>f300_ok hr) hc) z (Qd z (Xi (!x13) (An h (E0 z))))
 have h:=cw hb h
 exact Qk 9 hb z (Qd z (Xi false (An h (E0 z))))
theorem f104_ok {K:Nat} {a0:Net} {a1:List Int} {r:Bool × Int} (h:f104 K a0 a1=some r):CallOK Tryz.prog 104 [.agg (Net.cl a0),.lst 1 (a1.map icl)] [] (.tup [Ab r.1,Ai r.2]) []:=by
 refine Co Tryz.func104 z z (nl z) ?_
 unfold f104 at h
 refine Tp z (Ts (Ts (Td [[],[],[1],[],[1,2,3],[1,2,3,4],[0,1,2,3,4,5],[0,1,2,3,4,5,6]] hmix (by kernel_rfl) (Qe 4 z ?_))))
 obtain⟨x11,hc,h⟩:=bs h
 refine Qc z z z (args:=[Ai a0.Nodes,.lst 1 (a1.map icl)]) (r:=Ab x11) (calv z z fnok_224 z) (f224_ok hc) z (Q1 z z z (v:=.lst 1 (([x11]:List Bool).map bcl)) (Ax.sl (xs:=([x11]:List Bool)) z slc_191 z z ⟨Sub.refl _,u0⟩ z bcl_len bcl_one bcl_im) ?_)
 obtain⟨x13,hc_1,h⟩:=bs h
 refine Qc z z z (args:=[.agg (Net.cl a0),.lst 1 (([x11]:List Bool).map bcl)]) (r:=Ai x13) (calv z z fnok_223 z) (f223_ok hc_1) z (Qe 1 z (Rx ⟨by kernel_rfl,freshL_of [] (by kernel_rfl) (by kernel_rfl),?_⟩))
 refine Tp z (Tc (b:=(x13 != 0)) z (fun hb=>?_) (fun hb=>?_))
 ·have h:=cq hb h
  refine Tp z (Te ?_)
  refine Rr (fun r=>.tup [Ab r.1,Ai r.2]) (fun r=>[]) [] h ?_ u0
  rfl
 have h:=cw hb h
 refine Tk (Tr (Qe 2 z ?_))
 obtain⟨x19,hc_2,h⟩:=bs h
 refine Qc z z z (args:=[.agg (Net.cl a0),.lst 1 (a1.map icl)]) (r:=Ab x19) (calv z z fnok_225 z) (f225_ok hc_2) z (Qd z (Te ?_))
 refine Rr (fun r=>.tup [Ab r.1,Ai r.2]) (fun r=>[]) [] h ?_ u0
 rfl
theorem f26_ok {K:Nat} {a0:Scene} {a1:List (List Int)} {r:Int} (h:f26 K a0 a1=some r):CallOK Tryz.prog 26 [.agg (Scene.cl a0),.lst 1 (a1.map cl26)] [] (Ai r) []:=by
 refine Co Tryz.func26 z z (nl z) ?_
 unfold f26 at h
 refine Tp z (Ts (Tr (Qe 1 z ?_)))
 obtain⟨x12,hc,h⟩:=bs h
 refine Qc z z z (args:=[.agg (Scene.cl a0)]) (r:=Ai x12) (calv z z fnok_66 z) (f66_ok hc) z (Qd z (Tp z (Tc (b:=(x12 != 0)) z (fun hb=>?_) (fun hb=>?_))))
 ·have h:=cq hb h
  refine Tp z (Te ?_)
  exact Ri h z
 have h:=cw hb h
 refine Tk (Ts (Tr (Qe 1 z (Q1 z z z (Ax.ln (cl:=cl26) z slc_44 z) (Qe 2 z (Q1 z z z (Ax.ln (cl:=icl) z slc_26 z) (Qd z (Tc (b:=((a1.length:Int) != (a0.Days.length:Int))) z (fun hb_1=>?_) (fun hb_1=>?_)))))))))
 ·have h:=cq hb_1 h
  refine Tp z (Te ?_)
  exact Ri h z
 have h:=cw hb_1 h
 refine Tk (Tr (Qn z z z (v:=.hnd 22) (x:=some (.arr 3 1 (([0]:List Int).map icl))) (Ax.so (xs:=([0]:List Int)) z z slc_26 z z ⟨Sub.refl _,u0⟩ z icl_len icl_one icl_im) z z z z z (Qd z (Ts (Tr (Qe 1 z (Q1 z z z (Ax.ln (cl:=cl26) z slc_44 z) (Qd z ?_))))))))
 obtain⟨j,hj,h⟩:=jo h
 refine Tri.rngL h (fun p=>⟨[(2,.ipt (Scene.cl a0) 0),(6,.hnd 22),(23,.lst 1 (a1.map cl26)),(24,Ai (a1.length:Int)),(25,Ai p.1)],[(22,some (.arr 3 1 (p.2.map icl)))]⟩) (fun y=>j y=some r) (fun(y:List Int)=>⟨[(2,.ipt (Scene.cl a0) 0),(6,.hnd 22)],[(22,some (.arr 3 1 (y.map icl)))]⟩) (Ee [22] z ⟨im_flat icl_im ([0]:List Int),u0⟩) ?_ ?_ ?_
 ·rintro vo6_1 h
  subst hj
  refine Ts (Tr (Qe 1 z ?_))
  obtain⟨x42,hc_1,h⟩:=bs h
  refine Qc z z z (args:=[.agg (Scene.cl a0)]) (r:=.ipt (Laid_basin.cl x42) 0) (calv z z fnok_102 z) (f102_ok hc_1) z (Q1 z z z (Ax.nil_ipt z z) (Qe 3 z ?_))
  obtain⟨⟨x47_0,x47_1⟩,hc_2,h⟩:=bs h
  refine Ql [22] z z z (args:=[.agg (Net.cl x42.net),.hnd 22]) (args':=[.agg (Net.cl x42.net),.lst 1 (vo6_1.map icl)]) (r:=.tup [Ab x47_0,Ai x47_1]) (calv z z fnok_104 z) ⟨.im z,.hnd mh z (im_flat icl_im vo6_1),u0⟩ (f104_ok hc_2) z z (Qd z (Ts (Tri.join1 ⟨[(55,Ab ((x47_1 != 0)||(!x47_0)))],[]⟩ ?_ ?_)))
  ·refine Tc (b:=((x47_1 != 0)||(!x47_0))) z (fun hb_2=>?_) (fun hb_2=>?_)
   ·have h:=cq hb_2 h
    refine Tp z (Te ?_)
    exact Ri h z
   have h:=cw hb_2 h
   refine Tk (Tp z (Te ?_))
   exact Ri h z
  refine Tri.region (Qe 3 z ?_)
  rcases b2 (x47_1 != 0) with hb_3 | hb_3
  ·exact Qk 52 hb_3 z (Qd z ((Es0 [55] z ⟨.imm (Sub.of_eq (show Ab ((x47_1 != 0)||(!x47_0))=Ab true by simp only [cond_true,cond_false,Bool.true_or,Bool.false_or,Bool.true_and,Bool.false_and,Bool.or_true,Bool.or_false,Bool.and_true,Bool.and_false,hb,hb_1,hb_3])) z,u0⟩)))
  exact Qk 52 hb_3 z (Qd z ((Es0 [55] z ⟨.imm (Sub.of_eq (show Ab ((x47_1 != 0)||(!x47_0))=Ab (!x47_0) by simp only [cond_true,cond_false,Bool.true_or,Bool.false_or,Bool.true_and,Bool.false_and,Bool.or_true,Bool.or_false,Bool.and_true,Bool.and_false,hb,hb_1,hb_3])) z,u0⟩)))
 ·rintro v25 vo6 hi h
  refine Tp z (Ts (Tc (b:=(decide (v25 < (a1.length:Int)))) z (fun hb_4=>?_) (fun hb_4=>?_)))
  ·exact(lt_f hi hb_4).elim
  exact Tri.exit (Xi vo6 (An h (Ee [22] z ⟨imf icl_im,u0⟩)))
 rintro nx x v25 vo6 _ hi hw hx h
 refine Tp z (Ts (Tc (b:=(decide (v25 < (a1.length:Int)))) z (fun hb_5=>?_) (fun hb_5=>?_)))
 ·refine Tk (Ts (Tri.block (Tr (Q1 z z z (Ax.ix (cl:=cl26) z slc_44 z z hx) (Qd z (Ts (Tr (Qe 1 z (Q1 z z z (Ax.ln (cl:=icl) z slc_26 z) (Qe 3 z (Q1 z z z (Ax.ln (cl:=Cell.cl) z slc_22 z) (Qd z ?_))))))))))))
  refine Tc (b:=((x.length:Int) != (a0.Basin.Cells.length:Int))) z (fun hb_6=>?_) (fun hb_6=>?_)
  ·have h:=cq hb_6 h
   refine Tp z (Te ?_)
   exact Ri h z
  have h:=cw hb_6 h
  refine Tk (Tri.region (Qe 2 z ?_))
  obtain⟨z38,hz,h⟩:=bs h
  exact Qa z z z (v:=.hnd 38) (x:=some (.arr 3 1 (z38.map icl))) (Ax.app_l (cl:=icl) z z slc_26 z z z icl_one icl_im hz z z) z z z z z (Qd z (Tq z (Xi (v25+1,z38) (An (An z h) (Es [38] [25] z ⟨imf icl_im,u0⟩ ⟨.imm (Sub.of_eq (show Ai (v25+1)=Ai (W (v25+1)) from congrArg Ai hw.symm)) z,u0⟩)))))
 exact(lt_t hi hb_5).elim
theorem f113_ok {K:Nat} {a0:Scene} {a1:List Int} {a2:Int} {r:List Spot_basin × Int} (h:f113 K a0 a1 a2=some r):CallOK Tryz.prog 113 [.agg (Scene.cl a0),.lst 1 (a1.map icl),Ai a2] [] (.tup [.lst 2 (r.1.map Spot_basin.cl),Ai r.2]) []:=by
 refine Co Tryz.func113 z z (nl z) ?_
 unfold f113 at h
 refine Tr (Qe 1 z (Q1 z z z (v:=.lst 2 (([]:List Spot_basin).map Spot_basin.cl)) (Ax.nl 2 z z) (Qd z (Ts (Tr (Qe 1 z ?_))))))
 obtain⟨x15,hc,h⟩:=bs h
 refine Qc z z z (args:=[.agg (Scene.cl a0)]) (r:=Ai x15) (calv z z fnok_66 z) (f66_ok hc) z (Qd z (Tp z (Tc (b:=(x15 != 0)) z (fun hb=>?_) (fun hb=>?_))))
 ·have h:=cq hb h
  refine Tr (Qe 1 z (Q1 z z z (v:=.lst 2 (([]:List Spot_basin).map Spot_basin.cl)) (Ax.nl 2 z z) (Qd z (Te ?_))))
  refine Rr (fun r=>.tup [.lst 2 (r.1.map Spot_basin.cl),Ai r.2]) (fun r=>[]) [] h ?_ u0
  rfl
 have h:=cw hb h
 refine Tk (Tr (Qe 3 z ?_))
 obtain⟨x22,hc_1,h⟩:=bs h
 refine Qc z z z (args:=[.lst 1 (a0.Days.map icl),Ai a2]) (r:=Ai x22) (calv z z fnok_194 z) (f194_ok hc_1) z (Qd z (Ts (Ts ?_)))
 obtain⟨v34,hj_1,h⟩:=bs h
 refine Tri.joinv v34 (fun(y:Bool)=>⟨[(1,.lst 1 (a1.map icl)),(3,.ipt (Scene.cl a0) 0),(9,Ai x22),(34,Ab y)],[]⟩) ?_ ?_
 ·refine Tc (b:=v34) z (fun hb_1=>?_) (fun hb_1=>?_)
  ·have h:=cq hb_1 h
   refine Tr (Q1 z z z (v:=.lst 2 (([]:List Spot_basin).map Spot_basin.cl)) (Ax.nl 2 z z) (Qd z (Te ?_)))
   refine Rr (fun r=>.tup [.lst 2 (r.1.map Spot_basin.cl),Ai r.2]) (fun r=>[]) [] h ?_ u0
   rfl
  have h:=cw hb_1 h
  refine Tk (Tr (Qn z z z (v:=.hnd 10) (x:=some (.arr 190 2 (([]:List Spot_basin).map Spot_basin.cl))) (Ax.nil_new 190 2 (.inr z) z) z z z z z (Rx (Ts (Tr (Qe 1 z (Q1 z z z (Ax.ln (cl:=icl) z slc_26 z) (Qd z ?_))))))))
  obtain⟨j,hj,h⟩:=jo h
  refine Tri.rngL h (fun p=>⟨[(3,.ipt (Scene.cl a0) 0),(9,Ai x22),(10,.hnd 10),(35,.lst 1 (a1.map icl)),(36,Ai (a1.length:Int)),(37,Ai p.1)],[(10,some (.arr 190 2 (p.2.map Spot_basin.cl)))]⟩) (fun y=>j y=some r) (fun(y:List Spot_basin)=>⟨[(10,.hnd 10)],[(10,some (.arr 190 2 (y.map Spot_basin.cl)))]⟩) (Ee [10] z ⟨im_flat Spot_basin_im ([]:List Spot_basin),u0⟩) ?_ ?_ ?_
  ·rintro vo10_1 h
   subst hj
   refine Tp z (Te ?_)
   refine RetQ.eq2 (fun r=>.tup [.lst 2 (r.1.map Spot_basin.cl),Ai r.2]) (fun r=>[]) (Option.some.inj h) ?_
   exact RetQ.mk (vs:=[.hnd 10,Ai 0]) (.inr z) ⟨_,_,z,.tmp z,⟨_,_,z,.tmp z,z⟩⟩ [10] [] z z u0 (.tupV ⟨.frz (.hnd mh z (im_flat Spot_basin_im vo10_1)) z,.rfl' z,u0⟩)
  ·rintro v37 vo10 hi h
   refine Tp z (Ts (Tc (b:=(decide (v37 < (a1.length:Int)))) z (fun hb_2=>?_) (fun hb_2=>?_)))
   ·exact(lt_f hi hb_2).elim
   exact Tri.exit (Xi vo10 (An h (Ee [10] z ⟨imf Spot_basin_im,u0⟩)))
  rintro nx x v37 vo10 _ hi hw hx h
  refine Tp z (Ts (Tc (b:=(decide (v37 < (a1.length:Int)))) z (fun hb_3=>?_) (fun hb_3=>?_)))
  ·refine Tk (Ts (Tri.block (Tr (Q1 z z z (Ax.ix (cl:=icl) z slc_26 z z hx) (Qd z (Tr (Qe 3 z ?_)))))))
   obtain⟨x44,hc_2,h⟩:=bs h
   refine Qc z z z (args:=[.agg (Basin.cl a0.Basin),Ai x]) (r:=Ai x44) (calv z z fnok_221 z) (f221_ok hc_2) z (Qd z (Ts (Tp z (Tc (b:=(decide (x44 < 0))) z (fun hb_4=>?_) (fun hb_4=>?_)))))
   ·have h:=cq hb_4 h
    refine Tr (Q1 z z z (v:=.lst 2 (([]:List Spot_basin).map Spot_basin.cl)) (Ax.nl 2 z z) (Qd z (Te ?_)))
    refine Rr (fun r=>.tup [.lst 2 (r.1.map Spot_basin.cl),Ai r.2]) (fun r=>[]) [] h ?_ u0
    rfl
   have h:=cw hb_4 h
   refine Tk (Tri.region (Qe 3 z (Q1 z z z (v:=.agg (Spot_basin.cl (⟨x44,x22⟩:Spot_basin))) (Ab_ z zer_190 (bld plc_190 zer_190) z ⟨Sub.refl _,Sub.refl _,u0⟩) (Q1 z z z (v:=.lst 2 (([(⟨x44,x22⟩:Spot_basin)]:List Spot_basin).map Spot_basin.cl)) (Ax.sl (xs:=([(⟨x44,x22⟩:Spot_basin)]:List Spot_basin)) z slc_180 z z ⟨Sub.refl _,Sub.refl _,u0⟩ z Spot_basin_len Spot_basin_one Spot_basin_im) ?_))))
   obtain⟨z52,hz,h⟩:=bs h
   exact Qa z z z (v:=.hnd 52) (x:=some (.arr 190 2 (z52.map Spot_basin.cl))) (Ax.app_l (cl:=Spot_basin.cl) z z slc_180 z z z Spot_basin_one Spot_basin_im hz z z) z z z z z (Qd z (Tq z (Xi (v37+1,z52) (An (An z h) (Es [52] [37] z ⟨imf Spot_basin_im,u0⟩ ⟨.imm (Sub.of_eq (show Ai (v37+1)=Ai (W (v37+1)) from congrArg Ai hw.symm)) z,u0⟩)))))
  exact(lt_t hi hb_3).elim
 have h:=hj_1
 refine Tri.region (Qe 3 z ?_)
 rcases b2 (decide (x22 < 0)) with hb_5 | hb_5
 ·have h:=cq hb_5 h
  exact Qk 25 hb_5 z (Qd z (Xi true (An h (E0 z))))
 have h:=cw hb_5 h
 refine Qk 25 hb_5 z (Qe 1 z (Q1 z z z (Ax.ln (cl:=icl) z slc_26 z) (Qe 3 z ?_)))
 rcases b2 ((a1.length:Int)==0) with hb_6 | hb_6
 ·have h:=cq hb_6 h
  exact Qk 30 hb_6 z (Qd z (Xi true (An h (E0 z))))
 have h:=cw hb_6 h
 refine Qk 30 hb_6 z (Qe 1 z ?_)
 obtain⟨x32,hc_3,h⟩:=bs h
 exact Qc z z z (args:=[.lst 1 (a1.map icl)]) (r:=Ab x32) (calv z z fnok_174 z) (f174_ok hc_3) z (Qd z (Xi (!x32) (An h (E0 z))))
theorem f85_ok {K:Nat} {a0:List Int} {r:List Int} (h:f85 K a0=some r):CallOK Tryz.prog 85 [.lst 1 (a0.map icl)] [] (.lst 1 (r.map icl)) []:=by
 unfold f85 at h
 have hr:=(app_spec h).2
 rw [List.nil_append] at hr
 subst hr
 cases r with
 | nil=>
  refine CallOK.lst0 fun a cap=>(Co Tryz.func85 z z (nl z) (Tr (Q1 z z z (v:=.lst 1 (([]:List Int).map icl)) (Ax.nl 1 z z) (Rx (Ts (Tr (Q1 z z z (v:=.sc (.slice a 0 cap)) (Ax.mv z z) (Q1 z z z (v:=Ab a.isNone) (Ax.nilc z uns_26 z z) (Rx (Tc (b:=a.isNone) z (fun hb=>?_) (fun hb=>?_)))))))))))
  ·refine Tr (Q1 z z z (v:=.lst 1 (([]:List Int).map icl)) (Ax.nl 1 z z) (Rx (Te ?_)))
   exact RetQ.mk (vs:=[.lst 1 (([]:List Int).map icl)]) (.inr z) ⟨_,_,z,.tmp z,z⟩ [] [] z z u0 (.rfl' z)
  refine Tk (Tr (Qn z z z (v:=.hnd 5) (x:=some (.arr 3 1 (([]:List Int).map icl))) (Ax.slice_new z z slc_26) z z z z z (Q1 z z z (v:=.lst 1 (([]:List Int).map icl)) (Ax.move (.inl z) (Sub.lstE _ _ _)) (Qa z z z (v:=.hnd 7) (x:=some (.arr 3 1 (([]:List Int).map icl))) (Ax.app_l (cl:=icl) z z slc_26 z z z icl_one icl_im h z z) z z z z z (Q1 z z z (v:=.hnd 7) (Ax.as z z) (Rx (Te ?_)))))))
  exact RetQ.mk (vs:=[.hnd 7]) (.inr z) ⟨_,_,z,.tmp z,z⟩ [7] [] z z u0 (.frz (.hnd mh z (im_flat icl_im [])) z)
 | cons x xs=>
  refine Co Tryz.func85 z z (nl z) (Tr (Q1 z z z (v:=.lst 1 (([]:List Int).map icl)) (Ax.nl 1 z z) (Rx (Ts (Tr (Q1 z z z (v:=.lst 1 ((x::xs:List Int).map icl)) (Ax.mv z z) (Q1 z z z (v:=Ab false) (Ax.nilcmp z uns_26 z (by simp)) (Rx (Tri.cond_f z (Tk (Tr (Qn z z z (v:=.hnd 5) (x:=some (.arr 3 1 (([]:List Int).map icl))) (Ax.slice_new z z slc_26) z z z z z ?_))))))))))))
  refine Q1 z z z (v:=.lst 1 (((x::xs):List Int).map icl)) (Ax.mv z z) (Qa z z z (v:=.hnd 7) (x:=some (.arr 3 1 (((x::xs):List Int).map icl))) (Ax.app_l (cl:=icl) z z slc_26 z z z icl_one icl_im h z z) z z z z z (Q1 z z z (v:=.hnd 7) (Ax.as z z) (Rx (Te ?_))))
  exact RetQ.mk (vs:=[.hnd 7]) (.inr z) ⟨_,_,z,.tmp z,z⟩ [7] [] z z u0 (.frz (.hnd mh z (im_flat icl_im (x::xs))) z)
theorem f85_fr {K:Nat} {a0:List Int} {r:List Int} (h:f85 K a0=some r):CallOK Tryz.prog 85 [.lst 1 (a0.map icl)] [] (.hnd 20260000) [(20260000,.arr 3 1 (r.map icl))]:=by
 unfold f85 at h
 have hr:=(app_spec h).2
 rw [List.nil_append] at hr
 subst hr
 cases r with
 | nil=>
  refine CallOK.lst0 fun a cap=>(Co Tryz.func85 z z (nl z) (Tr (Q1 z z z (v:=.lst 1 (([]:List Int).map icl)) (Ax.nl 1 z z) (Rx (Ts (Tr (Q1 z z z (v:=.sc (.slice a 0 cap)) (Ax.mv z z) (Q1 z z z (v:=Ab a.isNone) (Ax.nilc z uns_26 z z) (Rx (Tc (b:=a.isNone) z (fun hb=>?_) (fun hb=>?_)))))))))))
  ·refine Tr (Qn z z z (v:=.hnd 2) (x:=some (.arr 3 1 (([]:List Int).map icl))) (Ax.nil_new 3 1 (.inr z) z) z z z z z (Rx (Te ?_)))
   exact RetQ.mk (vs:=[.hnd 2]) (.inr z) ⟨_,_,z,.tmp z,z⟩ [] [(20260000,2,.arr 3 1 (([]:List Int).map icl))] z z ⟨⟨_,z,.arr (im_flat icl_im [])⟩,u0⟩ (.hnd mh)
  refine Tk (Tr (Qn z z z (v:=.hnd 5) (x:=some (.arr 3 1 (([]:List Int).map icl))) (Ax.slice_new z z slc_26) z z z z z (Q1 z z z (v:=.lst 1 (([]:List Int).map icl)) (Ax.move (.inl z) (Sub.lstE _ _ _)) (Qa z z z (v:=.hnd 7) (x:=some (.arr 3 1 (([]:List Int).map icl))) (Ax.app_l (cl:=icl) z z slc_26 z z z icl_one icl_im h z z) z z z z z (Q1 z z z (v:=.hnd 7) (Ax.as z z) (Rx (Te ?_)))))))
  exact RetQ.mk (vs:=[.hnd 7]) (.inr z) ⟨_,_,z,.tmp z,z⟩ [] [(20260000,7,.arr 3 1 (([]:List Int).map icl))] z z ⟨⟨_,z,.arr (im_flat icl_im [])⟩,u0⟩ (.hnd mh)
 | cons x xs=>
  refine Co Tryz.func85 z z (nl z) (Tr (Q1 z z z (v:=.lst 1 (([]:List Int).map icl)) (Ax.nl 1 z z) (Rx (Ts (Tr (Q1 z z z (v:=.lst 1 ((x::xs:List Int).map icl)) (Ax.mv z z) (Q1 z z z (v:=Ab false) (Ax.nilcmp z uns_26 z (by simp)) (Rx (Tri.cond_f z (Tk (Tr (Qn z z z (v:=.hnd 5) (x:=some (.arr 3 1 (([]:List Int).map icl))) (Ax.slice_new z z slc_26) z z z z z ?_))))))))))))
  refine Q1 z z z (v:=.lst 1 (((x::xs):List Int).map icl)) (Ax.mv z z) (Qa z z z (v:=.hnd 7) (x:=some (.arr 3 1 (((x::xs):List Int).map icl))) (Ax.app_l (cl:=icl) z z slc_26 z z z icl_one icl_im h z z) z z z z z (Q1 z z z (v:=.hnd 7) (Ax.as z z) (Rx (Te ?_))))
  exact RetQ.mk (vs:=[.hnd 7]) (.inr z) ⟨_,_,z,.tmp z,z⟩ [] [(20260000,7,.arr 3 1 (((x::xs):List Int).map icl))] z z ⟨⟨_,z,.arr (im_flat icl_im (x::xs))⟩,u0⟩ (.hnd mh)
theorem f218_ok {K:Nat} {a0:Laid_basin} {a1:List Int} {r:List (List Int)} (h:f218 K a0 a1=some r):CallOK Tryz.prog 218 [.ipt (Laid_basin.cl a0) 0,.lst 1 (a1.map icl)] [] (.lst 1 (r.map cl26)) []:=by
 refine Co Tryz.func218 z z (nl z) ?_
 unfold f218 at h
 refine Tr (Qn z z z (v:=.hnd 4) (x:=some (.arr 26 1 (([]:List (List Int)).map cl26))) (Ax.nil_new 26 1 (.inr z) z) z z z z z (Rx (Tr (Qe 1 z (Q1 z z z (Ax.nil_ipt z z) (Qe 4 z (Q1 z z z (Ax.ln (cl:=Cell.cl) z slc_22 z) (Qd z (Ts (Tr (Qe 1 z (Q1 z z z (Ax.nil_ipt z z) ?_))))))))))))
 refine Qe 3 z (Q1 z z z (Ax.ln (cl:=icl) z slc_26 z) (Qd z ?_))
 obtain⟨vo4_1,hj,h⟩:=bs h
 refine Tri.rngNv hj (fun p=>⟨[(1,.lst 1 (a1.map icl)),(4,.hnd 4),(5,Ai (a0.s.Basin.Cells.length:Int)),(19,Ai (a0.s.Days.length:Int)),(20,Ai p.1)],[(4,some (.arr 26 1 (p.2.map cl26)))]⟩) (fun(y:List (List Int))=>⟨[(4,.hnd 4)],[(4,some (.arr 26 1 (y.map cl26)))]⟩) (Ee [4] z ⟨im_flat cl26_im ([]:List (List Int)),u0⟩) ?_ ?_ ?_
 ·refine Tp z (Te ?_)
  refine RetQ.eq2 (fun r=>.lst 1 (r.map cl26)) (fun r=>[]) (Option.some.inj h) ?_
  exact RetQ.mk (vs:=[.hnd 4]) (.inr z) ⟨_,_,z,.tmp z,z⟩ [4] [] z z u0 (.frz (.hnd mh z (im_flat cl26_im vo4_1)) z)
 ·rintro v20 vo4 hi _ h
  refine Tp z (Ts (Tc (b:=(decide (v20 < (a0.s.Days.length:Int)))) z (fun hb=>?_) (fun hb=>?_)))
  ·exact(lt_f hi hb).elim
  exact Tri.exit (Xi vo4 (An h (Ee [4] z ⟨imf cl26_im,u0⟩)))
 rintro nx v20 vo4 _ hi hw h
 refine Tp z (Ts (Tc (b:=(decide (v20 < (a0.s.Days.length:Int)))) z (fun hb_1=>?_) (fun hb_1=>?_)))
 ·refine Tk (Ts (Tri.block (Tp z (Tri.region (Qe 11 z ?_)))))
  obtain⟨z34,hz,h⟩:=bs h
  refine Q1 z z z (v:=.lst 1 (z34.map icl)) (Ax.sb z slc_26 z z z hz) ?_
  obtain⟨x35,hc,h⟩:=bs h
  refine Qc z z z (args:=[.lst 1 (z34.map icl)]) (r:=.lst 1 (x35.map icl)) (calv z z fnok_85 z) (f85_ok hc) z (Q1 z z z (v:=.lst 1 (([x35]:List (List Int)).map cl26)) (Ax.sl (xs:=([x35]:List (List Int))) z slc_44 z z ⟨Sub.refl _,u0⟩ z cl26_len cl26_one cl26_im) ?_)
  obtain⟨z37,hz_1,h⟩:=bs h
  exact Qa z z z (v:=.hnd 37) (x:=some (.arr 26 1 (z37.map cl26))) (Ax.app_l (cl:=cl26) z z slc_44 z z z cl26_one cl26_im hz_1 z z) z z z z z (Qd z (Tq z (Xi (v20+1,z37) (An (An z h) (Es [37] [20] z ⟨imf cl26_im,u0⟩ ⟨.imm (Sub.of_eq (show Ai (v20+1)=Ai (W (v20+1)) from congrArg Ai hw.symm)) z,u0⟩)))))
 exact(lt_t hi hb_1).elim
theorem f107_ok {K:Nat} {a0:Scene} {a1:Net→Option (List Int × Int)} {g1:Nat} {caps1:List AV} {r:List (List Int) × Int} (hg1:FnOK Tryz.prog g1) (ho1:(AV.fn g1 caps1).only []=true) (hp1:∀ x0 r,a1 x0=some r→CallOK Tryz.prog g1 ([.agg (Net.cl x0)]++caps1) [] (.tup [.lst 1 (r.1.map icl),Ai r.2]) []) (h:f107 K a0 a1=some r):CallOK Tryz.prog 107 [.agg (Scene.cl a0),.fn g1 caps1] [] (.tup [.lst 1 (r.1.map cl26),Ai r.2]) []:=by
 refine Co Tryz.func107 z z (nl z) ?_
 unfold f107 at h
 refine Tr (Qe 1 z (Q1 z z z (v:=.lst 1 (([]:List (List Int)).map cl26)) (Ax.nl 1 z z) (Qd z (Ts (Tr (Qe 1 z ?_))))))
 obtain⟨x11,hc,h⟩:=bs h
 refine Qc z z z (args:=[.agg (Scene.cl a0)]) (r:=Ai x11) (calv z z fnok_66 z) (f66_ok hc) z (Qd z (Tp z (Tc (b:=(x11 != 0)) z (fun hb=>?_) (fun hb=>?_))))
 ·have h:=cq hb h
  refine Tr (Qe 1 z (Q1 z z z (v:=.lst 1 (([]:List (List Int)).map cl26)) (Ax.nl 1 z z) (Qd z (Te ?_))))
  refine Rr (fun r=>.tup [.lst 1 (r.1.map cl26),Ai r.2]) (fun r=>[]) [] h ?_ u0
  rfl
 have h:=cw hb h
 refine Tk (Tr (Qe 1 z ?_))
 obtain⟨x16,hc_1,h⟩:=bs h
 refine Qc z z z (args:=[.agg (Scene.cl a0)]) (r:=.ipt (Laid_basin.cl x16) 0) (calv z z fnok_102 z) (f102_ok hc_1) z (Qd z (Tr (Qe 2 z (Q1 z z z (Ax.nil_ipt z z) (Qe 2 z ?_)))))
 obtain⟨⟨x23_0,x23_1⟩,hc_2,h⟩:=bs h
 refine Qc z z z (args:=[.agg (Net.cl x16.net)]++caps1) (r:=.tup [.lst 1 (x23_0.map icl),Ai x23_1]) (calv z z hg1 z) (hp1 _ _ hc_2) z (Qd z (Ts (Tp z (Tc (b:=(x23_1 != 0)) z (fun hb_1=>?_) (fun hb_1=>?_)))))
 ·have h:=cq hb_1 h
  refine Tr (Qe 1 z (Q1 z z z (v:=.lst 1 (([]:List (List Int)).map cl26)) (Ax.nl 1 z z) (Qd z (Te ?_))))
  refine Rr (fun r=>.tup [.lst 1 (r.1.map cl26),Ai r.2]) (fun r=>[]) [] h ?_ u0
  rfl
 have h:=cw hb_1 h
 refine Tk (Tr (Qe 2 z ?_))
 obtain⟨x31,hc_3,h⟩:=bs h
 refine Qc z z z (args:=[.ipt (Laid_basin.cl x16) 0,.lst 1 (x23_0.map icl)]) (r:=.lst 1 (x31.map cl26)) (calv z z fnok_218 z) (f218_ok hc_3) z (Qd z (Te ?_))
 refine Rr (fun r=>.tup [.lst 1 (r.1.map cl26),Ai r.2]) (fun r=>[]) [] h ?_ u0
 rfl
theorem f368_ok {K:Nat} {a0:Int} {a1:Int} {r:Int × Int} (h:f368 K a0 a1=some r):CallOK Tryz.prog 368 [.sc (.int .u64 a0),.sc (.int .u64 a1)] [] (.tup [.sc (.int .u64 r.1),.sc (.int .u64 r.2)]) []:=by
 refine Co Tryz.func368 z z (nl z) ?_
 unfold f368 at h
 refine Tp z (Tr (Qe 1 z (Q1 z z z (v:=.sc (.int .u64 (andU a0 4294967295))) (Ax.andu z z z) (Qd z (Tr (Qe 1 z (Q1 z z z (v:=.sc (.int .u64 (shrU a0 32))) (Ax.shr (m:=32) z z z (by decide)) (Qd z (Tr (Qe 1 z (Q1 z z z (v:=.sc (.int .u64 (andU a1 4294967295))) (Ax.andu z z z) (Qd z ?_))))))))))))
 refine Tr (Qe 1 z (Q1 z z z (v:=.sc (.int .u64 (shrU a1 32))) (Ax.shr (m:=32) z z z (by decide)) (Qd z (Tp z (Tr (Qe 4 z (Q1 z z z (v:=.sc (.int .u64 (shrU (IntKind.wrap .u64 ((andU a0 4294967295)*(andU a1 4294967295))) 32))) (Ax.shr (m:=32) z z z (by decide)) (Qd z (Tr (Qe 1 z (Q1 z z z (v:=.sc (.int .u64 (andU (IntKind.wrap .u64 ((IntKind.wrap .u64 ((shrU a0 32)*(andU a1 4294967295)))+(shrU (IntKind.wrap .u64 ((andU a0 4294967295)*(andU a1 4294967295))) 32))) 4294967295))) (Ax.andu z z z) (Qd z ?_))))))))))))
 refine Tr (Qe 1 z (Q1 z z z (v:=.sc (.int .u64 (shrU (IntKind.wrap .u64 ((IntKind.wrap .u64 ((shrU a0 32)*(andU a1 4294967295)))+(shrU (IntKind.wrap .u64 ((andU a0 4294967295)*(andU a1 4294967295))) 32))) 32))) (Ax.shr (m:=32) z z z (by decide)) (Qd z (Tp z (Tr (Qe 6 z (Q1 z z z (v:=.sc (.int .u64 (shrU (IntKind.wrap .u64 ((andU (IntKind.wrap .u64 ((IntKind.wrap .u64 ((shrU a0 32)*(andU a1 4294967295)))+(shrU (IntKind.wrap .u64 ((andU a0 4294967295)*(andU a1 4294967295))) 32))) 4294967295)+(IntKind.wrap .u64 ((andU a0 4294967295)*(shrU a1 32))))) 32))) (Ax.shr (m:=32) z z z (by decide)) (Qd z (Tp z (Te ?_))))))))))
 refine Rr (fun r=>.tup [.sc (.int .u64 r.1),.sc (.int .u64 r.2)]) (fun r=>[]) [] h ?_ u0
 rfl
theorem f361_ok {K:Nat} {a0:Int} {a1:Int} {r:Int × Int} (h:f361 K a0 a1=some r):CallOK Tryz.prog 361 [.sc (.int .u64 a0),.sc (.int .u64 a1)] [] (.tup [.sc (.int .u64 r.1),.sc (.int .u64 r.2)]) []:=by
 refine Co Tryz.func361 z z (nl z) ?_
 unfold f361 at h
 refine Tp z (Ts (Tri.cond_f z (Tk (Tr (Qe 2 z ?_)))))
 obtain⟨⟨x25_0,x25_1⟩,hc,h⟩:=bs h
 refine Qc z z z (args:=[.sc (.int .u64 a0),.sc (.int .u64 a1)]) (r:=.tup [.sc (.int .u64 x25_0),.sc (.int .u64 x25_1)]) (calv z z fnok_368 z) (f368_ok hc) z (Qd z (Tp z (Te ?_)))
 refine Rr (fun r=>.tup [.sc (.int .u64 r.1),.sc (.int .u64 r.2)]) (fun r=>[]) [] h ?_ u0
 rfl
theorem f343_ok {K:Nat} {a0:List Int} {a1:Int} {r:List Int} (h:f343 K a0 a1=some r):CallOK Tryz.prog 343 [.lst 1 (a0.map icl),Ai a1] [] (.lst 1 (r.map icl)) []:=by
 refine Co Tryz.func343 z z (nl z) ?_
 unfold f343 at h
 refine Tr (Qn z z z (v:=.hnd 4) (x:=some (.arr 3 1 (([]:List Int).map icl))) (Ax.nil_new 3 1 (.inr z) z) z z z z z (Rx (Ts (Tp z (Tc (b:=(decide (a1 < 0))) z (fun hb=>?_) (fun hb=>?_))))))
 ·have h:=cq hb h
  cases h
 have h:=cw hb h
 refine Tk (Tr (Qe 1 z (Q1 z z z (Ax.ln (cl:=icl) z slc_26 z) (Q1 z z z (v:=.sc (.int .u64 (IntKind.wrap .u64 (a0.length:Int)))) (Ax.conv_int z z int_3 int_325) (Qe 1 z (Q1 z z z (v:=.sc (.int .u64 (IntKind.wrap .u64 a1))) (Ax.conv_int z z int_3 int_325) ?_))))))
 obtain⟨⟨x18_0,x18_1⟩,hc,h⟩:=bs h
 refine Qc z z z (args:=[.sc (.int .u64 (IntKind.wrap .u64 (a0.length:Int))),.sc (.int .u64 (IntKind.wrap .u64 a1))]) (r:=.tup [.sc (.int .u64 x18_0),.sc (.int .u64 x18_1)]) (calv z z fnok_361 z) (f361_ok hc) z (Qd z (Ts (Ts (Tri.join1 ⟨[(0,.lst 1 (a0.map icl)),(6,.sc (.int .u64 x18_1)),(26,Ab ((decide (x18_0 > 0))||(decide (x18_1 > 9223372036854775807))))],[]⟩ ?_ ?_))))
 ·refine Tc (b:=((decide (x18_0 > 0))||(decide (x18_1 > 9223372036854775807)))) z (fun hb_1=>?_) (fun hb_1=>?_)
  ·have h:=cq hb_1 h
   cases h
  have h:=cw hb_1 h
  refine Tk (Tr (Qe 1 z (Q1 z z z (v:=Ai (IntKind.wrap .i64 x18_1)) (Ax.conv_int z z int_325 int_3) ?_)))
  obtain⟨z30,hz,h⟩:=bs h
  refine Qn z z z (v:=.hnd 30) (x:=some (.arr 3 1 (z30.map icl))) (Ax.mk (cl:=icl) z z slc_26 z z hz z z z) z z z z z (Qd z (Tr (Qe 2 z (Qw z z z (v:=Ai ((Min.min a0.length z30.length:Nat):Int)) (x:=some (.arr 3 1 ((a0.take z30.length++z30.drop a0.length).map icl))) (Ax.cph (cl:=icl) z slc_26 z z z icl_one icl_im) (Qd z (Ts ?_))))))
  obtain⟨vo7_1,hj,h⟩:=bs h
  refine Tri.whlv hj (fun p=>⟨[(7,.hnd 30),(8,Ai p.2)],[(30,some (.arr 3 1 (p.1.map icl)))]⟩) (fun(y:List Int)=>⟨[(7,.hnd 30)],[(30,some (.arr 3 1 (y.map icl)))]⟩) (Ee [30] z ⟨imf icl_im,u0⟩) ?_ ?_
  ·refine Tp z (Te ?_)
   refine RetQ.eq2 (fun r=>.lst 1 (r.map icl)) (fun r=>[]) (Option.some.inj h) ?_
   exact RetQ.mk (vs:=[.hnd 30]) (.inr z) ⟨_,_,z,.tmp z,z⟩ [30] [] z z u0 (.frz (.hnd mh z (im_flat icl_im vo7_1)) z)
  rintro nx ⟨vo7,v8⟩ h
  refine Ts (Tr (Qe 2 z (Q1 z z z (Ax.lnh (cl:=icl) z slc_26 z z) (Qd z (Tc (b:=(decide (v8 < (vo7.length:Int)))) z (fun hb_2=>?_) (fun hb_2=>?_))))))
  ·have h:=cq hb_2 h
   refine Tk (Tri.block (Td [[],[],[],[1,2],[],[],[4,5],[1,2,3,4,5,6],[],[]] hmix (by kernel_rfl) (Qe 3 z ?_)))
   obtain⟨_,hz_1,h⟩:=bs h
   refine Q1 z z z (v:=.vw 30 1 (Int.toNat v8) (Int.toNat (vo7.length:Int)) vo7.length) (Ax.vh (cl:=icl) (xs:=vo7) z slc_26 z z ⟨_,z⟩ z hz_1) (Qe 2 z ?_)
   obtain⟨_,hz_2,h⟩:=bs h
   refine Q1 z z z (v:=.vw 30 1 (Int.toNat 0) (Int.toNat v8) vo7.length) (Ax.vh (cl:=icl) (xs:=vo7) z slc_26 z z z ⟨_,z⟩ hz_2) ?_
   obtain⟨z45,hz_3,h⟩:=bs h
   refine Qw z z z (v:=Ai ((Min.min (Int.toNat v8 - Int.toNat 0) (Int.toNat (vo7.length:Int) - Int.toNat v8):Nat):Int)) (x:=some (.arr 3 1 (z45.map icl))) (Ax.cpv (cl:=icl) z slc_26 z z z hz_3) (Qe 2 z (Rx ⟨by kernel_rfl,freshL_of [] (by kernel_rfl) (by kernel_rfl),?_⟩))
   exact Xi (z45,(W (v8+((Min.min (Int.toNat v8 - Int.toNat 0) (Int.toNat (vo7.length:Int) - Int.toNat v8):Nat):Int)))) (An h (Ee [30] z ⟨imf icl_im,u0⟩))
  have h:=cw hb_2 h
  exact Tri.exit (Xi vo7 (An h (Ee [30] z ⟨imf icl_im,u0⟩)))
 refine Tri.region (Qe 3 z ?_)
 rcases b2 (decide (x18_0 > 0)) with hb_3 | hb_3
 ·exact Qk 23 hb_3 z (Qd z ((Es0 [26] z ⟨.imm (Sub.of_eq (show Ab ((decide (x18_0 > 0))||(decide (x18_1 > 9223372036854775807)))=Ab true by simp only [cond_true,cond_false,Bool.true_or,Bool.false_or,Bool.true_and,Bool.false_and,Bool.or_true,Bool.or_false,Bool.and_true,Bool.and_false,hb,hb_3])) z,u0⟩)))
 exact Qk 23 hb_3 z (Qd z ((Es0 [26] z ⟨.imm (Sub.of_eq (show Ab ((decide (x18_0 > 0))||(decide (x18_1 > 9223372036854775807)))=Ab (decide (x18_1 > 9223372036854775807)) by simp only [cond_true,cond_false,Bool.true_or,Bool.false_or,Bool.true_and,Bool.false_and,Bool.or_true,Bool.or_false,Bool.and_true,Bool.and_false,hb,hb_3])) z,u0⟩)))
theorem f343_fr {K:Nat} {a0:List Int} {a1:Int} {r:List Int} (h:f343 K a0 a1=some r):CallOK Tryz.prog 343 [.lst 1 (a0.map icl),Ai a1] [] (.hnd 3445000) [(3445000,.arr 3 1 (r.map icl))]:=by
 refine Co Tryz.func343 z z (nl z) ?_
 unfold f343 at h
 refine Tr (Qn z z z (v:=.hnd 4) (x:=some (.arr 3 1 (([]:List Int).map icl))) (Ax.nil_new 3 1 (.inr z) z) z z z z z (Rx (Ts (Tp z (Tc (b:=(decide (a1 < 0))) z (fun hb=>?_) (fun hb=>?_))))))
 ·have h:=cq hb h
  cases h
 have h:=cw hb h
 refine Tk (Tr (Qe 1 z (Q1 z z z (Ax.ln (cl:=icl) z slc_26 z) (Q1 z z z (v:=.sc (.int .u64 (IntKind.wrap .u64 (a0.length:Int)))) (Ax.conv_int z z int_3 int_325) (Qe 1 z (Q1 z z z (v:=.sc (.int .u64 (IntKind.wrap .u64 a1))) (Ax.conv_int z z int_3 int_325) ?_))))))
 obtain⟨⟨x18_0,x18_1⟩,hc,h⟩:=bs h
 refine Qc z z z (args:=[.sc (.int .u64 (IntKind.wrap .u64 (a0.length:Int))),.sc (.int .u64 (IntKind.wrap .u64 a1))]) (r:=.tup [.sc (.int .u64 x18_0),.sc (.int .u64 x18_1)]) (calv z z fnok_361 z) (f361_ok hc) z (Qd z (Ts (Ts (Tri.join1 ⟨[(0,.lst 1 (a0.map icl)),(6,.sc (.int .u64 x18_1)),(26,Ab ((decide (x18_0 > 0))||(decide (x18_1 > 9223372036854775807))))],[]⟩ ?_ ?_))))
 ·refine Tc (b:=((decide (x18_0 > 0))||(decide (x18_1 > 9223372036854775807)))) z (fun hb_1=>?_) (fun hb_1=>?_)
  ·have h:=cq hb_1 h
   cases h
  have h:=cw hb_1 h
  refine Tk (Tr (Qe 1 z (Q1 z z z (v:=Ai (IntKind.wrap .i64 x18_1)) (Ax.conv_int z z int_325 int_3) ?_)))
  obtain⟨z30,hz,h⟩:=bs h
  refine Qn z z z (v:=.hnd 30) (x:=some (.arr 3 1 (z30.map icl))) (Ax.mk (cl:=icl) z z slc_26 z z hz z z z) z z z z z (Qd z (Tr (Qe 2 z (Qw z z z (v:=Ai ((Min.min a0.length z30.length:Nat):Int)) (x:=some (.arr 3 1 ((a0.take z30.length++z30.drop a0.length).map icl))) (Ax.cph (cl:=icl) z slc_26 z z z icl_one icl_im) (Qd z (Ts ?_))))))
  obtain⟨vo7_1,hj,h⟩:=bs h
  refine Tri.whlv hj (fun p=>⟨[(7,.hnd 30),(8,Ai p.2)],[(30,some (.arr 3 1 (p.1.map icl)))]⟩) (fun(y:List Int)=>⟨[(7,.hnd 30)],[(30,some (.arr 3 1 (y.map icl)))]⟩) (Ee [30] z ⟨imf icl_im,u0⟩) ?_ ?_
  ·refine Tp z (Te ?_)
   refine Rr (fun r=>.hnd 3445000) (fun r=>[(3445000,.arr 3 1 (r.map icl))]) [30] h ?_ ?_
   ·rfl
   exact⟨imf icl_im,u0⟩
  rintro nx ⟨vo7,v8⟩ h
  refine Ts (Tr (Qe 2 z (Q1 z z z (Ax.lnh (cl:=icl) z slc_26 z z) (Qd z (Tc (b:=(decide (v8 < (vo7.length:Int)))) z (fun hb_2=>?_) (fun hb_2=>?_))))))
  ·have h:=cq hb_2 h
   refine Tk (Tri.block (Td [[],[],[],[1,2],[],[],[4,5],[1,2,3,4,5,6],[],[]] hmix (by kernel_rfl) (Qe 3 z ?_)))
   obtain⟨_,hz_1,h⟩:=bs h
   refine Q1 z z z (v:=.vw 30 1 (Int.toNat v8) (Int.toNat (vo7.length:Int)) vo7.length) (Ax.vh (cl:=icl) (xs:=vo7) z slc_26 z z ⟨_,z⟩ z hz_1) (Qe 2 z ?_)
   obtain⟨_,hz_2,h⟩:=bs h
   refine Q1 z z z (v:=.vw 30 1 (Int.toNat 0) (Int.toNat v8) vo7.length) (Ax.vh (cl:=icl) (xs:=vo7) z slc_26 z z z ⟨_,z⟩ hz_2) ?_
   obtain⟨z45,hz_3,h⟩:=bs h
   refine Qw z z z (v:=Ai ((Min.min (Int.toNat v8 - Int.toNat 0) (Int.toNat (vo7.length:Int) - Int.toNat v8):Nat):Int)) (x:=some (.arr 3 1 (z45.map icl))) (Ax.cpv (cl:=icl) z slc_26 z z z hz_3) (Qe 2 z (Rx ⟨by kernel_rfl,freshL_of [] (by kernel_rfl) (by kernel_rfl),?_⟩))
   exact Xi (z45,(W (v8+((Min.min (Int.toNat v8 - Int.toNat 0) (Int.toNat (vo7.length:Int) - Int.toNat v8):Nat):Int)))) (An h (Ee [30] z ⟨imf icl_im,u0⟩))
  have h:=cw hb_2 h
  exact Tri.exit (Xi vo7 (An h (Ee [30] z ⟨imf icl_im,u0⟩)))
 refine Tri.region (Qe 3 z ?_)
 rcases b2 (decide (x18_0 > 0)) with hb_3 | hb_3
 ·exact Qk 23 hb_3 z (Qd z ((Es0 [26] z ⟨.imm (Sub.of_eq (show Ab ((decide (x18_0 > 0))||(decide (x18_1 > 9223372036854775807)))=Ab true by simp only [cond_true,cond_false,Bool.true_or,Bool.false_or,Bool.true_and,Bool.false_and,Bool.or_true,Bool.or_false,Bool.and_true,Bool.and_false,hb,hb_3])) z,u0⟩)))
 exact Qk 23 hb_3 z (Qd z ((Es0 [26] z ⟨.imm (Sub.of_eq (show Ab ((decide (x18_0 > 0))||(decide (x18_1 > 9223372036854775807)))=Ab (decide (x18_1 > 9223372036854775807)) by simp only [cond_true,cond_false,Bool.true_or,Bool.false_or,Bool.true_and,Bool.false_and,Bool.or_true,Bool.or_false,Bool.and_true,Bool.and_false,hb,hb_3])) z,u0⟩)))
theorem f344_ok {K:Nat} {a0:Tree_diffs} {a1:List Diff} {a2:Int} {r:Int} (h:f344 K a0 a1 a2=some r):CallOK Tryz.prog 344 [.agg (Tree_diffs.cl a0),.lst 3 (a1.map Diff.cl),Ai a2] [] (Ai r) []:=by
 refine Co Tryz.func344 z z (nl z) ?_
 unfold f344 at h
 refine Tp z (Ts (Tr (Qe 2 z (Q1 z z z (Ax.ln (cl:=icl) z slc_26 z) (Qd z ?_)))))
 obtain⟨j,hj,h⟩:=jo h
 refine Tri.rngN h (fun p=>⟨[(1,.lst 3 (a1.map Diff.cl)),(2,Ai p.2),(3,.ipt (Tree_diffs.cl a0) 0),(9,Ai (a0.last.length:Int)),(10,Ai p.1)],[]⟩) (fun y=>j y=some r) (fun(y:Int)=>⟨[(2,Ai y)],[]⟩) (E0 z) ?_ ?_ ?_
 ·rintro v2_1 h
  subst hj
  refine Tp z (Te ?_)
  exact Ri h z
 ·rintro v10 v2 hi _ h
  refine Tp z (Ts (Tc (b:=(decide (v10 < (a0.last.length:Int)))) z (fun hb=>?_) (fun hb=>?_)))
  ·exact(lt_f hi hb).elim
  exact Tri.exit (Xi v2 (An h (E0 z)))
 rintro nx v10 v2 _ hi hw h
 refine Tp z (Ts (Tc (b:=(decide (v10 < (a0.last.length:Int)))) z (fun hb_1=>?_) (fun hb_1=>?_)))
 ·refine Tk (Ts (Tri.block (Ts (Tr (Qe 3 z ?_)))))
  obtain⟨y,hy,h⟩:=bs h
  refine Q1 z z z (Ax.ix (cl:=icl) z slc_26 z z hy) (Qd z (Tc (b:=(decide (y < 0))) z (fun hb_2=>?_) (fun hb_2=>?_)))
  ·have h:=cq hb_2 h
   refine Tp z (Te ?_)
   exact Ri h z
  have h:=cw hb_2 h
  refine Tk (Tri.region (Qe 4 z (Q1 z z z (Ax.ix (cl:=icl) z slc_26 z z hy) (Qe 1 z ?_))))
  obtain⟨y_1,hy_1,h⟩:=bs h
  exact Q1 z z z (Ax.ix (cl:=Diff.cl) z slc_32 z z hy_1) (Qd z (Tq z (Xi (v10+1,y_1.From) (An (An z h) (Es0 [10] z ⟨.imm (Sub.of_eq (show Ai (v10+1)=Ai (W (v10+1)) from congrArg Ai hw.symm)) z,u0⟩)))))
 exact(lt_t hi hb_1).elim
theorem f311_ok {K:Nat} {a0:Gr} {t0:Nat} {y0:AV} {a1:List Int} {r:Tree_diffs × Int} (hgr0:GrOK a0 t0 (.fz y0)) (h:f311 K a0 a1=some r):CallOK Tryz.prog 311 [.ifc t0 (.fz y0),.lst 1 (a1.map icl)] [] (.tup [.agg (Tree_diffs.cl r.1),Ai r.2]) []:=by
 refine Co Tryz.func311 z z (nl z) ?_
 unfold f311 at h
 refine Tr (Qn z z z (v:=.ptr 4 0) (x:=some (.box [.sc (.slice none 0 0),.sc (.slice none 0 0),.sc (.slice none 0 0)])) (Al_ z z zer_318 z ⟨Sub.refl _,Sub.refl _,Sub.refl _,u0⟩) z (by first | rfl | (exact freshB_mk (by first | rfl | simp [menT,menO,AO.men,AV.men,menL,ifc_men hgr0.o]) z (by first | rfl | simp [menT,menO,AO.men,AV.men,menL,ifc_men hgr0.o]) z) | (simp [menT,menO,AO.men,AV.men,menL,ifc_men hgr0.o]; done) | ((simp only [List.all_cons,List.all_nil,Bool.and_true,Bool.and_eq_true]); and_intros <;> exact freshB_mk (by first | rfl | simp [menT,menO,AO.men,AV.men,menL,ifc_men hgr0.o]) z (by first | rfl | simp [menT,menO,AO.men,AV.men,menL,ifc_men hgr0.o]) z)) z (by first | rfl | (exact freshB_mk (by first | rfl | simp [menT,menO,AO.men,AV.men,menL,ifc_men hgr0.o]) z (by first | rfl | simp [menT,menO,AO.men,AV.men,menL,ifc_men hgr0.o]) z) | (simp [menT,menO,AO.men,AV.men,menL,ifc_men hgr0.o]; done) | ((simp only [List.all_cons,List.all_nil,Bool.and_true,Bool.and_eq_true]); and_intros <;> exact freshB_mk (by first | rfl | simp [menT,menO,AO.men,AV.men,menL,ifc_men hgr0.o]) z (by first | rfl | simp [menT,menO,AO.men,AV.men,menL,ifc_men hgr0.o]) z)) z (Qd z (Tn (Eg 4 0 900000400 3 1 (cells':=[.hnd 900000400,.sc (.slice none 0 0),.sc (.slice none 0 0)]) z z z (by first | rfl | (exact freshB_mk (by first | rfl | simp [menT,menO,AO.men,AV.men,menL,ifc_men hgr0.o]) z (by first | rfl | simp [menT,menO,AO.men,AV.men,menL,ifc_men hgr0.o]) z) | (simp [menT,menO,AO.men,AV.men,menL,ifc_men hgr0.o]; done) | ((simp only [List.all_cons,List.all_nil,Bool.and_true,Bool.and_eq_true]); and_intros <;> exact freshB_mk (by first | rfl | simp [menT,menO,AO.men,AV.men,menL,ifc_men hgr0.o]) z (by first | rfl | simp [menT,menO,AO.men,AV.men,menL,ifc_men hgr0.o]) z))) (Tn (Eg 4 1 901000401 4 1 (cells':=[.hnd 900000400,.hnd 901000401,.sc (.slice none 0 0)]) z z z (by first | rfl | (exact freshB_mk (by first | rfl | simp [menT,menO,AO.men,AV.men,menL,ifc_men hgr0.o]) z (by first | rfl | simp [menT,menO,AO.men,AV.men,menL,ifc_men hgr0.o]) z) | (simp [menT,menO,AO.men,AV.men,menL,ifc_men hgr0.o]; done) | ((simp only [List.all_cons,List.all_nil,Bool.and_true,Bool.and_eq_true]); and_intros <;> exact freshB_mk (by first | rfl | simp [menT,menO,AO.men,AV.men,menL,ifc_men hgr0.o]) z (by first | rfl | simp [menT,menO,AO.men,AV.men,menL,ifc_men hgr0.o]) z))) (Tn (Eg 4 2 902000402 3 1 (cells':=[.hnd 900000400,.hnd 901000401,.hnd 902000402]) z z z (by first | rfl | (exact freshB_mk (by first | rfl | simp [menT,menO,AO.men,AV.men,menL,ifc_men hgr0.o]) z (by first | rfl | simp [menT,menO,AO.men,AV.men,menL,ifc_men hgr0.o]) z) | (simp [menT,menO,AO.men,AV.men,menL,ifc_men hgr0.o]; done) | ((simp only [List.all_cons,List.all_nil,Bool.and_true,Bool.and_eq_true]); and_intros <;> exact freshB_mk (by first | rfl | simp [menT,menO,AO.men,AV.men,menL,ifc_men hgr0.o]) z (by first | rfl | simp [menT,menO,AO.men,AV.men,menL,ifc_men hgr0.o]) z))) ?_)))))
 obtain⟨x15,hc,h⟩:=bs h
 obtain⟨gm,gm1,gm2,gm3⟩:=hgr0.lines
 obtain⟨x17,hc_1,h⟩:=bs h
 obtain⟨gm_1,gm_11,gm_12,gm_13⟩:=hgr0.nodes
 obtain⟨z18,hz,h⟩:=bs h
 obtain⟨x20,hc_2,h⟩:=bs h
 obtain⟨gm_2,gm_21,gm_22,gm_23⟩:=hgr0.nodes
 obtain⟨z21,hz_1,h⟩:=bs h
 obtain⟨x24,hc_3,h⟩:=bs h
 obtain⟨gm_3,gm_31,gm_32,gm_33⟩:=hgr0.nodes
 obtain⟨x25,hc_4,h⟩:=bs h
 obtain⟨voo7_1_1,hj,h⟩:=bs h
 refine Tri.scopeW (l:=0) h (fun(p:List Int × List Bool × List Int)=>⟨[(4,.ptr 4 0),(6,.lst 3 (x15.map Diff.cl)),(7,.ptr 7 0)],[(900000400,some (.arr 3 1 (([]:List Int).map icl))),(901000401,some (.arr 4 1 (([]:List Bool).map bcl))),(902000402,some (.arr 3 1 (([]:List Int).map icl))),(4,some (.box [.hnd 900000400,.hnd 901000401,.hnd 902000402])),(18,some (.arr 3 1 (p.1.map icl))),(21,some (.arr 4 1 (p.2.1.map bcl))),(3445000,some (.arr 3 1 (p.2.2.map icl))),(7,some (.box [.hnd 18,.hnd 21,.hnd 3445000]))]⟩) z (fun hfst=>?_) ?_
 ·refine Tr (Qe 1 z (Qc z z z (args:=[.fz y0]) (r:=.lst 3 (x15.map Diff.cl)) (cali z z gm1 gm2 hgr0.yr) (gm3 _ hc) z (Qd z (Ts (Td [[],[0],[0,1],[],[0,1,3],[0,1,3,4],[],[],[0,1,3,4,7],[0,1,3,4,6,7,8],[0,1,2,3,4,5,6,7,8,9],[],[0,1,2,3,4,5,6,7,8,9,10,11]] hmix (by kernel_rfl) (Qe 1 z (Qc z z z (args:=[.fz y0]) (r:=Ai x17) (cali z z gm_11 gm_12 hgr0.yr) (gm_13 _ hc_1) z (Qn z z z (v:=.hnd 18) (x:=some (.arr 3 1 (z18.map icl))) (Ax.mk (cl:=icl) z z slc_26 z z hz z z z) z (by first | rfl | (exact freshB_mk (by first | rfl | simp [menT,menO,AO.men,AV.men,menL,ifc_men hgr0.o]) z (by first | rfl | simp [menT,menO,AO.men,AV.men,menL,ifc_men hgr0.o]) z) | (simp [menT,menO,AO.men,AV.men,menL,ifc_men hgr0.o]; done) | ((simp only [List.all_cons,List.all_nil,Bool.and_true,Bool.and_eq_true]); and_intros <;> exact freshB_mk (by first | rfl | simp [menT,menO,AO.men,AV.men,menL,ifc_men hgr0.o]) z (by first | rfl | simp [menT,menO,AO.men,AV.men,menL,ifc_men hgr0.o]) z)) z (by first | rfl | (exact freshB_mk (by first | rfl | simp [menT,menO,AO.men,AV.men,menL,ifc_men hgr0.o]) z (by first | rfl | simp [menT,menO,AO.men,AV.men,menL,ifc_men hgr0.o]) z) | (simp [menT,menO,AO.men,AV.men,menL,ifc_men hgr0.o]; done) | ((simp only [List.all_cons,List.all_nil,Bool.and_true,Bool.and_eq_true]); and_intros <;> exact freshB_mk (by first | rfl | simp [menT,menO,AO.men,AV.men,menL,ifc_men hgr0.o]) z (by first | rfl | simp [menT,menO,AO.men,AV.men,menL,ifc_men hgr0.o]) z)) z (Qe 1 z (Qc z z z (args:=[.fz y0]) (r:=Ai x20) (cali z z gm_21 gm_22 hgr0.yr) (gm_23 _ hc_2) z (Qn z z z (v:=.hnd 21) (x:=some (.arr 4 1 (z21.map bcl))) (Ax.mk (cl:=bcl) z z slc_191 z z hz_1 z z z) z (by first | rfl | (exact freshB_mk (by first | rfl | simp [menT,menO,AO.men,AV.men,menL,ifc_men hgr0.o]) z (by first | rfl | simp [menT,menO,AO.men,AV.men,menL,ifc_men hgr0.o]) z) | (simp [menT,menO,AO.men,AV.men,menL,ifc_men hgr0.o]; done) | ((simp only [List.all_cons,List.all_nil,Bool.and_true,Bool.and_eq_true]); and_intros <;> exact freshB_mk (by first | rfl | simp [menT,menO,AO.men,AV.men,menL,ifc_men hgr0.o]) z (by first | rfl | simp [menT,menO,AO.men,AV.men,menL,ifc_men hgr0.o]) z)) z (by first | rfl | (exact freshB_mk (by first | rfl | simp [menT,menO,AO.men,AV.men,menL,ifc_men hgr0.o]) z (by first | rfl | simp [menT,menO,AO.men,AV.men,menL,ifc_men hgr0.o]) z) | (simp [menT,menO,AO.men,AV.men,menL,ifc_men hgr0.o]; done) | ((simp only [List.all_cons,List.all_nil,Bool.and_true,Bool.and_eq_true]); and_intros <;> exact freshB_mk (by first | rfl | simp [menT,menO,AO.men,AV.men,menL,ifc_men hgr0.o]) z (by first | rfl | simp [menT,menO,AO.men,AV.men,menL,ifc_men hgr0.o]) z)) z (Q1 z z z (v:=.lst 1 (([(-1)]:List Int).map icl)) (Ax.sl (xs:=([(-1)]:List Int)) z slc_26 z z ⟨Sub.refl _,u0⟩ z icl_len icl_one icl_im) ?_))))))))))))
  refine Qe 1 z (Qc z z z (args:=[.fz y0]) (r:=Ai x24) (cali z z gm_31 gm_32 hgr0.yr) (gm_33 _ hc_3) z (Qo [] [(3445000,.arr 3 1 (x25.map icl))] [3445000] z z z (args:=[.lst 1 (([(-1)]:List Int).map icl),Ai x24]) (r:=.hnd 3445000) (calv z z fnok_343 z) (f343_fr hc_4) u0 z z z (by first | rfl | (exact freshB_mk (by first | rfl | simp [menT,menO,AO.men,AV.men,menL,ifc_men hgr0.o]) z (by first | rfl | simp [menT,menO,AO.men,AV.men,menL,ifc_men hgr0.o]) z) | (simp [menT,menO,AO.men,AV.men,menL,ifc_men hgr0.o]; done) | ((simp only [List.all_cons,List.all_nil,Bool.and_true,Bool.and_eq_true]); and_intros <;> exact freshB_mk (by first | rfl | simp [menT,menO,AO.men,AV.men,menL,ifc_men hgr0.o]) z (by first | rfl | simp [menT,menO,AO.men,AV.men,menL,ifc_men hgr0.o]) z)) z (Q1 z z z (v:=.agg [.hnd 18,.hnd 21,.hnd 3445000]) (Ab_ z zer_318 (bld plc_318 zer_318) z ⟨Sub.refl _,Sub.refl _,Sub.refl _,u0⟩) (Qn z z z (v:=.ptr 7 0) (x:=some (.box [.sc (.slice none 0 0),.sc (.slice none 0 0),.sc (.slice none 0 0)])) (Al_ z z zer_318 z ⟨Sub.refl _,Sub.refl _,Sub.refl _,u0⟩) z (by first | rfl | (exact freshB_mk (by first | rfl | simp [menT,menO,AO.men,AV.men,menL,ifc_men hgr0.o]) z (by first | rfl | simp [menT,menO,AO.men,AV.men,menL,ifc_men hgr0.o]) z) | (simp [menT,menO,AO.men,AV.men,menL,ifc_men hgr0.o]; done) | ((simp only [List.all_cons,List.all_nil,Bool.and_true,Bool.and_eq_true]); and_intros <;> exact freshB_mk (by first | rfl | simp [menT,menO,AO.men,AV.men,menL,ifc_men hgr0.o]) z (by first | rfl | simp [menT,menO,AO.men,AV.men,menL,ifc_men hgr0.o]) z)) z (by first | rfl | (exact freshB_mk (by first | rfl | simp [menT,menO,AO.men,AV.men,menL,ifc_men hgr0.o]) z (by first | rfl | simp [menT,menO,AO.men,AV.men,menL,ifc_men hgr0.o]) z) | (simp [menT,menO,AO.men,AV.men,menL,ifc_men hgr0.o]; done) | ((simp only [List.all_cons,List.all_nil,Bool.and_true,Bool.and_eq_true]); and_intros <;> exact freshB_mk (by first | rfl | simp [menT,menO,AO.men,AV.men,menL,ifc_men hgr0.o]) z (by first | rfl | simp [menT,menO,AO.men,AV.men,menL,ifc_men hgr0.o]) z)) z (Qs z z (x:=some (.box [.hnd 18,.hnd 21,.hnd 3445000])) (As z siz_318 z z z z z z z) (Rx ⟨by kernel_rfl,freshL_of [18,21,3445000,7] (by kernel_rfl) (by kernel_rfl),?_⟩))))))
  refine Ts (Tr (Qe 1 z (Q1 z z z (Ax.ln (cl:=icl) z slc_26 z) (Qd z (Tri.rngLv hj (fun p=>⟨[(4,.ptr 4 0),(6,.lst 3 (x15.map Diff.cl)),(7,.ptr 7 0),(27,.lst 1 (a1.map icl)),(28,Ai (a1.length:Int)),(29,Ai p.1)],[(900000400,some (.arr 3 1 (([]:List Int).map icl))),(901000401,some (.arr 4 1 (([]:List Bool).map bcl))),(902000402,some (.arr 3 1 (([]:List Int).map icl))),(4,some (.box [.hnd 900000400,.hnd 901000401,.hnd 902000402])),(18,some (.arr 3 1 (z18.map icl))),(21,some (.arr 4 1 (p.2.map bcl))),(3445000,some (.arr 3 1 (x25.map icl))),(7,some (.box [.hnd 18,.hnd 21,.hnd 3445000]))]⟩) (fun(y:List Bool)=>⟨[(4,.ptr 4 0),(6,.lst 3 (x15.map Diff.cl)),(7,.ptr 7 0)],[(900000400,some (.arr 3 1 (([]:List Int).map icl))),(901000401,some (.arr 4 1 (([]:List Bool).map bcl))),(902000402,some (.arr 3 1 (([]:List Int).map icl))),(4,some (.box [.hnd 900000400,.hnd 901000401,.hnd 902000402])),(18,some (.arr 3 1 (z18.map icl))),(21,some (.arr 4 1 (y.map bcl))),(3445000,some (.arr 3 1 (x25.map icl))),(7,some (.box [.hnd 18,.hnd 21,.hnd 3445000]))]⟩) (Ee [900000400,901000401,902000402,4,18,21,3445000,7] z ⟨im_flat icl_im ([]:List Int),im_flat bcl_im ([]:List Bool),im_flat icl_im ([]:List Int),imf icl_im,imf bcl_im,imf icl_im,u0⟩) ?_ ?_ ?_)))))
  ·refine Tp z (Ts (Tri.label (Tn ?_ hfst)))
   exact(Ee [900000400,901000401,902000402,4,18,21,3445000,7] z ⟨im_flat icl_im ([]:List Int),im_flat bcl_im ([]:List Bool),im_flat icl_im ([]:List Int),imf icl_im,imf bcl_im,imf icl_im,u0⟩)
  ·rintro v29 voo7_1 hi h
   refine Tp z (Ts (Tc (b:=(decide (v29 < (a1.length:Int)))) z (fun hb_7=>?_) (fun hb_7=>?_)))
   ·exact(lt_f hi hb_7).elim
   exact Tri.exit (Xi voo7_1 (An h (Ee [900000400,901000401,902000402,4,18,21,3445000,7] z ⟨im_flat icl_im ([]:List Int),im_flat bcl_im ([]:List Bool),im_flat icl_im ([]:List Int),imf icl_im,imf bcl_im,imf icl_im,u0⟩)))
  rintro nx x v29 voo7_1 _ hi hw hx h
  refine Tp z (Ts (Tc (b:=(decide (v29 < (a1.length:Int)))) z (fun hb_8=>?_) (fun hb_8=>?_)))
  ·refine Tk (Ts (Tri.block (Tr (Q1 z z z (Ax.ix (cl:=icl) z slc_26 z z hx) (Qd z (Tri.region (Qe 3 z ?_)))))))
   obtain⟨y_8,hy_8,h⟩:=bs h
   exact Q1 z z z (Ax.ixh (cl:=bcl) z slc_191 z z z hy_8) (Qs z z (x:=some (.arr 4 1 ((voo7_1.set (Int.toNat x) true).map bcl))) (Ax.st_arr (cl:=bcl) (q:=true) z siz_4 z z hy_8 z z z z z z) (Rx (Tq z (Xi (v29+1,(voo7_1.set (Int.toNat x) true)) (An (An z h) (Es [900000400,901000401,902000402,4,18,21,3445000,7] [29] z ⟨im_flat icl_im ([]:List Int),im_flat bcl_im ([]:List Bool),im_flat icl_im ([]:List Int),imf icl_im,imf bcl_im,imf icl_im,u0⟩ ⟨.imm (Sub.of_eq (show Ai (v29+1)=Ai (W (v29+1)) from congrArg Ai hw.symm)) z,u0⟩))))))
  exact(lt_t hi hb_8).elim
 rintro nx_1 ⟨voo7_0,voo7_1_2,voo7_2⟩ h
 refine Tp z (Ts (Tr (Qe 1 z (Q1 z z z (Ax.ln (cl:=Diff.cl) z slc_32 z) (Qd z ?_)))))
 obtain⟨⟨voo7_0_2,voo7_1_4,voo7_2_2,v10_1⟩,hj_1,h⟩:=bs h
 refine Tri.rngLv hj_1 (fun p=>⟨[(4,.ptr 4 0),(6,.lst 3 (x15.map Diff.cl)),(7,.ptr 7 0),(10,Ai p.2.2.2.2),(38,.lst 3 (x15.map Diff.cl)),(39,Ai (x15.length:Int)),(40,Ai p.1)],[(900000400,some (.arr 3 1 (([]:List Int).map icl))),(901000401,some (.arr 4 1 (([]:List Bool).map bcl))),(902000402,some (.arr 3 1 (([]:List Int).map icl))),(4,some (.box [.hnd 900000400,.hnd 901000401,.hnd 902000402])),(18,some (.arr 3 1 (p.2.1.map icl))),(21,some (.arr 4 1 (p.2.2.1.map bcl))),(3445000,some (.arr 3 1 (p.2.2.2.1.map icl))),(7,some (.box [.hnd 18,.hnd 21,.hnd 3445000]))]⟩) (fun(y:List Int × List Bool × List Int × Int)=>⟨[(4,.ptr 4 0),(6,.lst 3 (x15.map Diff.cl)),(7,.ptr 7 0),(10,Ai y.2.2.2)],[(900000400,some (.arr 3 1 (([]:List Int).map icl))),(901000401,some (.arr 4 1 (([]:List Bool).map bcl))),(902000402,some (.arr 3 1 (([]:List Int).map icl))),(4,some (.box [.hnd 900000400,.hnd 901000401,.hnd 902000402])),(18,some (.arr 3 1 (y.1.map icl))),(21,some (.arr 4 1 (y.2.1.map bcl))),(3445000,some (.arr 3 1 (y.2.2.1.map icl))),(7,some (.box [.hnd 18,.hnd 21,.hnd 3445000]))]⟩) (Ee [900000400,901000401,902000402,4,18,21,3445000,7] z ⟨im_flat icl_im ([]:List Int),im_flat bcl_im ([]:List Bool),im_flat icl_im ([]:List Int),imf icl_im,imf bcl_im,imf icl_im,u0⟩) ?_ ?_ ?_
 ·refine Ts (Tp z (Tc (b:=(decide (v10_1 < 0))) z (fun hb=>?_) (fun hb=>?_)))
  ·have h:=cq hb h
   refine Tr (Qe 1 z (Qs z z (x:=some (.box [.hnd 18,.hnd 21,.hnd 3445000])) (As z siz_318 z z z z z z z) (Qd z (Te ?_))))
   refine RetQ.eq2 (fun r=>.tup [.agg (Tree_diffs.cl r.1),Ai r.2]) (fun r=>[]) (Option.some.inj h) ?_
   exact RetQ.mk (vs:=[.agg [.hnd 18,.hnd 21,.hnd 3445000],Ai (-1)]) (.inr z) ⟨_,_,z,.cell_box z siz_318 z z z,⟨_,_,z,.tmp z,z⟩⟩ [18,21,3445000] [] z z u0 (.tupV ⟨.frz (.aggV ⟨(.hnd mh z (im_flat icl_im voo7_0_2)),(.hnd (mt mh) z (im_flat bcl_im voo7_1_4)),(.hnd (mt (mt mh)) z (im_flat icl_im voo7_2_2)),u0⟩) z,.rfl' z,u0⟩)
  have h:=cw hb h
  refine Tk (Ts (Tr (Qe 3 z ?_)))
  obtain⟨x112,hc_5,h⟩:=bs h
  refine Ql [18,21,3445000] z z z (args:=[.agg [.hnd 18,.hnd 21,.hnd 3445000],.lst 3 (x15.map Diff.cl),Ai v10_1]) (args':=[.agg (Tree_diffs.cl (⟨voo7_0_2,voo7_1_4,voo7_2_2⟩:Tree_diffs)),.lst 3 (x15.map Diff.cl),Ai v10_1]) (r:=Ai x112) (calv z z fnok_344 z) ⟨.aggV ⟨.hnd mh z (im_flat icl_im voo7_0_2),.hnd (mt mh) z (im_flat bcl_im voo7_1_4),.hnd (mt (mt mh)) z (im_flat icl_im voo7_2_2),u0⟩,.imm z,.imm z,u0⟩ (f344_ok hc_5) z z (Qd z (Tp z (Tc (b:=(decide (x112≥0))) z (fun hb_1=>?_) (fun hb_1=>?_))))
  ·have h:=cq hb_1 h
   refine Tr (Qe 2 z (Qs z z (x:=some (.box [.hnd 18,.hnd 21,.hnd 3445000])) (As z siz_318 z z z z z z z) (Qd z (Te ?_))))
   refine RetQ.eq2 (fun r=>.tup [.agg (Tree_diffs.cl r.1),Ai r.2]) (fun r=>[]) (Option.some.inj h) ?_
   exact RetQ.mk (vs:=[.agg [.hnd 18,.hnd 21,.hnd 3445000],Ai x112]) (.inr z) ⟨_,_,z,.cell_box z siz_318 z z z,⟨_,_,z,.tmp z,z⟩⟩ [18,21,3445000] [] z z u0 (.tupV ⟨.frz (.aggV ⟨(.hnd mh z (im_flat icl_im voo7_0_2)),(.hnd (mt mh) z (im_flat bcl_im voo7_1_4)),(.hnd (mt (mt mh)) z (im_flat icl_im voo7_2_2)),u0⟩) z,.rfl' z,u0⟩)
  have h:=cw hb_1 h
  exact Tk (Tg (⟨z,(voo7_0_2,voo7_1_4,voo7_2_2),h,(Ee [900000400,901000401,902000402,4,18,21,3445000,7] z ⟨im_flat icl_im ([]:List Int),im_flat bcl_im ([]:List Bool),im_flat icl_im ([]:List Int),imf icl_im,imf bcl_im,imf icl_im,u0⟩)⟩))
 ·rintro v40 ⟨voo7_0_1,voo7_1_3,voo7_2_1,v10⟩ hi_1 h
  refine Tp z (Ts (Tc (b:=(decide (v40 < (x15.length:Int)))) z (fun hb_2=>?_) (fun hb_2=>?_)))
  ·exact(lt_f hi_1 hb_2).elim
  exact Tri.exit (Xi (voo7_0_1,voo7_1_3,voo7_2_1,v10) (An h (Ee [900000400,901000401,902000402,4,18,21,3445000,7] z ⟨im_flat icl_im ([]:List Int),im_flat bcl_im ([]:List Bool),im_flat icl_im ([]:List Int),imf icl_im,imf bcl_im,imf icl_im,u0⟩)))
 rintro nx_2 x_1 v40 ⟨voo7_0_1,voo7_1_3,voo7_2_1,v10⟩ _ hi_1 hw_1 hx_1 h
 refine Tp z (Ts (Tc (b:=(decide (v40 < (x15.length:Int)))) z (fun hb_3=>?_) (fun hb_3=>?_)))
 ·refine Tk (Ts (Tri.block (Tr (Qe 1 z (Q1 z z z (Ax.ix (cl:=Diff.cl) z slc_32 z z hx_1) (Qe 1 z (Qn z z z (v:=.ptr 12 0) (x:=some (.box (Diff.cl (⟨0,0,0⟩:Diff)))) (Al_ z z zer_174 z ⟨Sub.refl _,Sub.refl _,Sub.refl _,u0⟩) z (by first | rfl | (exact freshB_mk (by first | rfl | simp [menT,menO,AO.men,AV.men,menL,ifc_men hgr0.o]) z (by first | rfl | simp [menT,menO,AO.men,AV.men,menL,ifc_men hgr0.o]) z) | (simp [menT,menO,AO.men,AV.men,menL,ifc_men hgr0.o]; done) | ((simp only [List.all_cons,List.all_nil,Bool.and_true,Bool.and_eq_true]); and_intros <;> exact freshB_mk (by first | rfl | simp [menT,menO,AO.men,AV.men,menL,ifc_men hgr0.o]) z (by first | rfl | simp [menT,menO,AO.men,AV.men,menL,ifc_men hgr0.o]) z)) z (by first | rfl | (exact freshB_mk (by first | rfl | simp [menT,menO,AO.men,AV.men,menL,ifc_men hgr0.o]) z (by first | rfl | simp [menT,menO,AO.men,AV.men,menL,ifc_men hgr0.o]) z) | (simp [menT,menO,AO.men,AV.men,menL,ifc_men hgr0.o]; done) | ((simp only [List.all_cons,List.all_nil,Bool.and_true,Bool.and_eq_true]); and_intros <;> exact freshB_mk (by first | rfl | simp [menT,menO,AO.men,AV.men,menL,ifc_men hgr0.o]) z (by first | rfl | simp [menT,menO,AO.men,AV.men,menL,ifc_men hgr0.o]) z)) z (Qe 1 z (Qs z z (x:=some (.box (Diff.cl x_1))) (As z siz_174 z z z z z z z) (Rx (Ts ?_)))))))))))
  obtain⟨v77,hj_3,h⟩:=bs h
  refine Tri.joinv v77 (fun(y:Bool)=>⟨[(4,.ptr 4 0),(6,.lst 3 (x15.map Diff.cl)),(7,.ptr 7 0),(10,Ai v10),(11,Ai v40),(12,.ptr 12 0),(38,.lst 3 (x15.map Diff.cl)),(39,Ai (x15.length:Int)),(40,Ai v40),(77,Ab y)],[(900000400,some (.arr 3 1 (([]:List Int).map icl))),(901000401,some (.arr 4 1 (([]:List Bool).map bcl))),(902000402,some (.arr 3 1 (([]:List Int).map icl))),(4,some (.box [.hnd 900000400,.hnd 901000401,.hnd 902000402])),(18,some (.arr 3 1 (voo7_0_1.map icl))),(21,some (.arr 4 1 (voo7_1_3.map bcl))),(3445000,some (.arr 3 1 (voo7_2_1.map icl))),(7,some (.box [.hnd 18,.hnd 21,.hnd 3445000])),(12,some (.box (Diff.cl x_1)))]⟩) ?_ ?_
  ·obtain⟨⟨voo7_0_3,voo7_1_5,voo7_2_3,v10_2⟩,hj_2,h⟩:=bs h
   refine Tri.joinv (voo7_0_3,voo7_1_5,voo7_2_3,v10_2) (fun(y:List Int × List Bool × List Int × Int)=>⟨[(4,.ptr 4 0),(6,.lst 3 (x15.map Diff.cl)),(7,.ptr 7 0),(10,Ai y.2.2.2),(38,.lst 3 (x15.map Diff.cl)),(39,Ai (x15.length:Int)),(40,Ai v40)],[(900000400,some (.arr 3 1 (([]:List Int).map icl))),(901000401,some (.arr 4 1 (([]:List Bool).map bcl))),(902000402,some (.arr 3 1 (([]:List Int).map icl))),(4,some (.box [.hnd 900000400,.hnd 901000401,.hnd 902000402])),(18,some (.arr 3 1 (y.1.map icl))),(21,some (.arr 4 1 (y.2.1.map bcl))),(3445000,some (.arr 3 1 (y.2.2.1.map icl))),(7,some (.box [.hnd 18,.hnd 21,.hnd 3445000]))]⟩) ?_ ?_
   ·exact Tq z (Xi (v40+1,(voo7_0_3,voo7_1_5,voo7_2_3,v10_2)) (An (An z h) (Es [900000400,901000401,902000402,4,18,21,3445000,7] [40] z ⟨im_flat icl_im ([]:List Int),im_flat bcl_im ([]:List Bool),im_flat icl_im ([]:List Int),imf icl_im,imf bcl_im,imf icl_im,u0⟩ ⟨.imm (Sub.of_eq (show Ai (v40+1)=Ai (W (v40+1)) from congrArg Ai hw_1.symm)) z,u0⟩)))
   have h:=hj_2
   refine Tc (b:=v77) z (fun hb_4=>?_) (fun hb_4=>?_)
   ·have h:=cq hb_4 h
    refine Ts (Td [[],[0],[],[2],[],[4],[],[6],[],[8],[],[10],[],[12],[],[14],[12,13,14,15],[12,13,14,15,16],[],[18],[12,13,14,15,16,17,18,19],[],[0,1,2,3,12,13,14,15,16,17,18,19,20],[0,1,2,3,12,13,14,15,16,17,18,19,20,22],[0,1,2,3,4,5,6,7,12,13,14,15,16,17,18,19,20,22,23],[0,1,2,3,4,5,6,7,12,13,14,15,16,17,18,19,20,22,23,24],[0,1,2,3,4,5,6,7,8,9,10,11,12,13,14,15,16,17,18,19,20,21,22,23,24,25],[0,1,2,3,4,5,6,7,8,9,10,11,12,13,14,15,16,17,18,19,20,21,22,23,24,25,26]] hmix (by kernel_rfl) (Qe 16 z ?_))
    obtain⟨y,hy,h⟩:=bs h
    refine Q1 z z z (Ax.ixh (cl:=icl) z slc_26 z z z hy) (Q1 z z z (Ax.l1_arr (cl:=icl) z siz_3 z z hy z) (Qe 4 z ?_))
    obtain⟨y_1,hy_1,h⟩:=bs h
    refine Q1 z z z (Ax.ixh (cl:=icl) z slc_26 z z z hy_1) (Qs z z (x:=some (.arr 3 1 ((voo7_0_1.set (Int.toNat x_1.To) (W (y+x_1.Most))).map icl))) (Ax.st_arr (cl:=icl) (q:=(W (y+x_1.Most))) z siz_3 z z hy_1 z z z z z z) ?_)
    obtain⟨y_2,hy_2,h⟩:=bs h
    refine Q1 z z z (Ax.ixh (cl:=bcl) z slc_191 z z z hy_2) (Qs z z (x:=some (.arr 4 1 ((voo7_1_3.set (Int.toNat x_1.To) true).map bcl))) (Ax.st_arr (cl:=bcl) (q:=true) z siz_4 z z hy_2 z z z z z z) ?_)
    obtain⟨y_3,hy_3,h⟩:=bs h
    refine Q1 z z z (Ax.ixh (cl:=icl) z slc_26 z z z hy_3) (Qs z z (x:=some (.arr 3 1 ((voo7_2_1.set (Int.toNat x_1.To) v40).map icl))) (Ax.st_arr (cl:=icl) (q:=v40) z siz_3 z z hy_3 z z z z z z) (Rx ⟨by kernel_rfl,freshL_of [] (by kernel_rfl) (by kernel_rfl),?_⟩))
    exact Tq z (Xi ((voo7_0_1.set (Int.toNat x_1.To) (W (y+x_1.Most))),(voo7_1_3.set (Int.toNat x_1.To) true),(voo7_2_1.set (Int.toNat x_1.To) v40),x_1.To) (An h (Ee [900000400,901000401,902000402,4,18,21,3445000,7] z ⟨im_flat icl_im ([]:List Int),im_flat bcl_im ([]:List Bool),im_flat icl_im ([]:List Int),imf icl_im,imf bcl_im,imf icl_im,u0⟩)))
   have h:=cw hb_4 h
   exact Tk (Xi (voo7_0_1,voo7_1_3,voo7_2_1,v10) (An h (Ee [900000400,901000401,902000402,4,18,21,3445000,7] z ⟨im_flat icl_im ([]:List Int),im_flat bcl_im ([]:List Bool),im_flat icl_im ([]:List Int),imf icl_im,imf bcl_im,imf icl_im,u0⟩)))
  have h:=hj_3
  refine Td [] hmix (by kernel_rfl) (Qe 4 z ?_)
  obtain⟨y_4,hy_4,h⟩:=bs h
  refine Q1 z z z (Ax.ixh (cl:=bcl) z slc_191 z z z hy_4) (Q1 z z z (Ax.l1_arr (cl:=bcl) z siz_4 z z hy_4 z) (Qe 1 z ?_))
  rcases b2 y_4 with hb_5 | hb_5
  ·have h:=cq hb_5 h
   refine Qk 51 hb_5 z (Qe 4 z ?_)
   obtain⟨y_5,hy_5,h⟩:=bs h
   refine Q1 z z z (Ax.ixh (cl:=bcl) z slc_191 z z z hy_5) (Q1 z z z (Ax.l1_arr (cl:=bcl) z siz_4 z z hy_5 z) (Qe 2 z ?_))
   rcases b2 (!y_5) with hb_6 | hb_6
   ·have h:=cq hb_6 h
    refine Qk 59 hb_6 z (Qe 18 z (Rx ⟨by kernel_rfl,freshL_of [] (by kernel_rfl) (by kernel_rfl),?_⟩))
    exact Xi true (An h (Ee [900000400,901000401,902000402,4,18,21,3445000,7,12] z ⟨im_flat icl_im ([]:List Int),im_flat bcl_im ([]:List Bool),im_flat icl_im ([]:List Int),imf icl_im,imf bcl_im,imf icl_im,u0⟩))
   have h:=cw hb_6 h
   refine Qk 59 hb_6 z (Qe 4 z ?_)
   obtain⟨y_6,hy_6,h⟩:=bs h
   refine Q1 z z z (Ax.ixh (cl:=icl) z slc_26 z z z hy_6) (Q1 z z z (Ax.l1_arr (cl:=icl) z siz_3 z z hy_6 z) (Qe 7 z ?_))
   obtain⟨y_7,hy_7,h⟩:=bs h
   refine Q1 z z z (Ax.ixh (cl:=icl) z slc_26 z z z hy_7) (Q1 z z z (Ax.l1_arr (cl:=icl) z siz_3 z z hy_7 z) (Qe 3 z (Rx ⟨by kernel_rfl,freshL_of [] (by kernel_rfl) (by kernel_rfl),?_⟩)))
   exact Xi (decide ((W (y_6+x_1.Most)) < y_7)) (An h (Ee [900000400,901000401,902000402,4,18,21,3445000,7,12] z ⟨im_flat icl_im ([]:List Int),im_flat bcl_im ([]:List Bool),im_flat icl_im ([]:List Int),imf icl_im,imf bcl_im,imf icl_im,u0⟩))
  have h:=cw hb_5 h
  refine Qk 51 hb_5 z (Qe 26 z (Rx ⟨by kernel_rfl,freshL_of [] (by kernel_rfl) (by kernel_rfl),?_⟩))
  exact Xi false (An h (Ee [900000400,901000401,902000402,4,18,21,3445000,7,12] z ⟨im_flat icl_im ([]:List Int),im_flat bcl_im ([]:List Bool),im_flat icl_im ([]:List Int),imf icl_im,imf bcl_im,imf icl_im,u0⟩))
 exact(lt_t hi_1 hb_3).elim
theorem f311_fr {K:Nat} {a0:Gr} {t0:Nat} {y0:AV} {a1:List Int} {r:Tree_diffs × Int} (hgr0:GrOK a0 t0 (.fz y0)) (h:f311 K a0 a1=some r):CallOK Tryz.prog 311 [.ifc t0 (.fz y0),.lst 1 (a1.map icl)] [] (.tup [.agg [.hnd 3125001,.hnd 3125002,.hnd 3125003],Ai r.2]) [(3125001,.arr 3 1 (r.1.long.map icl)),(3125002,.arr 4 1 (r.1.has.map bcl)),(3125003,.arr 3 1 (r.1.last.map icl))]:=by
 refine Co Tryz.func311 z z (nl z) ?_
 unfold f311 at h
 refine Tr (Qn z z z (v:=.ptr 4 0) (x:=some (.box [.sc (.slice none 0 0),.sc (.slice none 0 0),.sc (.slice none 0 0)])) (Al_ z z zer_318 z ⟨Sub.refl _,Sub.refl _,Sub.refl _,u0⟩) z (by first | rfl | (exact freshB_mk (by first | rfl | simp [menT,menO,AO.men,AV.men,menL,ifc_men hgr0.o]) z (by first | rfl | simp [menT,menO,AO.men,AV.men,menL,ifc_men hgr0.o]) z) | (simp [menT,menO,AO.men,AV.men,menL,ifc_men hgr0.o]; done) | ((simp only [List.all_cons,List.all_nil,Bool.and_true,Bool.and_eq_true]); and_intros <;> exact freshB_mk (by first | rfl | simp [menT,menO,AO.men,AV.men,menL,ifc_men hgr0.o]) z (by first | rfl | simp [menT,menO,AO.men,AV.men,menL,ifc_men hgr0.o]) z)) z (by first | rfl | (exact freshB_mk (by first | rfl | simp [menT,menO,AO.men,AV.men,menL,ifc_men hgr0.o]) z (by first | rfl | simp [menT,menO,AO.men,AV.men,menL,ifc_men hgr0.o]) z) | (simp [menT,menO,AO.men,AV.men,menL,ifc_men hgr0.o]; done) | ((simp only [List.all_cons,List.all_nil,Bool.and_true,Bool.and_eq_true]); and_intros <;> exact freshB_mk (by first | rfl | simp [menT,menO,AO.men,AV.men,menL,ifc_men hgr0.o]) z (by first | rfl | simp [menT,menO,AO.men,AV.men,menL,ifc_men hgr0.o]) z)) z (Qd z (Tn (Eg 4 0 900000400 3 1 (cells':=[.hnd 900000400,.sc (.slice none 0 0),.sc (.slice none 0 0)]) z z z (by first | rfl | (exact freshB_mk (by first | rfl | simp [menT,menO,AO.men,AV.men,menL,ifc_men hgr0.o]) z (by first | rfl | simp [menT,menO,AO.men,AV.men,menL,ifc_men hgr0.o]) z) | (simp [menT,menO,AO.men,AV.men,menL,ifc_men hgr0.o]; done) | ((simp only [List.all_cons,List.all_nil,Bool.and_true,Bool.and_eq_true]); and_intros <;> exact freshB_mk (by first | rfl | simp [menT,menO,AO.men,AV.men,menL,ifc_men hgr0.o]) z (by first | rfl | simp [menT,menO,AO.men,AV.men,menL,ifc_men hgr0.o]) z))) (Tn (Eg 4 1 901000401 4 1 (cells':=[.hnd 900000400,.hnd 901000401,.sc (.slice none 0 0)]) z z z (by first | rfl | (exact freshB_mk (by first | rfl | simp [menT,menO,AO.men,AV.men,menL,ifc_men hgr0.o]) z (by first | rfl | simp [menT,menO,AO.men,AV.men,menL,ifc_men hgr0.o]) z) | (simp [menT,menO,AO.men,AV.men,menL,ifc_men hgr0.o]; done) | ((simp only [List.all_cons,List.all_nil,Bool.and_true,Bool.and_eq_true]); and_intros <;> exact freshB_mk (by first | rfl | simp [menT,menO,AO.men,AV.men,menL,ifc_men hgr0.o]) z (by first | rfl | simp [menT,menO,AO.men,AV.men,menL,ifc_men hgr0.o]) z))) (Tn (Eg 4 2 902000402 3 1 (cells':=[.hnd 900000400,.hnd 901000401,.hnd 902000402]) z z z (by first | rfl | (exact freshB_mk (by first | rfl | simp [menT,menO,AO.men,AV.men,menL,ifc_men hgr0.o]) z (by first | rfl | simp [menT,menO,AO.men,AV.men,menL,ifc_men hgr0.o]) z) | (simp [menT,menO,AO.men,AV.men,menL,ifc_men hgr0.o]; done) | ((simp only [List.all_cons,List.all_nil,Bool.and_true,Bool.and_eq_true]); and_intros <;> exact freshB_mk (by first | rfl | simp [menT,menO,AO.men,AV.men,menL,ifc_men hgr0.o]) z (by first | rfl | simp [menT,menO,AO.men,AV.men,menL,ifc_men hgr0.o]) z))) ?_)))))
 obtain⟨x15,hc,h⟩:=bs h
 obtain⟨gm,gm1,gm2,gm3⟩:=hgr0.lines
 obtain⟨x17,hc_1,h⟩:=bs h
 obtain⟨gm_1,gm_11,gm_12,gm_13⟩:=hgr0.nodes
 obtain⟨z18,hz,h⟩:=bs h
 obtain⟨x20,hc_2,h⟩:=bs h
 obtain⟨gm_2,gm_21,gm_22,gm_23⟩:=hgr0.nodes
 obtain⟨z21,hz_1,h⟩:=bs h
 obtain⟨x24,hc_3,h⟩:=bs h
 obtain⟨gm_3,gm_31,gm_32,gm_33⟩:=hgr0.nodes
 obtain⟨x25,hc_4,h⟩:=bs h
 obtain⟨voo7_1_1,hj,h⟩:=bs h
 refine Tri.scopeW (l:=0) h (fun(p:List Int × List Bool × List Int)=>⟨[(4,.ptr 4 0),(6,.lst 3 (x15.map Diff.cl)),(7,.ptr 7 0)],[(900000400,some (.arr 3 1 (([]:List Int).map icl))),(901000401,some (.arr 4 1 (([]:List Bool).map bcl))),(902000402,some (.arr 3 1 (([]:List Int).map icl))),(4,some (.box [.hnd 900000400,.hnd 901000401,.hnd 902000402])),(18,some (.arr 3 1 (p.1.map icl))),(21,some (.arr 4 1 (p.2.1.map bcl))),(3445000,some (.arr 3 1 (p.2.2.map icl))),(7,some (.box [.hnd 18,.hnd 21,.hnd 3445000]))]⟩) z (fun hfst=>?_) ?_
 ·refine Tr (Qe 1 z (Qc z z z (args:=[.fz y0]) (r:=.lst 3 (x15.map Diff.cl)) (cali z z gm1 gm2 hgr0.yr) (gm3 _ hc) z (Qd z (Ts (Td [[],[0],[0,1],[],[0,1,3],[0,1,3,4],[],[],[0,1,3,4,7],[0,1,3,4,6,7,8],[0,1,2,3,4,5,6,7,8,9],[],[0,1,2,3,4,5,6,7,8,9,10,11]] hmix (by kernel_rfl) (Qe 1 z (Qc z z z (args:=[.fz y0]) (r:=Ai x17) (cali z z gm_11 gm_12 hgr0.yr) (gm_13 _ hc_1) z (Qn z z z (v:=.hnd 18) (x:=some (.arr 3 1 (z18.map icl))) (Ax.mk (cl:=icl) z z slc_26 z z hz z z z) z (by first | rfl | (exact freshB_mk (by first | rfl | simp [menT,menO,AO.men,AV.men,menL,ifc_men hgr0.o]) z (by first | rfl | simp [menT,menO,AO.men,AV.men,menL,ifc_men hgr0.o]) z) | (simp [menT,menO,AO.men,AV.men,menL,ifc_men hgr0.o]; done) | ((simp only [List.all_cons,List.all_nil,Bool.and_true,Bool.and_eq_true]); and_intros <;> exact freshB_mk (by first | rfl | simp [menT,menO,AO.men,AV.men,menL,ifc_men hgr0.o]) z (by first | rfl | simp [menT,menO,AO.men,AV.men,menL,ifc_men hgr0.o]) z)) z (by first | rfl | (exact freshB_mk (by first | rfl | simp [menT,menO,AO.men,AV.men,menL,ifc_men hgr0.o]) z (by first | rfl | simp [menT,menO,AO.men,AV.men,menL,ifc_men hgr0.o]) z) | (simp [menT,menO,AO.men,AV.men,menL,ifc_men hgr0.o]; done) | ((simp only [List.all_cons,List.all_nil,Bool.and_true,Bool.and_eq_true]); and_intros <;> exact freshB_mk (by first | rfl | simp [menT,menO,AO.men,AV.men,menL,ifc_men hgr0.o]) z (by first | rfl | simp [menT,menO,AO.men,AV.men,menL,ifc_men hgr0.o]) z)) z (Qe 1 z (Qc z z z (args:=[.fz y0]) (r:=Ai x20) (cali z z gm_21 gm_22 hgr0.yr) (gm_23 _ hc_2) z (Qn z z z (v:=.hnd 21) (x:=some (.arr 4 1 (z21.map bcl))) (Ax.mk (cl:=bcl) z z slc_191 z z hz_1 z z z) z (by first | rfl | (exact freshB_mk (by first | rfl | simp [menT,menO,AO.men,AV.men,menL,ifc_men hgr0.o]) z (by first | rfl | simp [menT,menO,AO.men,AV.men,menL,ifc_men hgr0.o]) z) | (simp [menT,menO,AO.men,AV.men,menL,ifc_men hgr0.o]; done) | ((simp only [List.all_cons,List.all_nil,Bool.and_true,Bool.and_eq_true]); and_intros <;> exact freshB_mk (by first | rfl | simp [menT,menO,AO.men,AV.men,menL,ifc_men hgr0.o]) z (by first | rfl | simp [menT,menO,AO.men,AV.men,menL,ifc_men hgr0.o]) z)) z (by first | rfl | (exact freshB_mk (by first | rfl | simp [menT,menO,AO.men,AV.men,menL,ifc_men hgr0.o]) z (by first | rfl | simp [menT,menO,AO.men,AV.men,menL,ifc_men hgr0.o]) z) | (simp [menT,menO,AO.men,AV.men,menL,ifc_men hgr0.o]; done) | ((simp only [List.all_cons,List.all_nil,Bool.and_true,Bool.and_eq_true]); and_intros <;> exact freshB_mk (by first | rfl | simp [menT,menO,AO.men,AV.men,menL,ifc_men hgr0.o]) z (by first | rfl | simp [menT,menO,AO.men,AV.men,menL,ifc_men hgr0.o]) z)) z (Q1 z z z (v:=.lst 1 (([(-1)]:List Int).map icl)) (Ax.sl (xs:=([(-1)]:List Int)) z slc_26 z z ⟨Sub.refl _,u0⟩ z icl_len icl_one icl_im) ?_))))))))))))
  refine Qe 1 z (Qc z z z (args:=[.fz y0]) (r:=Ai x24) (cali z z gm_31 gm_32 hgr0.yr) (gm_33 _ hc_3) z (Qo [] [(3445000,.arr 3 1 (x25.map icl))] [3445000] z z z (args:=[.lst 1 (([(-1)]:List Int).map icl),Ai x24]) (r:=.hnd 3445000) (calv z z fnok_343 z) (f343_fr hc_4) u0 z z z (by first | rfl | (exact freshB_mk (by first | rfl | simp [menT,menO,AO.men,AV.men,menL,ifc_men hgr0.o]) z (by first | rfl | simp [menT,menO,AO.men,AV.men,menL,ifc_men hgr0.o]) z) | (simp [menT,menO,AO.men,AV.men,menL,ifc_men hgr0.o]; done) | ((simp only [List.all_cons,List.all_nil,Bool.and_true,Bool.and_eq_true]); and_intros <;> exact freshB_mk (by first | rfl | simp [menT,menO,AO.men,AV.men,menL,ifc_men hgr0.o]) z (by first | rfl | simp [menT,menO,AO.men,AV.men,menL,ifc_men hgr0.o]) z)) z (Q1 z z z (v:=.agg [.hnd 18,.hnd 21,.hnd 3445000]) (Ab_ z zer_318 (bld plc_318 zer_318) z ⟨Sub.refl _,Sub.refl _,Sub.refl _,u0⟩) (Qn z z z (v:=.ptr 7 0) (x:=some (.box [.sc (.slice none 0 0),.sc (.slice none 0 0),.sc (.slice none 0 0)])) (Al_ z z zer_318 z ⟨Sub.refl _,Sub.refl _,Sub.refl _,u0⟩) z (by first | rfl | (exact freshB_mk (by first | rfl | simp [menT,menO,AO.men,AV.men,menL,ifc_men hgr0.o]) z (by first | rfl | simp [menT,menO,AO.men,AV.men,menL,ifc_men hgr0.o]) z) | (simp [menT,menO,AO.men,AV.men,menL,ifc_men hgr0.o]; done) | ((simp only [List.all_cons,List.all_nil,Bool.and_true,Bool.and_eq_true]); and_intros <;> exact freshB_mk (by first | rfl | simp [menT,menO,AO.men,AV.men,menL,ifc_men hgr0.o]) z (by first | rfl | simp [menT,menO,AO.men,AV.men,menL,ifc_men hgr0.o]) z)) z (by first | rfl | (exact freshB_mk (by first | rfl | simp [menT,menO,AO.men,AV.men,menL,ifc_men hgr0.o]) z (by first | rfl | simp [menT,menO,AO.men,AV.men,menL,ifc_men hgr0.o]) z) | (simp [menT,menO,AO.men,AV.men,menL,ifc_men hgr0.o]; done) | ((simp only [List.all_cons,List.all_nil,Bool.and_true,Bool.and_eq_true]); and_intros <;> exact freshB_mk (by first | rfl | simp [menT,menO,AO.men,AV.men,menL,ifc_men hgr0.o]) z (by first | rfl | simp [menT,menO,AO.men,AV.men,menL,ifc_men hgr0.o]) z)) z (Qs z z (x:=some (.box [.hnd 18,.hnd 21,.hnd 3445000])) (As z siz_318 z z z z z z z) (Rx ⟨by kernel_rfl,freshL_of [18,21,3445000,7] (by kernel_rfl) (by kernel_rfl),?_⟩))))))
  refine Ts (Tr (Qe 1 z (Q1 z z z (Ax.ln (cl:=icl) z slc_26 z) (Qd z (Tri.rngLv hj (fun p=>⟨[(4,.ptr 4 0),(6,.lst 3 (x15.map Diff.cl)),(7,.ptr 7 0),(27,.lst 1 (a1.map icl)),(28,Ai (a1.length:Int)),(29,Ai p.1)],[(900000400,some (.arr 3 1 (([]:List Int).map icl))),(901000401,some (.arr 4 1 (([]:List Bool).map bcl))),(902000402,some (.arr 3 1 (([]:List Int).map icl))),(4,some (.box [.hnd 900000400,.hnd 901000401,.hnd 902000402])),(18,some (.arr 3 1 (z18.map icl))),(21,some (.arr 4 1 (p.2.map bcl))),(3445000,some (.arr 3 1 (x25.map icl))),(7,some (.box [.hnd 18,.hnd 21,.hnd 3445000]))]⟩) (fun(y:List Bool)=>⟨[(4,.ptr 4 0),(6,.lst 3 (x15.map Diff.cl)),(7,.ptr 7 0)],[(900000400,some (.arr 3 1 (([]:List Int).map icl))),(901000401,some (.arr 4 1 (([]:List Bool).map bcl))),(902000402,some (.arr 3 1 (([]:List Int).map icl))),(4,some (.box [.hnd 900000400,.hnd 901000401,.hnd 902000402])),(18,some (.arr 3 1 (z18.map icl))),(21,some (.arr 4 1 (y.map bcl))),(3445000,some (.arr 3 1 (x25.map icl))),(7,some (.box [.hnd 18,.hnd 21,.hnd 3445000]))]⟩) (Ee [900000400,901000401,902000402,4,18,21,3445000,7] z ⟨im_flat icl_im ([]:List Int),im_flat bcl_im ([]:List Bool),im_flat icl_im ([]:List Int),imf icl_im,imf bcl_im,imf icl_im,u0⟩) ?_ ?_ ?_)))))
  ·refine Tp z (Ts (Tri.label (Tn ?_ hfst)))
   exact(Ee [900000400,901000401,902000402,4,18,21,3445000,7] z ⟨im_flat icl_im ([]:List Int),im_flat bcl_im ([]:List Bool),im_flat icl_im ([]:List Int),imf icl_im,imf bcl_im,imf icl_im,u0⟩)
  ·rintro v29 voo7_1 hi h
   refine Tp z (Ts (Tc (b:=(decide (v29 < (a1.length:Int)))) z (fun hb_7=>?_) (fun hb_7=>?_)))
   ·exact(lt_f hi hb_7).elim
   exact Tri.exit (Xi voo7_1 (An h (Ee [900000400,901000401,902000402,4,18,21,3445000,7] z ⟨im_flat icl_im ([]:List Int),im_flat bcl_im ([]:List Bool),im_flat icl_im ([]:List Int),imf icl_im,imf bcl_im,imf icl_im,u0⟩)))
  rintro nx x v29 voo7_1 _ hi hw hx h
  refine Tp z (Ts (Tc (b:=(decide (v29 < (a1.length:Int)))) z (fun hb_8=>?_) (fun hb_8=>?_)))
  ·refine Tk (Ts (Tri.block (Tr (Q1 z z z (Ax.ix (cl:=icl) z slc_26 z z hx) (Qd z (Tri.region (Qe 3 z ?_)))))))
   obtain⟨y_8,hy_8,h⟩:=bs h
   exact Q1 z z z (Ax.ixh (cl:=bcl) z slc_191 z z z hy_8) (Qs z z (x:=some (.arr 4 1 ((voo7_1.set (Int.toNat x) true).map bcl))) (Ax.st_arr (cl:=bcl) (q:=true) z siz_4 z z hy_8 z z z z z z) (Rx (Tq z (Xi (v29+1,(voo7_1.set (Int.toNat x) true)) (An (An z h) (Es [900000400,901000401,902000402,4,18,21,3445000,7] [29] z ⟨im_flat icl_im ([]:List Int),im_flat bcl_im ([]:List Bool),im_flat icl_im ([]:List Int),imf icl_im,imf bcl_im,imf icl_im,u0⟩ ⟨.imm (Sub.of_eq (show Ai (v29+1)=Ai (W (v29+1)) from congrArg Ai hw.symm)) z,u0⟩))))))
  exact(lt_t hi hb_8).elim
 rintro nx_1 ⟨voo7_0,voo7_1_2,voo7_2⟩ h
 refine Tp z (Ts (Tr (Qe 1 z (Q1 z z z (Ax.ln (cl:=Diff.cl) z slc_32 z) (Qd z ?_)))))
 obtain⟨⟨voo7_0_2,voo7_1_4,voo7_2_2,v10_1⟩,hj_1,h⟩:=bs h
 refine Tri.rngLv hj_1 (fun p=>⟨[(4,.ptr 4 0),(6,.lst 3 (x15.map Diff.cl)),(7,.ptr 7 0),(10,Ai p.2.2.2.2),(38,.lst 3 (x15.map Diff.cl)),(39,Ai (x15.length:Int)),(40,Ai p.1)],[(900000400,some (.arr 3 1 (([]:List Int).map icl))),(901000401,some (.arr 4 1 (([]:List Bool).map bcl))),(902000402,some (.arr 3 1 (([]:List Int).map icl))),(4,some (.box [.hnd 900000400,.hnd 901000401,.hnd 902000402])),(18,some (.arr 3 1 (p.2.1.map icl))),(21,some (.arr 4 1 (p.2.2.1.map bcl))),(3445000,some (.arr 3 1 (p.2.2.2.1.map icl))),(7,some (.box [.hnd 18,.hnd 21,.hnd 3445000]))]⟩) (fun(y:List Int × List Bool × List Int × Int)=>⟨[(4,.ptr 4 0),(6,.lst 3 (x15.map Diff.cl)),(7,.ptr 7 0),(10,Ai y.2.2.2)],[(900000400,some (.arr 3 1 (([]:List Int).map icl))),(901000401,some (.arr 4 1 (([]:List Bool).map bcl))),(902000402,some (.arr 3 1 (([]:List Int).map icl))),(4,some (.box [.hnd 900000400,.hnd 901000401,.hnd 902000402])),(18,some (.arr 3 1 (y.1.map icl))),(21,some (.arr 4 1 (y.2.1.map bcl))),(3445000,some (.arr 3 1 (y.2.2.1.map icl))),(7,some (.box [.hnd 18,.hnd 21,.hnd 3445000]))]⟩) (Ee [900000400,901000401,902000402,4,18,21,3445000,7] z ⟨im_flat icl_im ([]:List Int),im_flat bcl_im ([]:List Bool),im_flat icl_im ([]:List Int),imf icl_im,imf bcl_im,imf icl_im,u0⟩) ?_ ?_ ?_
 ·refine Ts (Tp z (Tc (b:=(decide (v10_1 < 0))) z (fun hb=>?_) (fun hb=>?_)))
  ·have h:=cq hb h
   refine Tr (Qe 1 z (Qs z z (x:=some (.box [.hnd 18,.hnd 21,.hnd 3445000])) (As z siz_318 z z z z z z z) (Qd z (Te ?_))))
   refine Rr (fun r=>.tup [.agg [.hnd 3125001,.hnd 3125002,.hnd 3125003],Ai r.2]) (fun r=>[(3125001,.arr 3 1 (r.1.long.map icl)),(3125002,.arr 4 1 (r.1.has.map bcl)),(3125003,.arr 3 1 (r.1.last.map icl))]) [18,21,3445000] h ?_ ?_
   ·rfl
   exact⟨imf icl_im,imf bcl_im,imf icl_im,u0⟩
  have h:=cw hb h
  refine Tk (Ts (Tr (Qe 3 z ?_)))
  obtain⟨x112,hc_5,h⟩:=bs h
  refine Ql [18,21,3445000] z z z (args:=[.agg [.hnd 18,.hnd 21,.hnd 3445000],.lst 3 (x15.map Diff.cl),Ai v10_1]) (args':=[.agg (Tree_diffs.cl (⟨voo7_0_2,voo7_1_4,voo7_2_2⟩:Tree_diffs)),.lst 3 (x15.map Diff.cl),Ai v10_1]) (r:=Ai x112) (calv z z fnok_344 z) ⟨.aggV ⟨.hnd mh z (im_flat icl_im voo7_0_2),.hnd (mt mh) z (im_flat bcl_im voo7_1_4),.hnd (mt (mt mh)) z (im_flat icl_im voo7_2_2),u0⟩,.imm z,.imm z,u0⟩ (f344_ok hc_5) z z (Qd z (Tp z (Tc (b:=(decide (x112≥0))) z (fun hb_1=>?_) (fun hb_1=>?_))))
  ·have h:=cq hb_1 h
   refine Tr (Qe 2 z (Qs z z (x:=some (.box [.hnd 18,.hnd 21,.hnd 3445000])) (As z siz_318 z z z z z z z) (Qd z (Te ?_))))
   refine Rr (fun r=>.tup [.agg [.hnd 3125001,.hnd 3125002,.hnd 3125003],Ai r.2]) (fun r=>[(3125001,.arr 3 1 (r.1.long.map icl)),(3125002,.arr 4 1 (r.1.has.map bcl)),(3125003,.arr 3 1 (r.1.last.map icl))]) [18,21,3445000] h ?_ ?_
   ·rfl
   exact⟨imf icl_im,imf bcl_im,imf icl_im,u0⟩
  have h:=cw hb_1 h
  exact Tk (Tg (⟨z,(voo7_0_2,voo7_1_4,voo7_2_2),h,(Ee [900000400,901000401,902000402,4,18,21,3445000,7] z ⟨im_flat icl_im ([]:List Int),im_flat bcl_im ([]:List Bool),im_flat icl_im ([]:List Int),imf icl_im,imf bcl_im,imf icl_im,u0⟩)⟩))
 ·rintro v40 ⟨voo7_0_1,voo7_1_3,voo7_2_1,v10⟩ hi_1 h
  refine Tp z (Ts (Tc (b:=(decide (v40 < (x15.length:Int)))) z (fun hb_2=>?_) (fun hb_2=>?_)))
  ·exact(lt_f hi_1 hb_2).elim
  exact Tri.exit (Xi (voo7_0_1,voo7_1_3,voo7_2_1,v10) (An h (Ee [900000400,901000401,902000402,4,18,21,3445000,7] z ⟨im_flat icl_im ([]:List Int),im_flat bcl_im ([]:List Bool),im_flat icl_im ([]:List Int),imf icl_im,imf bcl_im,imf icl_im,u0⟩)))
 rintro nx_2 x_1 v40 ⟨voo7_0_1,voo7_1_3,voo7_2_1,v10⟩ _ hi_1 hw_1 hx_1 h
 refine Tp z (Ts (Tc (b:=(decide (v40 < (x15.length:Int)))) z (fun hb_3=>?_) (fun hb_3=>?_)))
 ·refine Tk (Ts (Tri.block (Tr (Qe 1 z (Q1 z z z (Ax.ix (cl:=Diff.cl) z slc_32 z z hx_1) (Qe 1 z (Qn z z z (v:=.ptr 12 0) (x:=some (.box (Diff.cl (⟨0,0,0⟩:Diff)))) (Al_ z z zer_174 z ⟨Sub.refl _,Sub.refl _,Sub.refl _,u0⟩) z (by first | rfl | (exact freshB_mk (by first | rfl | simp [menT,menO,AO.men,AV.men,menL,ifc_men hgr0.o]) z (by first | rfl | simp [menT,menO,AO.men,AV.men,menL,ifc_men hgr0.o]) z) | (simp [menT,menO,AO.men,AV.men,menL,ifc_men hgr0.o]; done) | ((simp only [List.all_cons,List.all_nil,Bool.and_true,Bool.and_eq_true]); and_intros <;> exact freshB_mk (by first | rfl | simp [menT,menO,AO.men,AV.men,menL,ifc_men hgr0.o]) z (by first | rfl | simp [menT,menO,AO.men,AV.men,menL,ifc_men hgr0.o]) z)) z (by first | rfl | (exact freshB_mk (by first | rfl | simp [menT,menO,AO.men,AV.men,menL,ifc_men hgr0.o]) z (by first | rfl | simp [menT,menO,AO.men,AV.men,menL,ifc_men hgr0.o]) z) | (simp [menT,menO,AO.men,AV.men,menL,ifc_men hgr0.o]; done) | ((simp only [List.all_cons,List.all_nil,Bool.and_true,Bool.and_eq_true]); and_intros <;> exact freshB_mk (by first | rfl | simp [menT,menO,AO.men,AV.men,menL,ifc_men hgr0.o]) z (by first | rfl | simp [menT,menO,AO.men,AV.men,menL,ifc_men hgr0.o]) z)) z (Qe 1 z (Qs z z (x:=some (.box (Diff.cl x_1))) (As z siz_174 z z z z z z z) (Rx (Ts ?_)))))))))))
  obtain⟨v77,hj_3,h⟩:=bs h
  refine Tri.joinv v77 (fun(y:Bool)=>⟨[(4,.ptr 4 0),(6,.lst 3 (x15.map Diff.cl)),(7,.ptr 7 0),(10,Ai v10),(11,Ai v40),(12,.ptr 12 0),(38,.lst 3 (x15.map Diff.cl)),(39,Ai (x15.length:Int)),(40,Ai v40),(77,Ab y)],[(900000400,some (.arr 3 1 (([]:List Int).map icl))),(901000401,some (.arr 4 1 (([]:List Bool).map bcl))),(902000402,some (.arr 3 1 (([]:List Int).map icl))),(4,some (.box [.hnd 900000400,.hnd 901000401,.hnd 902000402])),(18,some (.arr 3 1 (voo7_0_1.map icl))),(21,some (.arr 4 1 (voo7_1_3.map bcl))),(3445000,some (.arr 3 1 (voo7_2_1.map icl))),(7,some (.box [.hnd 18,.hnd 21,.hnd 3445000])),(12,some (.box (Diff.cl x_1)))]⟩) ?_ ?_
  ·obtain⟨⟨voo7_0_3,voo7_1_5,voo7_2_3,v10_2⟩,hj_2,h⟩:=bs h
   refine Tri.joinv (voo7_0_3,voo7_1_5,voo7_2_3,v10_2) (fun(y:List Int × List Bool × List Int × Int)=>⟨[(4,.ptr 4 0),(6,.lst 3 (x15.map Diff.cl)),(7,.ptr 7 0),(10,Ai y.2.2.2),(38,.lst 3 (x15.map Diff.cl)),(39,Ai (x15.length:Int)),(40,Ai v40)],[(900000400,some (.arr 3 1 (([]:List Int).map icl))),(901000401,some (.arr 4 1 (([]:List Bool).map bcl))),(902000402,some (.arr 3 1 (([]:List Int).map icl))),(4,some (.box [.hnd 900000400,.hnd 901000401,.hnd 902000402])),(18,some (.arr 3 1 (y.1.map icl))),(21,some (.arr 4 1 (y.2.1.map bcl))),(3445000,some (.arr 3 1 (y.2.2.1.map icl))),(7,some (.box [.hnd 18,.hnd 21,.hnd 3445000]))]⟩) ?_ ?_
   ·exact Tq z (Xi (v40+1,(voo7_0_3,voo7_1_5,voo7_2_3,v10_2)) (An (An z h) (Es [900000400,901000401,902000402,4,18,21,3445000,7] [40] z ⟨im_flat icl_im ([]:List Int),im_flat bcl_im ([]:List Bool),im_flat icl_im ([]:List Int),imf icl_im,imf bcl_im,imf icl_im,u0⟩ ⟨.imm (Sub.of_eq (show Ai (v40+1)=Ai (W (v40+1)) from congrArg Ai hw_1.symm)) z,u0⟩)))
   have h:=hj_2
   refine Tc (b:=v77) z (fun hb_4=>?_) (fun hb_4=>?_)
   ·have h:=cq hb_4 h
    refine Ts (Td [[],[0],[],[2],[],[4],[],[6],[],[8],[],[10],[],[12],[],[14],[12,13,14,15],[12,13,14,15,16],[],[18],[12,13,14,15,16,17,18,19],[],[0,1,2,3,12,13,14,15,16,17,18,19,20],[0,1,2,3,12,13,14,15,16,17,18,19,20,22],[0,1,2,3,4,5,6,7,12,13,14,15,16,17,18,19,20,22,23],[0,1,2,3,4,5,6,7,12,13,14,15,16,17,18,19,20,22,23,24],[0,1,2,3,4,5,6,7,8,9,10,11,12,13,14,15,16,17,18,19,20,21,22,23,24,25],[0,1,2,3,4,5,6,7,8,9,10,11,12,13,14,15,16,17,18,19,20,21,22,23,24,25,26]] hmix (by kernel_rfl) (Qe 16 z ?_))
    obtain⟨y,hy,h⟩:=bs h
    refine Q1 z z z (Ax.ixh (cl:=icl) z slc_26 z z z hy) (Q1 z z z (Ax.l1_arr (cl:=icl) z siz_3 z z hy z) (Qe 4 z ?_))
    obtain⟨y_1,hy_1,h⟩:=bs h
    refine Q1 z z z (Ax.ixh (cl:=icl) z slc_26 z z z hy_1) (Qs z z (x:=some (.arr 3 1 ((voo7_0_1.set (Int.toNat x_1.To) (W (y+x_1.Most))).map icl))) (Ax.st_arr (cl:=icl) (q:=(W (y+x_1.Most))) z siz_3 z z hy_1 z z z z z z) ?_)
    obtain⟨y_2,hy_2,h⟩:=bs h
    refine Q1 z z z (Ax.ixh (cl:=bcl) z slc_191 z z z hy_2) (Qs z z (x:=some (.arr 4 1 ((voo7_1_3.set (Int.toNat x_1.To) true).map bcl))) (Ax.st_arr (cl:=bcl) (q:=true) z siz_4 z z hy_2 z z z z z z) ?_)
    obtain⟨y_3,hy_3,h⟩:=bs h
    refine Q1 z z z (Ax.ixh (cl:=icl) z slc_26 z z z hy_3) (Qs z z (x:=some (.arr 3 1 ((voo7_2_1.set (Int.toNat x_1.To) v40).map icl))) (Ax.st_arr (cl:=icl) (q:=v40) z siz_3 z z hy_3 z z z z z z) (Rx ⟨by kernel_rfl,freshL_of [] (by kernel_rfl) (by kernel_rfl),?_⟩))
    exact Tq z (Xi ((voo7_0_1.set (Int.toNat x_1.To) (W (y+x_1.Most))),(voo7_1_3.set (Int.toNat x_1.To) true),(voo7_2_1.set (Int.toNat x_1.To) v40),x_1.To) (An h (Ee [900000400,901000401,902000402,4,18,21,3445000,7] z ⟨im_flat icl_im ([]:List Int),im_flat bcl_im ([]:List Bool),im_flat icl_im ([]:List Int),imf icl_im,imf bcl_im,imf icl_im,u0⟩)))
   have h:=cw hb_4 h
   exact Tk (Xi (voo7_0_1,voo7_1_3,voo7_2_1,v10) (An h (Ee [900000400,901000401,902000402,4,18,21,3445000,7] z ⟨im_flat icl_im ([]:List Int),im_flat bcl_im ([]:List Bool),im_flat icl_im ([]:List Int),imf icl_im,imf bcl_im,imf icl_im,u0⟩)))
  have h:=hj_3
  refine Td [] hmix (by kernel_rfl) (Qe 4 z ?_)
  obtain⟨y_4,hy_4,h⟩:=bs h
  refine Q1 z z z (Ax.ixh (cl:=bcl) z slc_191 z z z hy_4) (Q1 z z z (Ax.l1_arr (cl:=bcl) z siz_4 z z hy_4 z) (Qe 1 z ?_))
  rcases b2 y_4 with hb_5 | hb_5
  ·have h:=cq hb_5 h
   refine Qk 51 hb_5 z (Qe 4 z ?_)
   obtain⟨y_5,hy_5,h⟩:=bs h
   refine Q1 z z z (Ax.ixh (cl:=bcl) z slc_191 z z z hy_5) (Q1 z z z (Ax.l1_arr (cl:=bcl) z siz_4 z z hy_5 z) (Qe 2 z ?_))
   rcases b2 (!y_5) with hb_6 | hb_6
   ·have h:=cq hb_6 h
    refine Qk 59 hb_6 z (Qe 18 z (Rx ⟨by kernel_rfl,freshL_of [] (by kernel_rfl) (by kernel_rfl),?_⟩))
    exact Xi true (An h (Ee [900000400,901000401,902000402,4,18,21,3445000,7,12] z ⟨im_flat icl_im ([]:List Int),im_flat bcl_im ([]:List Bool),im_flat icl_im ([]:List Int),imf icl_im,imf bcl_im,imf icl_im,u0⟩))
   have h:=cw hb_6 h
   refine Qk 59 hb_6 z (Qe 4 z ?_)
   obtain⟨y_6,hy_6,h⟩:=bs h
   refine Q1 z z z (Ax.ixh (cl:=icl) z slc_26 z z z hy_6) (Q1 z z z (Ax.l1_arr (cl:=icl) z siz_3 z z hy_6 z) (Qe 7 z ?_))
   obtain⟨y_7,hy_7,h⟩:=bs h
   refine Q1 z z z (Ax.ixh (cl:=icl) z slc_26 z z z hy_7) (Q1 z z z (Ax.l1_arr (cl:=icl) z siz_3 z z hy_7 z) (Qe 3 z (Rx ⟨by kernel_rfl,freshL_of [] (by kernel_rfl) (by kernel_rfl),?_⟩)))
   exact Xi (decide ((W (y_6+x_1.Most)) < y_7)) (An h (Ee [900000400,901000401,902000402,4,18,21,3445000,7,12] z ⟨im_flat icl_im ([]:List Int),im_flat bcl_im ([]:List Bool),im_flat icl_im ([]:List Int),imf icl_im,imf bcl_im,imf icl_im,u0⟩))
  have h:=cw hb_5 h
  refine Qk 51 hb_5 z (Qe 26 z (Rx ⟨by kernel_rfl,freshL_of [] (by kernel_rfl) (by kernel_rfl),?_⟩))
  exact Xi false (An h (Ee [900000400,901000401,902000402,4,18,21,3445000,7,12] z ⟨im_flat icl_im ([]:List Int),im_flat bcl_im ([]:List Bool),im_flat icl_im ([]:List Int),imf icl_im,imf bcl_im,imf icl_im,u0⟩))
 exact(lt_t hi_1 hb_3).elim
theorem f312_ok {K:Nat} {a0:Gr} {t0:Nat} {y0:AV} {r:List Int} (hgr0:GrOK a0 t0 (.fz y0)) (h:f312 K a0=some r):CallOK Tryz.prog 312 [.ifc t0 (.fz y0)] [] (.lst 1 (r.map icl)) []:=by
 refine Co Tryz.func312 z z (nl z) ?_
 unfold f312 at h
 refine Tr (Q1 z z z (v:=.lst 1 (([]:List Int).map icl)) (Ax.nl 1 z z) (Rx (Tr (Qn z z z (v:=.hnd 3) (x:=some (.arr 3 1 (([]:List Int).map icl))) (Ax.nil_new 3 1 (.inr z) z) z (by first | rfl | (exact freshB_mk (by first | rfl | simp [menT,menO,AO.men,AV.men,menL,ifc_men hgr0.o]) z (by first | rfl | simp [menT,menO,AO.men,AV.men,menL,ifc_men hgr0.o]) z) | (simp [menT,menO,AO.men,AV.men,menL,ifc_men hgr0.o]; done) | ((simp only [List.all_cons,List.all_nil,Bool.and_true,Bool.and_eq_true]); and_intros <;> exact freshB_mk (by first | rfl | simp [menT,menO,AO.men,AV.men,menL,ifc_men hgr0.o]) z (by first | rfl | simp [menT,menO,AO.men,AV.men,menL,ifc_men hgr0.o]) z)) z (by first | rfl | (exact freshB_mk (by first | rfl | simp [menT,menO,AO.men,AV.men,menL,ifc_men hgr0.o]) z (by first | rfl | simp [menT,menO,AO.men,AV.men,menL,ifc_men hgr0.o]) z) | (simp [menT,menO,AO.men,AV.men,menL,ifc_men hgr0.o]; done) | ((simp only [List.all_cons,List.all_nil,Bool.and_true,Bool.and_eq_true]); and_intros <;> exact freshB_mk (by first | rfl | simp [menT,menO,AO.men,AV.men,menL,ifc_men hgr0.o]) z (by first | rfl | simp [menT,menO,AO.men,AV.men,menL,ifc_men hgr0.o]) z)) z (Rx (Ts (Tr (Qe 1 z ?_))))))))
 obtain⟨x6,hc,h⟩:=bs h
 obtain⟨gm,gm1,gm2,gm3⟩:=hgr0.nodes
 refine Qc z z z (args:=[.fz y0]) (r:=Ai x6) (cali z z gm1 gm2 hgr0.yr) (gm3 _ hc) z (Qd z ?_)
 obtain⟨vo3_1,hj,h⟩:=bs h
 refine Tri.rngNv hj (fun p=>⟨[(3,.hnd 3),(6,Ai x6),(7,Ai p.1)],[(3,some (.arr 3 1 (p.2.map icl)))]⟩) (fun(y:List Int)=>⟨[(3,.hnd 3)],[(3,some (.arr 3 1 (y.map icl)))]⟩) (Ee [3] z ⟨im_flat icl_im ([]:List Int),u0⟩) ?_ ?_ ?_
 ·refine Tp z (Te ?_)
  refine RetQ.eq2 (fun r=>.lst 1 (r.map icl)) (fun r=>[]) (Option.some.inj h) ?_
  exact RetQ.mk (vs:=[.hnd 3]) (.inr z) ⟨_,_,z,.tmp z,z⟩ [3] [] z z u0 (.frz (.hnd mh z (im_flat icl_im vo3_1)) z)
 ·rintro v7 vo3 hi _ h
  refine Tp z (Ts (Tc (b:=(decide (v7 < x6))) z (fun hb=>?_) (fun hb=>?_)))
  ·exact(lt_f hi hb).elim
  exact Tri.exit (Xi vo3 (An h (Ee [3] z ⟨imf icl_im,u0⟩)))
 rintro nx v7 vo3 _ hi hw h
 refine Tp z (Ts (Tc (b:=(decide (v7 < x6))) z (fun hb_1=>?_) (fun hb_1=>?_)))
 ·refine Tk (Ts (Tri.block (Tp z (Tri.region (Qe 2 z (Q1 z z z (v:=.lst 1 (([v7]:List Int).map icl)) (Ax.sl (xs:=([v7]:List Int)) z slc_26 z z ⟨Sub.refl _,u0⟩ z icl_len icl_one icl_im) ?_))))))
  obtain⟨z13,hz,h⟩:=bs h
  exact Qa z z z (v:=.hnd 13) (x:=some (.arr 3 1 (z13.map icl))) (Ax.app_l (cl:=icl) z z slc_26 z z z icl_one icl_im hz z z) z (by first | rfl | (exact freshB_mk (by first | rfl | simp [menT,menO,AO.men,AV.men,menL,ifc_men hgr0.o]) z (by first | rfl | simp [menT,menO,AO.men,AV.men,menL,ifc_men hgr0.o]) z) | (simp [menT,menO,AO.men,AV.men,menL,ifc_men hgr0.o]; done) | ((simp only [List.all_cons,List.all_nil,Bool.and_true,Bool.and_eq_true]); and_intros <;> exact freshB_mk (by first | rfl | simp [menT,menO,AO.men,AV.men,menL,ifc_men hgr0.o]) z (by first | rfl | simp [menT,menO,AO.men,AV.men,menL,ifc_men hgr0.o]) z)) z (by first | rfl | (exact freshB_mk (by first | rfl | simp [menT,menO,AO.men,AV.men,menL,ifc_men hgr0.o]) z (by first | rfl | simp [menT,menO,AO.men,AV.men,menL,ifc_men hgr0.o]) z) | (simp [menT,menO,AO.men,AV.men,menL,ifc_men hgr0.o]; done) | ((simp only [List.all_cons,List.all_nil,Bool.and_true,Bool.and_eq_true]); and_intros <;> exact freshB_mk (by first | rfl | simp [menT,menO,AO.men,AV.men,menL,ifc_men hgr0.o]) z (by first | rfl | simp [menT,menO,AO.men,AV.men,menL,ifc_men hgr0.o]) z)) z (Qd z (Tq z (Xi (v7+1,z13) (An (An z h) (Es [13] [7] z ⟨imf icl_im,u0⟩ ⟨.imm (Sub.of_eq (show Ai (v7+1)=Ai (W (v7+1)) from congrArg Ai hw.symm)) z,u0⟩)))))
 exact(lt_t hi hb_1).elim
theorem f251_ok {K:Nat} {a0:Gr} {t0:Nat} {y0:AV} {r:List Int × Tree_diffs × Int} (hgr0:GrOK a0 t0 (.fz y0)) (h:f251 K a0=some r):CallOK Tryz.prog 251 [.ifc t0 (.fz y0)] [] (.tup [.lst 1 (r.1.map icl),.agg (Tree_diffs.cl r.2.1),Ai r.2.2]) []:=by
 refine Co Tryz.func251 z z (nl z) ?_
 unfold f251 at h
 refine Tr (Q1 z z z (v:=.lst 1 (([]:List Int).map icl)) (Ax.nl 1 z z) (Qn z z z (v:=.ptr 3 0) (x:=some (.box (Tree_diffs.cl (⟨([]:List Int),([]:List Bool),([]:List Int)⟩:Tree_diffs)))) (Al_ z z zer_318 z ⟨Sub.nil _,Sub.nil _,Sub.nil _,u0⟩) z (by first | rfl | (exact freshB_mk (by first | rfl | simp [menT,menO,AO.men,AV.men,menL,ifc_men hgr0.o]) z (by first | rfl | simp [menT,menO,AO.men,AV.men,menL,ifc_men hgr0.o]) z) | (simp [menT,menO,AO.men,AV.men,menL,ifc_men hgr0.o]; done) | ((simp only [List.all_cons,List.all_nil,Bool.and_true,Bool.and_eq_true]); and_intros <;> exact freshB_mk (by first | rfl | simp [menT,menO,AO.men,AV.men,menL,ifc_men hgr0.o]) z (by first | rfl | simp [menT,menO,AO.men,AV.men,menL,ifc_men hgr0.o]) z)) z (by first | rfl | (exact freshB_mk (by first | rfl | simp [menT,menO,AO.men,AV.men,menL,ifc_men hgr0.o]) z (by first | rfl | simp [menT,menO,AO.men,AV.men,menL,ifc_men hgr0.o]) z) | (simp [menT,menO,AO.men,AV.men,menL,ifc_men hgr0.o]; done) | ((simp only [List.all_cons,List.all_nil,Bool.and_true,Bool.and_eq_true]); and_intros <;> exact freshB_mk (by first | rfl | simp [menT,menO,AO.men,AV.men,menL,ifc_men hgr0.o]) z (by first | rfl | simp [menT,menO,AO.men,AV.men,menL,ifc_men hgr0.o]) z)) z (Qd z (Tr (Qe 2 z ?_)))))
 obtain⟨x12,hc,h⟩:=bs h
 refine Qc z z z (args:=[.ifc t0 (.fz y0)]) (r:=.lst 1 (x12.map icl)) (calv z z fnok_312 z) (f312_ok hgr0 hc) z ?_
 obtain⟨⟨x13_0,x13_1⟩,hc_1,h⟩:=bs h
 refine Qo [] [(3125001,.arr 3 1 (x13_0.long.map icl)),(3125002,.arr 4 1 (x13_0.has.map bcl)),(3125003,.arr 3 1 (x13_0.last.map icl))] [3125001,3125002,3125003] z z z (args:=[.ifc t0 (.fz y0),.lst 1 (x12.map icl)]) (r:=.tup [.agg [.hnd 3125001,.hnd 3125002,.hnd 3125003],Ai x13_1]) (calv z z fnok_311 z) (f311_fr hgr0 hc_1) u0 z z z (by first | rfl | (exact freshB_mk (by first | rfl | simp [menT,menO,AO.men,AV.men,menL,ifc_men hgr0.o]) z (by first | rfl | simp [menT,menO,AO.men,AV.men,menL,ifc_men hgr0.o]) z) | (simp [menT,menO,AO.men,AV.men,menL,ifc_men hgr0.o]; done) | ((simp only [List.all_cons,List.all_nil,Bool.and_true,Bool.and_eq_true]); and_intros <;> exact freshB_mk (by first | rfl | simp [menT,menO,AO.men,AV.men,menL,ifc_men hgr0.o]) z (by first | rfl | simp [menT,menO,AO.men,AV.men,menL,ifc_men hgr0.o]) z)) z (Qe 3 z (Qn z z z (v:=.ptr 5 0) (x:=some (.box (Tree_diffs.cl (⟨([]:List Int),([]:List Bool),([]:List Int)⟩:Tree_diffs)))) (Al_ z z zer_318 z ⟨Sub.nil _,Sub.nil _,Sub.nil _,u0⟩) z (by first | rfl | (exact freshB_mk (by first | rfl | simp [menT,menO,AO.men,AV.men,menL,ifc_men hgr0.o]) z (by first | rfl | simp [menT,menO,AO.men,AV.men,menL,ifc_men hgr0.o]) z) | (simp [menT,menO,AO.men,AV.men,menL,ifc_men hgr0.o]; done) | ((simp only [List.all_cons,List.all_nil,Bool.and_true,Bool.and_eq_true]); and_intros <;> exact freshB_mk (by first | rfl | simp [menT,menO,AO.men,AV.men,menL,ifc_men hgr0.o]) z (by first | rfl | simp [menT,menO,AO.men,AV.men,menL,ifc_men hgr0.o]) z)) z (by first | rfl | (exact freshB_mk (by first | rfl | simp [menT,menO,AO.men,AV.men,menL,ifc_men hgr0.o]) z (by first | rfl | simp [menT,menO,AO.men,AV.men,menL,ifc_men hgr0.o]) z) | (simp [menT,menO,AO.men,AV.men,menL,ifc_men hgr0.o]; done) | ((simp only [List.all_cons,List.all_nil,Bool.and_true,Bool.and_eq_true]); and_intros <;> exact freshB_mk (by first | rfl | simp [menT,menO,AO.men,AV.men,menL,ifc_men hgr0.o]) z (by first | rfl | simp [menT,menO,AO.men,AV.men,menL,ifc_men hgr0.o]) z)) z (Qs z z (x:=some (.box [.hnd 3125001,.hnd 3125002,.hnd 3125003])) (As z siz_318 z z z z z z z) (Qd z (Ts (Tp z (Tc (b:=(decide (x13_1≥0))) z (fun hb=>?_) (fun hb=>?_))))))))
 ·have h:=cq hb h
  refine Ts (Td [[],[],[],[0,2],[]] hmix (by kernel_rfl) (Qe 2 z (Q1 z z z (v:=.lst 1 (([]:List Int).map icl)) (Ax.nl 1 z z) (Qs z z (x:=some (.box [.hnd 3125001,.hnd 3125002,.hnd 3125003])) (As z siz_318 z z z z z z z) (Qe 1 z (Rx ⟨by kernel_rfl,freshL_of [] (by kernel_rfl) (by kernel_rfl),?_⟩))))))
  refine Te ?_
  refine RetQ.eq2 (fun r=>.tup [.lst 1 (r.1.map icl),.agg (Tree_diffs.cl r.2.1),Ai r.2.2]) (fun r=>[]) (Option.some.inj h) ?_
  exact RetQ.mk (vs:=[.lst 1 (([]:List Int).map icl),.agg [.hnd 3125001,.hnd 3125002,.hnd 3125003],Ai x13_1]) (.inr z) ⟨_,_,z,.tmp z,⟨_,_,z,.cell_box z siz_318 z z z,⟨_,_,z,.tmp z,z⟩⟩⟩ [3125001,3125002,3125003] [] z z u0 (.tupV ⟨.rfl' z,.frz (.aggV ⟨(.hnd mh z (im_flat icl_im x13_0.long)),(.hnd (mt mh) z (im_flat bcl_im x13_0.has)),(.hnd (mt (mt mh)) z (im_flat icl_im x13_0.last)),u0⟩) z,.rfl' z,u0⟩)
 have h:=cw hb h
 refine Tk (Tr (Qe 2 z ?_))
 obtain⟨x22,hc_2,h⟩:=bs h
 refine Qlf [3125001] [(20260000,.arr 3 1 (x22.map icl))] [20260000] z z z (args:=[.hnd 3125001]) (args':=[.lst 1 (x13_0.long.map icl)]) (r:=.hnd 20260000) (calv z z fnok_85 z) ⟨.hnd mh z (im_flat icl_im x13_0.long),u0⟩ (f85_fr hc_2) z z z (by first | rfl | (simp only [List.all_cons,List.all_nil,AO.solid,Bool.and_true,Bool.and_self,solid_flat (cl:=icl) (fun _=>z)])) z z (by first | rfl | (exact freshB_mk (by first | rfl | simp [menT,menO,AO.men,AV.men,menL,ifc_men hgr0.o]) z (by first | rfl | simp [menT,menO,AO.men,AV.men,menL,ifc_men hgr0.o]) z) | (simp [menT,menO,AO.men,AV.men,menL,ifc_men hgr0.o]; done) | ((simp only [List.all_cons,List.all_nil,Bool.and_true,Bool.and_eq_true]); and_intros <;> exact freshB_mk (by first | rfl | simp [menT,menO,AO.men,AV.men,menL,ifc_men hgr0.o]) z (by first | rfl | simp [menT,menO,AO.men,AV.men,menL,ifc_men hgr0.o]) z)) z (Qd z (Ts (Tr (Qe 1 z (Q1 z z z (Ax.lnh (cl:=icl) z slc_26 z z) (Qd z ?_))))))
 obtain⟨vo7_1,hj,h⟩:=bs h
 refine Tri.rngNv hj (fun p=>⟨[(3,.ptr 3 0),(5,.ptr 5 0),(7,.hnd 20260000),(24,Ai (x22.length:Int)),(25,Ai p.1)],[(3,some (.box (Tree_diffs.cl (⟨([]:List Int),([]:List Bool),([]:List Int)⟩:Tree_diffs)))),(3125001,some (.arr 3 1 (x13_0.long.map icl))),(3125002,some (.arr 4 1 (x13_0.has.map bcl))),(3125003,some (.arr 3 1 (x13_0.last.map icl))),(5,some (.box [.hnd 3125001,.hnd 3125002,.hnd 3125003])),(20260000,some (.arr 3 1 (p.2.map icl)))]⟩) (fun(y:List Int)=>⟨[(3,.ptr 3 0),(5,.ptr 5 0),(7,.hnd 20260000)],[(3,some (.box (Tree_diffs.cl (⟨([]:List Int),([]:List Bool),([]:List Int)⟩:Tree_diffs)))),(3125001,some (.arr 3 1 (x13_0.long.map icl))),(3125002,some (.arr 4 1 (x13_0.has.map bcl))),(3125003,some (.arr 3 1 (x13_0.last.map icl))),(5,some (.box [.hnd 3125001,.hnd 3125002,.hnd 3125003])),(20260000,some (.arr 3 1 (y.map icl)))]⟩) (Ee [3,3125001,3125002,3125003,5,20260000] z ⟨imf icl_im,imf bcl_im,imf icl_im,imf icl_im,u0⟩) ?_ ?_ ?_
 ·refine Ts (Td [[],[],[0],[0,1,2],[]] hmix (by kernel_rfl) (Qe 3 z (Qs z z (x:=some (.box [.hnd 3125001,.hnd 3125002,.hnd 3125003])) (As z siz_318 z z z z z z z) (Qe 1 z (Rx ⟨by kernel_rfl,freshL_of [] (by kernel_rfl) (by kernel_rfl),?_⟩)))))
  refine Te ?_
  refine RetQ.eq2 (fun r=>.tup [.lst 1 (r.1.map icl),.agg (Tree_diffs.cl r.2.1),Ai r.2.2]) (fun r=>[]) (Option.some.inj h) ?_
  exact RetQ.mk (vs:=[.hnd 20260000,.agg [.hnd 3125001,.hnd 3125002,.hnd 3125003],Ai (-1)]) (.inr z) ⟨_,_,z,.tmp z,⟨_,_,z,.cell_box z siz_318 z z z,⟨_,_,z,.tmp z,z⟩⟩⟩ [20260000,3125001,3125002,3125003] [] z z u0 (.tupV ⟨.frz (.hnd mh z (im_flat icl_im vo7_1)) z,.frz (.aggV ⟨(.hnd (mt mh) z (im_flat icl_im x13_0.long)),(.hnd (mt (mt mh)) z (im_flat bcl_im x13_0.has)),(.hnd (mt (mt (mt mh))) z (im_flat icl_im x13_0.last)),u0⟩) z,.rfl' z,u0⟩)
 ·rintro v25 vo7 hi _ h
  refine Tp z (Ts (Tc (b:=(decide (v25 < (x22.length:Int)))) z (fun hb_1=>?_) (fun hb_1=>?_)))
  ·exact(lt_f hi hb_1).elim
  exact Tri.exit (Xi vo7 (An h (Ee [3,3125001,3125002,3125003,5,20260000] z ⟨imf icl_im,imf bcl_im,imf icl_im,imf icl_im,u0⟩)))
 rintro nx v25 vo7 _ hi hw h
 refine Tp z (Ts (Tc (b:=(decide (v25 < (x22.length:Int)))) z (fun hb_2=>?_) (fun hb_2=>?_)))
 ·refine Tk (Ts (Tri.block (Tp z (Td [[],[],[0,1],[0,1,2],[],[4],[4,5],[4,5,6],[0,1,2,3,4,5,6,7],[0,1,2,3,4,5,6,7,8],[0,1,2,3,4,5,6,7,8,9]] hmix (by kernel_rfl) (Qe 2 z ?_)))))
  obtain⟨y,hy,h⟩:=bs h
  refine Q1 z z z (Ax.ixh (cl:=icl) z slc_26 z z z hy) (Q1 z z z (Ax.l1_arr (cl:=icl) z siz_3 z z hy z) (Qe 2 z ?_))
  obtain⟨y_1,hy_1,h⟩:=bs h
  refine Q1 z z z (Ax.ixh (cl:=icl) z slc_26 z z z hy_1) (Q1 z z z (Ax.l1_arr (cl:=icl) z siz_3 z z hy_1 z) (Qe 1 z (Q1 z z z (Ax.ixh (cl:=icl) z slc_26 z z z hy) (Qs z z (x:=some (.arr 3 1 ((vo7.set (Int.toNat v25) (W (y - y_1))).map icl))) (Ax.st_arr (cl:=icl) (q:=(W (y - y_1))) z siz_3 z z hy z z z z z z) (Rx ⟨by kernel_rfl,freshL_of [] (by kernel_rfl) (by kernel_rfl),?_⟩)))))
  exact Tq z (Xi (v25+1,(vo7.set (Int.toNat v25) (W (y - y_1)))) (An (An z h) (Es [3,3125001,3125002,3125003,5,20260000] [25] z ⟨imf icl_im,imf bcl_im,imf icl_im,imf icl_im,u0⟩ ⟨.imm (Sub.of_eq (show Ai (v25+1)=Ai (W (v25+1)) from congrArg Ai hw.symm)) z,u0⟩)))
 exact(lt_t hi hb_2).elim
theorem f386_ok {K:Nat} {a0:Plain_diffs} {r:List Diff} (h:f386 K a0=some r):CallOK Tryz.prog 386 [.agg (Plain_diffs.cl a0)] [] (.lst 3 (r.map Diff.cl)) []:=by
 refine Co Tryz.func386 z z (nl z) ?_
 unfold f386 at h
 refine Tr (Qe 1 z (Q1 z z z (v:=.lst 3 (([]:List Diff).map Diff.cl)) (Ax.nl 3 z z) (Rx (Tp z (Te ?_)))))
 refine Rr (fun r=>.lst 3 (r.map Diff.cl)) (fun r=>[]) [] h ?_ u0
 rfl
theorem f387_ok {K:Nat} {a0:Plain_diffs} {r:Int} (h:f387 K a0=some r):CallOK Tryz.prog 387 [.agg (Plain_diffs.cl a0)] [] (Ai r) []:=by
 refine Co Tryz.func387 z z (nl z) ?_
 unfold f387 at h
 refine Tp z (Tp z (Te ?_))
 exact Ri h z
end Go.Proofs.YthlchdnbokhclaaGreat.Ql

import Derived.Test.YthlchdnbokhclaaGreatQt
import Derived.Test.YthlchdnbokhclaaGreatQg1
import Derived.Test.YthlchdnbokhclaaGreatQg3
import Derived.Test.YthlchdnbokhclaaGreatQg2
set_option linter.all false
namespace Go.Proofs.YthlchdnbokhclaaGreat.Ql
open Go Go.Proofs
set_option maxRecDepth 100000
set_option maxHeartbeats 0
def f182 (K:Nat) (a0:Int) (a1:Int):Option (Bool):=
  some ((decide (a0≥0))&&(decide (a0≤a1)))
def f178 (K:Nat) (a0:Cell):Option (Bool):=
  Option.bind (
    (f182 K a0.No 4095).bind fun x5=>
    bif x5 then
      (f182 K a0.Height 9000).bind fun x9=>
      bif x9 then
        (f182 K a0.Aspect 7).bind fun x14=>
        bif x14 then
          bif (decide (a0.Area≥1)) then
            some (decide (a0.Area≤4096))
          else
            some false
        else
          some false
      else
        some false
    else
      some false) fun(v2:Bool)=>
  some v2
def f75 (K:Nat) (a0:Basin):Option (Int):=
  Option.bind (
    bif (decide ((a0.Cells.length:Int) < 1)) then
      some true
    else
      bif (decide ((a0.Cells.length:Int) > 12)) then
        some true
      else
        bif (decide ((a0.Pairs.length:Int) > 24)) then
          some true
        else
          (f182 K a0.Gain 65536).bind fun x27=>
          bif (!x27) then
            some true
          else
            (f182 K a0.Slack 65536).bind fun x33=>
            bif (!x33) then
              some true
            else
              (f182 K a0.Deep 65536).bind fun x39=>
              some (!x39)) fun(v41:Bool)=>
  bif v41 then
    some 50
  else
    Jo (α:=Unit→Option (Int)) (fun(_:Unit)=>
      Jo (α:=Unit→Option (Int)) (fun(_:Unit)=>
        some 0) fun(j_1:Unit→Option (Int))=>
      rngL a0.Pairs () (fun(v4:Int) (_:Unit)=>
          j_1 ()) fun nx_1 x_1 v4 (_:Unit)=>
        Option.bind (
          (f182 K x_1.a0 (W ((a0.Cells.length:Int) - 1))).bind fun x94=>
          bif (!x94) then
            some true
          else
            (f182 K x_1.a1 (W ((a0.Cells.length:Int) - 1))).bind fun x103=>
            bif (!x103) then
              some true
            else
              bif (x_1.a0==x_1.a1) then
                some true
              else
                (ix a0.Cells x_1.a0).bind fun y_1=>
                (ix a0.Cells x_1.a1).bind fun y_2=>
                some (decide (y_1.Height > y_2.Height))) fun(v129:Bool)=>
        bif v129 then
          some 50
        else
          Jo (α:=Unit→Option (Int)) (fun(_:Unit)=>
            nx_1 (v4+1) ()) fun(j_2:Unit→Option (Int))=>
          rngN 0 v4 () (fun(v6:Int) (_:Unit)=>
              j_2 ()) fun nx_2 v6 (_:Unit)=>
            (ix a0.Pairs v6).bind fun y=>
            bif (bif (y.a0==x_1.a0) then ((y.a1==x_1.a1)||((y.a0==x_1.a1)&&(y.a1==x_1.a0))) else ((y.a0==x_1.a1)&&(y.a1==x_1.a0))) then
              some 50
            else
              nx_2 (v6+1) ()) fun(j:Unit→Option (Int))=>
    rngL a0.Cells () (fun(v3:Int) (_:Unit)=>
        j ()) fun nx x v3 (_:Unit)=>
      Option.bind (
        (f178 K x).bind fun x54=>
        bif (!x54) then
          some true
        else
          bif (decide (v3 > 0)) then
            (ix a0.Cells (W (v3 - 1))).bind fun y_3=>
            some (decide (y_3.No≥x.No))
          else
            some false) fun(v75:Bool)=>
      bif v75 then
        some 50
      else
        nx (v3+1) ()
def f116 (K:Nat) (a0:Basin) (a1:Int):Option (Int):=
  Jo (α:=Unit→Option (Int)) (fun(_:Unit)=>
    some (-1)) fun(j:Unit→Option (Int))=>
  rngL a0.Cells () (fun(v5:Int) (_:Unit)=>
      j ()) fun nx x v5 (_:Unit)=>
    bif (x.No==a1) then
      some v5
    else
      nx (v5+1) ()
def f117 (K:Nat) (a0:Scene) (a1:Int):Option (Int):=
  Jo (α:=Unit→Option (Int)) (fun(_:Unit)=>
    some (-1)) fun(j:Unit→Option (Int))=>
  rngL a0.Days () (fun(v5:Int) (_:Unit)=>
      j ()) fun nx x v5 (_:Unit)=>
    bif (x==a1) then
      some v5
    else
      nx (v5+1) ()
def f181 (K:Nat) (a0:Scene) (a1:Sight):Option (Bool):=
  Option.bind (
    (f182 K a1.No 8191).bind fun x7=>
    bif x7 then
      (f116 K a0.Basin a1.Cell).bind fun x13=>
      bif (decide (x13≥0)) then
        (f117 K a0 a1.Day).bind fun x20=>
        bif (decide (x20≥0)) then
          bif (decide (a1.Lo≥0)) then
            bif (decide (a1.Lo≤a1.Hi)) then
              some (decide (a1.Hi≤65536))
            else
              some false
          else
            some false
        else
          some false
      else
        some false
    else
      some false) fun(v4:Bool)=>
  some v4
def f183 (K:Nat) (a0:Scene) (a1:Change):Option (Bool):=
  Option.bind (
    (f116 K a0.Basin a1.Cell).bind fun x9=>
    bif (decide (x9≥0)) then
      (f117 K a0 a1.From).bind fun x15=>
      bif (decide (x15≥0)) then
        (f117 K a0 a1.To).bind fun x22=>
        bif (decide (x22≥0)) then
          bif (decide (a1.From < a1.To)) then
            bif (decide (a1.Lo≥(-65536))) then
              bif (decide (a1.Lo≤a1.Hi)) then
                some (decide (a1.Hi≤65536))
              else
                some false
            else
              some false
          else
            some false
        else
          some false
      else
        some false
    else
      some false) fun(v4:Bool)=>
  some v4
def f76 (K:Nat) (a0:Scene):Option (Int):=
  (f75 K a0.Basin).bind fun x8=>
  bif (x8 != 0) then
    some 50
  else
    bif ((decide ((a0.Days.length:Int) < 1))||(decide ((a0.Days.length:Int) > 16))) then
      some 1
    else
      Jo (α:=Unit→Option (Int)) (fun(_:Unit)=>
        bif ((decide ((a0.Sights.length:Int) > 256))||(decide ((a0.Changes.length:Int) > 256))) then
          some 2
        else
          Jo (α:=Unit→Option (Int)) (fun(_:Unit)=>
            Jo (α:=Unit→Option (Int)) (fun(_:Unit)=>
              some 0) fun(j_2:Unit→Option (Int))=>
            rngL a0.Changes () (fun(v5:Int) (_:Unit)=>
                j_2 ()) fun nx_2 x_2 v5 (_:Unit)=>
              (f183 K a0 x_2).bind fun x90=>
              bif (!x90) then
                some 52
              else
                nx_2 (v5+1) ()) fun(j_1:Unit→Option (Int))=>
          rngL a0.Sights () (fun(v4:Int) (_:Unit)=>
              j_1 ()) fun nx_1 x_1 v4 (_:Unit)=>
            (f181 K a0 x_1).bind fun x75=>
            bif (!x75) then
              some 51
            else
              nx_1 (v4+1) ()) fun(j:Unit→Option (Int))=>
      rngL a0.Days () (fun(v3:Int) (_:Unit)=>
          j ()) fun nx x v3 (_:Unit)=>
        Option.bind (
          (f182 K x 1048576).bind fun x32=>
          bif (!x32) then
            some true
          else
            bif (decide (v3 > 0)) then
              (ix a0.Days (W (v3 - 1))).bind fun y=>
              some (decide (y≥x))
            else
              some false) fun(v51:Bool)=>
        bif v51 then
          some 1
        else
          nx (v3+1) ()
def f180 (K:Nat) (a0:Basin) (a1:Arr2_3):Option (Int):=
  (ix a0.Cells a1.a1).bind fun y=>
  (ix a0.Cells a1.a0).bind fun y_1=>
  some (W (a0.Slack+(W (Int.tdiv (W (a0.Gain*(W (y.Height - y_1.Height)))) 100))))
def f205 (K:Nat) (a0:Scene) (a1:Int) (a2:Int):Option (Int):=
  some (W ((W (1+(W (a2*(a0.Basin.Cells.length:Int)))))+a1))
def f106 (K:Nat) (a0:Scene):Option (Bool):=
  some ((decide ((W ((a0.Basin.Cells.length:Int)*(a0.Days.length:Int)))≤15))&&((decide ((a0.Basin.Pairs.length:Int)≤8))&&((decide ((a0.Sights.length:Int)≤10))&&(decide ((a0.Changes.length:Int)≤10)))))
def f36 (K:Nat) (a0:Scene):Option (Bool):=
  Option.bind (
    (f106 K a0).bind fun x4=>
    bif x4 then
      (f66 K a0).bind fun x7=>
      bif (x7==0) then
        (f76 K a0).bind fun x12=>
        some (x12==0)
      else
        some false
    else
      some false) fun(v2:Bool)=>
  some v2
def f184 (K:Nat) (a0:Int) (a1:List Int):Option (Bool):=
  (f83 K a1 a0).bind fun x6=>
  some x6
def f78 (K:Nat) (a0:Scene) (a1:List Int):Option (Int):=
  (f66 K a0).bind fun x9=>
  bif (x9 != 0) then
    some x9
  else
    (f174 K a1).bind fun x14=>
    bif (!x14) then
      some 1
    else
      (f138 K a0 (fun y0=>f184 K y0 a1)).bind fun x18=>
      (f137 K x18).bind fun x19=>
      bif x19 then
        some 43
      else
        Jo (α:=Unit→Option (Int)) (fun(_:Unit)=>
          some 0) fun(j:Unit→Option (Int))=>
        rngL a1 () (fun(v22:Int) (_:Unit)=>
            j ()) fun nx x v22 (_:Unit)=>
          (f139 K a1 x).bind fun x29=>
          (f138 K a0 (fun y0=>f255 K y0 x29.1 x29.2)).bind fun x30=>
          (f137 K x30).bind fun x31=>
          bif (!x31) then
            some 43
          else
            nx (v22+1) ()
def f200 (K:Nat) (a0:List Sight) (a1:Sight→Option Bool):Option (Int):=
  Jo (α:=Unit→Option (Int)) (fun(_:Unit)=>
    some (-1)) fun(j:Unit→Option (Int))=>
  rngL a0 () (fun(v8:Int) (_:Unit)=>
      j ()) fun nx x v8 (_:Unit)=>
    (a1 x).bind fun x16=>
    bif x16 then
      some v8
    else
      nx (v8+1) ()
def f192 (K:Nat) (a0:List Sight) (a1:Sight→Option Bool):Option (List Sight):=
  (f200 K a0 a1).bind fun x10=>
  bif (x10==(-1)) then
    some a0
  else
    Option.bind (
      whl (fun nx ((vo0,v5,v6):List Sight × Int × Int)=>
        bif (decide (v6 < (vo0.length:Int))) then
          (ix vo0 v6).bind fun y=>
          (a1 y).bind fun x28=>
          Option.bind (
            bif (!x28) then
              (ix vo0 v5).bind fun y_1=>
              some ((vo0.set (Int.toNat v5) y),(W (v5+1)))
            else
              some (vo0,v5)) fun((vo0_2,v5_2):List Sight × Int)=>
          nx (vo0_2,v5_2,(W (v6+1)))
        else
          some (vo0,v5)) K (a0,x10,(W (x10+1)))) fun((vo0_1,v5_1):List Sight × Int)=>
    (bnds v5_1 (vo0_1.length:Int) vo0_1.length).bind fun _=>
    (bnds 0 v5_1 (clrI vo0_1 v5_1 (vo0_1.length:Int) (⟨0,0,0,0,0⟩:Sight)).length).bind fun _=>
    (vown (clrI vo0_1 v5_1 (vo0_1.length:Int) (⟨0,0,0,0,0⟩:Sight)) v5_1).bind fun z4=>
    some z4
def f193 (K:Nat) (a0:Sight) (a1:List Int):Option (Bool):=
  (f83 K a1 a0.No).bind fun x7=>
  some (!x7)
def f82 (K:Nat) (a0:Scene) (a1:List Int):Option (Scene):=
  (f42 K a0.Sights).bind fun x7=>
  (f192 K x7 (fun y0=>f193 K y0 a1)).bind fun x9=>
  some (⟨a0.Basin,a0.Days,x9,a0.Changes⟩:Scene)
def f89 (K:Nat) (a0:List Sight) (a1:Sight→Option Bool):Option (Bool):=
  (f200 K a0 a1).bind fun x7=>
  some (decide (x7≥0))
def f90 (K:Nat) (a0:Sight) (a1:Sight):Option (Bool):=
  some (a0.No==a1.No)
def f16 (K:Nat) (a0:Scene):Option (Bool):=
  (f21 K ).bind fun x15=>
  bif (!x15) then
    some false
  else
    (f36 K a0).bind fun x18=>
    bif (!x18) then
      some true
    else
      (f54 K a0).bind fun(x22_0,x22_1,x22_2)=>
      (f29 K a0).bind fun(x28_0,x28_1)=>
      bif ((x22_2 != 0)||((x22_1 != (x28_1==41))||(decide ((x22_0.length:Int) > (a0.Sights.length:Int))))) then
        some false
      else
        bif (!x22_1) then
          some ((x22_0.length:Int)==0)
        else
          (f78 K a0 x22_0).bind fun x54=>
          bif (x54 != 0) then
            some false
          else
            (f82 K a0 x22_0).bind fun x59=>
            (f31 K x59).bind fun(x60_0,x60_1)=>
            bif (x60_1 != 41) then
              some false
            else
              Jo (α:=Unit→Option (Bool)) (fun(_:Unit)=>
                Jo (α:=Unit→Option (Bool)) (fun(_:Unit)=>
                  some (decide ((x22_0.length:Int)≤2))) fun(j_1:Unit→Option (Bool))=>
                rngL a0.Sights () (fun(v88:Int) (_:Unit)=>
                    j_1 ()) fun nx_1 x v88 (_:Unit)=>
                  (sub a0.Sights 0 v88).bind fun z96=>
                  (f89 K z96 (fun y0=>f90 K y0 x)).bind fun x98=>
                  bif x98 then
                    some true
                  else
                    nx_1 (v88+1) ()) fun(j:Unit→Option (Bool))=>
              rngN 0 (x22_0.length:Int) () (fun(v67:Int) (_:Unit)=>
                  j ()) fun nx v67 (_:Unit)=>
                (f85 K x22_0).bind fun x73=>
                (f84 K x73 v67 (W (v67+1))).bind fun x77=>
                (f82 K a0 x77).bind fun x78=>
                (f31 K x78).bind fun(x79_0,x79_1)=>
                bif (x79_1 != 0) then
                  some false
                else
                  nx (v67+1) ()
theorem f182_ok {K:Nat} {a0:Int} {a1:Int} {r:Bool} (h:f182 K a0 a1=some r):CallOK Tryz.prog 182 [Ai a0,Ai a1] [] (Ab r) []:=by
 refine Co Tryz.func182 z z (nl z) ?_
 unfold f182 at h
 refine Tp z (Ts (Tri.join1 ⟨[(4,Ab ((decide (a0≥0))&&(decide (a0≤a1))))],[]⟩ ?_ ?_))
 ·refine Te ?_
  exact Rb h z
 refine Tri.region (Qe 3 z ?_)
 rcases b2 (decide (a0≥0)) with hb | hb
 ·exact Qk 7 hb z (Qd z ((Es0 [4] z ⟨.imm (Sub.of_eq (show Ab ((decide (a0≥0))&&(decide (a0≤a1)))=Ab (decide (a0≤a1)) by simp only [cond_true,cond_false,Bool.true_or,Bool.false_or,Bool.true_and,Bool.false_and,Bool.or_true,Bool.or_false,Bool.and_true,Bool.and_false,hb])) z,u0⟩)))
 exact Qk 7 hb z (Qd z ((Es0 [4] z ⟨.imm (Sub.of_eq (show Ab ((decide (a0≥0))&&(decide (a0≤a1)))=Ab false by simp only [cond_true,cond_false,Bool.true_or,Bool.false_or,Bool.true_and,Bool.false_and,Bool.or_true,Bool.or_false,Bool.and_true,Bool.and_false,hb])) z,u0⟩)))
theorem f178_ok {K:Nat} {a0:Cell} {r:Bool} (h:f178 K a0=some r):CallOK Tryz.prog 178 [.agg (Cell.cl a0)] [] (Ab r) []:=by
 refine Co Tryz.func178 z z (nl z) ?_
 unfold f178 at h
 refine Tp z (Ts ?_)
 obtain⟨v2,hj,h⟩:=bs h
 refine Tri.joinv v2 (fun(y:Bool)=>⟨[(2,Ab y)],[]⟩) ?_ ?_
 ·refine Te ?_
  exact Rb h z
 have h:=hj
 refine Tri.region (Qe 2 z ?_)
 obtain⟨x5,hc,h⟩:=bs h
 refine Qc z z z (args:=[Ai a0.No,Ai 4095]) (r:=Ab x5) (calv z z fnok_182 z) (f182_ok hc) z (Qe 1 z ?_)
 rcases b2 x5 with hb | hb
 ·have h:=cq hb h
  refine Qk 6 hb z (Qe 2 z ?_)
  obtain⟨x9,hc_1,h⟩:=bs h
  refine Qc z z z (args:=[Ai a0.Height,Ai 9000]) (r:=Ab x9) (calv z z fnok_182 z) (f182_ok hc_1) z (Qe 2 z ?_)
  rcases b2 x9 with hb_1 | hb_1
  ·have h:=cq hb_1 h
   refine Qk 11 hb_1 z (Qe 2 z ?_)
   obtain⟨x14,hc_2,h⟩:=bs h
   refine Qc z z z (args:=[Ai a0.Aspect,Ai 7]) (r:=Ab x14) (calv z z fnok_182 z) (f182_ok hc_2) z (Qe 2 z ?_)
   rcases b2 x14 with hb_2 | hb_2
   ·have h:=cq hb_2 h
    refine Qk 16 hb_2 z (Qe 5 z ?_)
    rcases b2 (decide (a0.Area≥1)) with hb_3 | hb_3
    ·have h:=cq hb_3 h
     exact Qk 21 hb_3 z (Qd z (Xi (decide (a0.Area≤4096)) (An h (E0 z))))
    have h:=cw hb_3 h
    exact Qk 21 hb_3 z (Qd z (Xi false (An h (E0 z))))
   have h:=cw hb_2 h
   exact Qk 16 hb_2 z (Qd z (Xi false (An h (E0 z))))
  have h:=cw hb_1 h
  exact Qk 11 hb_1 z (Qd z (Xi false (An h (E0 z))))
 have h:=cw hb h
 exact Qk 6 hb z (Qd z (Xi false (An h (E0 z))))
theorem f75_ok {K:Nat} {a0:Basin} {r:Int} (h:f75 K a0=some r):CallOK Tryz.prog 75 [.agg (Basin.cl a0)] [] (Ai r) []:=by
 refine Co Tryz.func75 z z (nl z) ?_
 unfold f75 at h
 refine Tp z (Ts (Ts ?_))
 obtain⟨v41,hj_5,h⟩:=bs h
 refine Tri.joinv v41 (fun(y:Bool)=>⟨[(1,.ipt (Basin.cl a0) 0),(41,Ab y)],[]⟩) ?_ ?_
 ·refine Tc (b:=v41) z (fun hb=>?_) (fun hb=>?_)
  ·have h:=cq hb h
   refine Tp z (Te ?_)
   exact Ri h z
  have h:=cw hb h
  refine Tk (Ts (Tp z ?_))
  obtain⟨j,hj,h⟩:=jo h
  refine Tri.rngL h (fun p=>⟨[(1,.ipt (Basin.cl a0) 0),(3,Ai p.1)],[]⟩) (fun y=>j y=some r) (fun(y:Unit)=>⟨[(1,.ipt (Basin.cl a0) 0)],[]⟩) (E0 z) ?_ ?_ ?_
  ·rintro⟨⟩ h
   subst hj
   refine Ts (Tp z ?_)
   obtain⟨j_1,hj_1,h⟩:=jo h
   refine Tri.rngL h (fun p=>⟨[(1,.ipt (Basin.cl a0) 0),(4,Ai p.1)],[]⟩) (fun y=>j_1 y=some r) (fun(y:Unit)=>⟨[],[]⟩) (E0 z) ?_ ?_ ?_
   ·rintro⟨⟩ h
    subst hj_1
    refine Tp z (Te ?_)
    exact Ri h z
   ·rintro v4 ⟨⟩ hi_1 h
    refine Ts (Tr (Qe 3 z (Q1 z z z (Ax.ln (cl:=Arr2_3.cl) z slc_23 z) (Qd z (Tc (b:=(decide (v4 < (a0.Pairs.length:Int)))) z (fun hb_1=>?_) (fun hb_1=>?_))))))
    ·exact(lt_f hi_1 hb_1).elim
    exact Tri.exit (Xi () (An h (E0 z)))
   rintro nx_1 x_1 v4 ⟨⟩ _ hi_1 hw_1 hx_1 h
   refine Ts (Tr (Qe 3 z (Q1 z z z (Ax.ln (cl:=Arr2_3.cl) z slc_23 z) (Qd z (Tc (b:=(decide (v4 < (a0.Pairs.length:Int)))) z (fun hb_2=>?_) (fun hb_2=>?_))))))
   ·refine Tk (Ts (Tri.block (Tr (Qe 3 z (Q1 z z z (Ax.ix (cl:=Arr2_3.cl) z slc_23 z z hx_1) (Qe 1 z (Qn z z z (v:=.ptr 5 0) (x:=some (.box (Arr2_3.cl (⟨0,0⟩:Arr2_3)))) (Al_ z z zer_97 z ⟨Sub.refl _,Sub.refl _,u0⟩) z z z z z (Qs z z (x:=some (.box (Arr2_3.cl x_1))) (As z siz_97 z z z z z z z) (Rx (Ts (Ts ?_)))))))))))
    obtain⟨v129,hj_3,h⟩:=bs h
    refine Tri.joinv v129 (fun(y:Bool)=>⟨[(1,.ipt (Basin.cl a0) 0),(4,Ai v4),(5,.ptr 5 0),(129,Ab y)],[(5,some (.box (Arr2_3.cl x_1)))]⟩) ?_ ?_
    ·refine Tc (b:=v129) z (fun hb_3=>?_) (fun hb_3=>?_)
     ·have h:=cq hb_3 h
      refine Tp z (Te ?_)
      exact Ri h z
     have h:=cw hb_3 h
     refine Tk (Tp z ?_)
     obtain⟨j_2,hj_2,h⟩:=jo h
     refine Tri.rngN h (fun p=>⟨[(1,.ipt (Basin.cl a0) 0),(4,Ai v4),(5,.ptr 5 0),(6,Ai p.1)],[(5,some (.box (Arr2_3.cl x_1)))]⟩) (fun y=>j_2 y=some r) (fun(y:Unit)=>⟨[(1,.ipt (Basin.cl a0) 0),(4,Ai v4)],[]⟩) (Ee [5] z u0) ?_ ?_ ?_
     ·rintro⟨⟩ h
      subst hj_2
      exact Tq z (Xi (v4+1,()) (An (An z h) (Es0 [4] z ⟨.imm (Sub.of_eq (show Ai (v4+1)=Ai (W (v4+1)) from congrArg Ai hw_1.symm)) z,u0⟩)))
     ·rintro v6 ⟨⟩ hi_2 _ h
      refine Ts (Tp z (Tc (b:=(decide (v6 < v4))) z (fun hb_4=>?_) (fun hb_4=>?_)))
      ·exact(lt_f hi_2 hb_4).elim
      exact Tri.exit (Xi () (An h (E0 z)))
     rintro nx_2 v6 ⟨⟩ _ hi_2 hw_2 h
     refine Ts (Tp z (Tc (b:=(decide (v6 < v4))) z (fun hb_5=>?_) (fun hb_5=>?_)))
     ·refine Tk (Ts (Tri.block (Tr (Qe 3 z ?_))))
      obtain⟨y,hy,h⟩:=bs h
      refine Q1 z z z (Ax.ix (cl:=Arr2_3.cl) z slc_23 z z hy) (Qe 1 z (Qn z z z (v:=.ptr 7 0) (x:=some (.box (Arr2_3.cl (⟨0,0⟩:Arr2_3)))) (Al_ z z zer_97 z ⟨Sub.refl _,Sub.refl _,u0⟩) z z z z z (Qs z z (x:=some (.box (Arr2_3.cl y))) (As z siz_97 z z z z z z z) (Rx (Ts (Tri.join1 ⟨[(1,.ipt (Basin.cl a0) 0),(4,Ai v4),(5,.ptr 5 0),(6,Ai v6),(165,Ab (bif (y.a0==x_1.a0) then ((y.a1==x_1.a1)||((y.a0==x_1.a1)&&(y.a1==x_1.a0))) else ((y.a0==x_1.a1)&&(y.a1==x_1.a0))))],[(5,some (.box (Arr2_3.cl x_1)))]⟩ ?_ ?_))))))
      ·refine Tc (b:=(bif (y.a0==x_1.a0) then ((y.a1==x_1.a1)||((y.a0==x_1.a1)&&(y.a1==x_1.a0))) else ((y.a0==x_1.a1)&&(y.a1==x_1.a0)))) z (fun hb_6=>?_) (fun hb_6=>?_)
       ·have h:=cq hb_6 h
        refine Tp z (Te ?_)
        exact Ri h z
       have h:=cw hb_6 h
       exact Tk (Tq z (Xi (v6+1,()) (An (An z h) (Es [5] [6] z u0 ⟨.imm (Sub.of_eq (show Ai (v6+1)=Ai (W (v6+1)) from congrArg Ai hw_2.symm)) z,u0⟩))))
      refine Tri.region (Q1 z z z (Ax.index_ptr (k:=.i64) (n:=0) z arr_97 z z z (by decide) (by decide)) (Qe 1 z (Q1 z z z (Ax.index_ptr (k:=.i64) (n:=0) z arr_97 z z z (by decide) (by decide)) (Qe 3 z ?_))))
      rcases b2 (y.a0==x_1.a0) with hb_7 | hb_7
      ·refine Qk 145 hb_7 z (Q1 z z z (Ax.index_ptr (k:=.i64) (n:=1) z arr_97 z z z (by decide) (by decide)) (Qe 1 z (Q1 z z z (Ax.index_ptr (k:=.i64) (n:=1) z arr_97 z z z (by decide) (by decide)) (Qe 4 z ?_))))
       rcases b2 (y.a1==x_1.a1) with hb_8 | hb_8
       ·exact Qk 152 hb_8 z (Qd z ((Es [5] [165] z u0 ⟨.imm (Sub.of_eq (show Ab (bif (y.a0==x_1.a0) then ((y.a1==x_1.a1)||((y.a0==x_1.a1)&&(y.a1==x_1.a0))) else ((y.a0==x_1.a1)&&(y.a1==x_1.a0)))=Ab true by simp only [cond_true,cond_false,Bool.true_or,Bool.false_or,Bool.true_and,Bool.false_and,Bool.or_true,Bool.or_false,Bool.and_true,Bool.and_false,hb,hb_2,hb_3,hb_5,hb_7,hb_8])) z,u0⟩)))
       refine Qk 152 hb_8 z (Q1 z z z (Ax.index_ptr (k:=.i64) (n:=0) z arr_97 z z z (by decide) (by decide)) (Qe 1 z (Q1 z z z (Ax.index_ptr (k:=.i64) (n:=1) z arr_97 z z z (by decide) (by decide)) (Qe 3 z ?_))))
       rcases b2 (y.a0==x_1.a1) with hb_9 | hb_9
       ·exact Qk 158 hb_9 z (Q1 z z z (Ax.index_ptr (k:=.i64) (n:=1) z arr_97 z z z (by decide) (by decide)) (Qe 1 z (Q1 z z z (Ax.index_ptr (k:=.i64) (n:=0) z arr_97 z z z (by decide) (by decide)) (Qd z ((Es [5] [165] z u0 ⟨.imm (Sub.of_eq (show Ab (bif (y.a0==x_1.a0) then ((y.a1==x_1.a1)||((y.a0==x_1.a1)&&(y.a1==x_1.a0))) else ((y.a0==x_1.a1)&&(y.a1==x_1.a0)))=Ab (y.a1==x_1.a0) by simp only [cond_true,cond_false,Bool.true_or,Bool.false_or,Bool.true_and,Bool.false_and,Bool.or_true,Bool.or_false,Bool.and_true,Bool.and_false,hb,hb_2,hb_3,hb_5,hb_7,hb_8,hb_9])) z,u0⟩))))))
       exact Qk 158 hb_9 z (Qd z ((Es [5] [165] z u0 ⟨.imm (Sub.of_eq (show Ab (bif (y.a0==x_1.a0) then ((y.a1==x_1.a1)||((y.a0==x_1.a1)&&(y.a1==x_1.a0))) else ((y.a0==x_1.a1)&&(y.a1==x_1.a0)))=Ab false by simp only [cond_true,cond_false,Bool.true_or,Bool.false_or,Bool.true_and,Bool.false_and,Bool.or_true,Bool.or_false,Bool.and_true,Bool.and_false,hb,hb_2,hb_3,hb_5,hb_7,hb_8,hb_9])) z,u0⟩)))
      refine Qk 145 hb_7 z (Qe 7 z (Q1 z z z (Ax.index_ptr (k:=.i64) (n:=0) z arr_97 z z z (by decide) (by decide)) (Qe 1 z (Q1 z z z (Ax.index_ptr (k:=.i64) (n:=1) z arr_97 z z z (by decide) (by decide)) (Qe 3 z ?_)))))
      rcases b2 (y.a0==x_1.a1) with hb_10 | hb_10
      ·exact Qk 158 hb_10 z (Q1 z z z (Ax.index_ptr (k:=.i64) (n:=1) z arr_97 z z z (by decide) (by decide)) (Qe 1 z (Q1 z z z (Ax.index_ptr (k:=.i64) (n:=0) z arr_97 z z z (by decide) (by decide)) (Qd z ((Es [5] [165] z u0 ⟨.imm (Sub.of_eq (show Ab (bif (y.a0==x_1.a0) then ((y.a1==x_1.a1)||((y.a0==x_1.a1)&&(y.a1==x_1.a0))) else ((y.a0==x_1.a1)&&(y.a1==x_1.a0)))=Ab (y.a1==x_1.a0) by simp only [cond_true,cond_false,Bool.true_or,Bool.false_or,Bool.true_and,Bool.false_and,Bool.or_true,Bool.or_false,Bool.and_true,Bool.and_false,hb,hb_2,hb_3,hb_5,hb_7,hb_10])) z,u0⟩))))))
      exact Qk 158 hb_10 z (Qd z ((Es [5] [165] z u0 ⟨.imm (Sub.of_eq (show Ab (bif (y.a0==x_1.a0) then ((y.a1==x_1.a1)||((y.a0==x_1.a1)&&(y.a1==x_1.a0))) else ((y.a0==x_1.a1)&&(y.a1==x_1.a0)))=Ab false by simp only [cond_true,cond_false,Bool.true_or,Bool.false_or,Bool.true_and,Bool.false_and,Bool.or_true,Bool.or_false,Bool.and_true,Bool.and_false,hb,hb_2,hb_3,hb_5,hb_7,hb_10])) z,u0⟩)))
     exact(lt_t hi_2 hb_5).elim
    have h:=hj_3
    refine Td [[],[0],[],[2],[2,3],[2,3,4],[0,1,2,3,4,5],[0,1,2,3,4,5,6],[0,1,2,3,4,5,6,7],[0,1,2,3,4,5,6,7,8],[0,1,2,3,4,5,6,7,8,9],[0,1,2,3,4,5,6,7,8],[0,1,2,3,4,5,6,7,8,11],[0,1,2,3,4,5,6,7,8,11,12],[0,1,2,3,4,5,6,7,8,11,12,13],[0,1,2,3,4,5,6,7,8,9,10,11,12,13,14],[0,1,2,3,4,5,6,7,8,9,10,11,12,13,14,15],[0,1,2,3,4,5,6,7,8,9,10,11,12,13,14,15,16],[0,1,2,3,4,5,6,7,8,9,10,11,12,13,14,15,16,17],[0,1,2,3,4,5,6,7,8,9,10,11,12,13,14,15,16,17,18],[0,1,2,3,4,5,6,7,8,9,10,11,12,13,14,15,16,17,18,19],[0,1,2,3,4,5,6,7,8,9,10,11,12,13,14,15,16,17,18],[0,1,2,3,4,5,6,7,8,9,10,11,12,13,14,15,16,17,18,21],[0,1,2,3,4,5,6,7,8,9,10,11,12,13,14,15,16,17,18,19,20,21,22],[0,1,2,3,4,5,6,7,8,9,10,11,12,13,14,15,16,17,18,19,20,21,22,23],[0,1,2,3,4,5,6,7,8,9,10,11,12,13,14,15,16,17,18,19,20,21,22,23,24],[0,1,2,3,4,5,6,7,8,9,10,11,12,13,14,15,16,17,18,19,20,21,22,23,24,25],[0,1,2,3,4,5,6,7,8,9,10,11,12,13,14,15,16,17,18,19,20,21,22,23,24,25,26],[0,1,2,3,4,5,6,7,8,9,10,11,12,13,14,15,16,17,18,19,20,21,22,23,24,25],[0,1,2,3,4,5,6,7,8,9,10,11,12,13,14,15,16,17,18,19,20,21,22,23,24,25,28],[0,1,2,3,4,5,6,7,8,9,10,11,12,13,14,15,16,17,18,19,20,21,22,23,24,25,26,27,28,29],[0,1,2,3,4,5,6,7,8,9,10,11,12,13,14,15,16,17,18,19,20,21,22,23,24,25,26,27,28,29,30],[0,1,2,3,4,5,6,7,8,9,10,11,12,13,14,15,16,17,18,19,20,21,22,23,24,25,26,27,28,29,30,31],[0,1,2,3,4,5,6,7,8,9,10,11,12,13,14,15,16,17,18,19,20,21,22,23,24,25],[0,1,2,3,4,5,6,7,8,9,10,11,12,13,14,15,16,17,18,19,20,21,22,23,24,25,33],[0,1,2,3,4,5,6,7,8,9,10,11,12,13,14,15,16,17,18,19,20,21,22,23,24,25],[0,1,2,3,4,5,6,7,8,9,10,11,12,13,14,15,16,17,18,19,20,21,22,23,24,25,35],[0,1,2,3,4,5,6,7,8,9,10,11,12,13,14,15,16,17,18,19,20,21,22,23,24,25,33,34,35,36],[0,1,2,3,4,5,6,7,8,9,10,11,12,13,14,15,16,17,18,19,20,21,22,23,24,25,33,34,35,36,37],[0,1,2,3,4,5,6,7,8,9,10,11,12,13,14,15,16,17,18,19,20,21,22,23,24,25,33,34,35,36,37,38],[0,1,2,3,4,5,6,7,8,9,10,11,12,13,14,15,16,17,18,19,20,21,22,23,24,25,26,27,28,29,30,31,32,33,34,35,36,37,38,39],[0,1,2,3,4,5,6,7,8,9,10,11,12,13,14,15,16,17,18,19,20,21,22,23,24,25,26,27,28,29,30,31,32,33,34,35,36,37,38,39,40]] hmix (by kernel_rfl) (Q1 z z z (Ax.index_ptr (k:=.i64) (n:=0) z arr_97 z z z (by decide) (by decide)) (Qe 3 z (Q1 z z z (Ax.ln (cl:=Cell.cl) z slc_22 z) (Qe 1 z ?_))))
    obtain⟨x94,hc,h⟩:=bs h
    refine Qc z z z (args:=[Ai x_1.a0,Ai (W ((a0.Cells.length:Int) - 1))]) (r:=Ab x94) (calv z z fnok_182 z) (f182_ok hc) z (Qe 2 z ?_)
    rcases b2 (!x94) with hb_11 | hb_11
    ·have h:=cq hb_11 h
     refine Qk 96 hb_11 z (Qe 33 z (Rx ⟨by kernel_rfl,freshL_of [] (by kernel_rfl) (by kernel_rfl),?_⟩))
     exact Xi true (An h (Ee [5] z u0))
    have h:=cw hb_11 h
    refine Qk 96 hb_11 z (Q1 z z z (Ax.index_ptr (k:=.i64) (n:=1) z arr_97 z z z (by decide) (by decide)) (Qe 3 z (Q1 z z z (Ax.ln (cl:=Cell.cl) z slc_22 z) (Qe 1 z ?_))))
    obtain⟨x103,hc_1,h⟩:=bs h
    refine Qc z z z (args:=[Ai x_1.a1,Ai (W ((a0.Cells.length:Int) - 1))]) (r:=Ab x103) (calv z z fnok_182 z) (f182_ok hc_1) z (Qe 3 z ?_)
    rcases b2 (!x103) with hb_12 | hb_12
    ·have h:=cq hb_12 h
     refine Qk 106 hb_12 z (Qe 23 z (Rx ⟨by kernel_rfl,freshL_of [] (by kernel_rfl) (by kernel_rfl),?_⟩))
     exact Xi true (An h (Ee [5] z u0))
    have h:=cw hb_12 h
    refine Qk 106 hb_12 z (Q1 z z z (Ax.index_ptr (k:=.i64) (n:=0) z arr_97 z z z (by decide) (by decide)) (Qe 1 z (Q1 z z z (Ax.index_ptr (k:=.i64) (n:=1) z arr_97 z z z (by decide) (by decide)) (Qe 4 z ?_))))
    rcases b2 (x_1.a0==x_1.a1) with hb_13 | hb_13
    ·have h:=cq hb_13 h
     refine Qk 113 hb_13 z (Qe 16 z (Rx ⟨by kernel_rfl,freshL_of [] (by kernel_rfl) (by kernel_rfl),?_⟩))
     exact Xi true (An h (Ee [5] z u0))
    have h:=cw hb_13 h
    refine Qk 113 hb_13 z (Qe 2 z (Q1 z z z (Ax.index_ptr (k:=.i64) (n:=0) z arr_97 z z z (by decide) (by decide)) (Qe 1 z ?_)))
    obtain⟨y_1,hy_1,h⟩:=bs h
    refine Q1 z z z (Ax.ix (cl:=Cell.cl) z slc_22 z z hy_1) (Qe 4 z (Q1 z z z (Ax.index_ptr (k:=.i64) (n:=1) z arr_97 z z z (by decide) (by decide)) (Qe 1 z ?_)))
    obtain⟨y_2,hy_2,h⟩:=bs h
    refine Q1 z z z (Ax.ix (cl:=Cell.cl) z slc_22 z z hy_2) (Qe 4 z (Rx ⟨by kernel_rfl,freshL_of [] (by kernel_rfl) (by kernel_rfl),?_⟩))
    exact Xi (decide (y_1.Height > y_2.Height)) (An h (Ee [5] z u0))
   exact(lt_t hi_1 hb_2).elim
  ·rintro v3 ⟨⟩ hi h
   refine Ts (Tr (Qe 3 z (Q1 z z z (Ax.ln (cl:=Cell.cl) z slc_22 z) (Qd z (Tc (b:=(decide (v3 < (a0.Cells.length:Int)))) z (fun hb_14=>?_) (fun hb_14=>?_))))))
   ·exact(lt_f hi hb_14).elim
   exact Tri.exit (Xi () (An h (E0 z)))
  rintro nx x v3 ⟨⟩ _ hi hw hx h
  refine Ts (Tr (Qe 3 z (Q1 z z z (Ax.ln (cl:=Cell.cl) z slc_22 z) (Qd z (Tc (b:=(decide (v3 < (a0.Cells.length:Int)))) z (fun hb_15=>?_) (fun hb_15=>?_))))))
  ·refine Tk (Ts (Tri.block (Ts ?_)))
   obtain⟨v75,hj_4,h⟩:=bs h
   refine Tri.joinv v75 (fun(y:Bool)=>⟨[(1,.ipt (Basin.cl a0) 0),(3,Ai v3),(75,Ab y)],[]⟩) ?_ ?_
   ·refine Tc (b:=v75) z (fun hb_16=>?_) (fun hb_16=>?_)
    ·have h:=cq hb_16 h
     refine Tp z (Te ?_)
     exact Ri h z
    have h:=cw hb_16 h
    exact Tk (Tq z (Xi (v3+1,()) (An (An z h) (Es0 [3] z ⟨.imm (Sub.of_eq (show Ai (v3+1)=Ai (W (v3+1)) from congrArg Ai hw.symm)) z,u0⟩))))
   have h:=hj_4
   refine Td [[],[0],[],[0,1,2],[0,1,2,3],[0,1,2,3,4],[0,1,2,3,4,5],[0,1,2,3,4,5,6],[0,1,2,3,4,5,6,7],[0,1,2,3,4,5,6,7,8],[0,1,2,3,4,5,6,7,8,9],[0,1,2,3,4,5,6,7,8,9,10],[0,1,2,3,4,5,6,7,8,9,10,11],[0,1,2,3,4,5,6,7,8,9,10],[0,1,2,3,4,5,6,7,8,9,10,13],[0,1,2,3,4,5,6,7,8,9,10,11,12,13,14],[0,1,2,3,4,5,6,7,8,9,10,11,12,13,14,15],[0,1,2,3,4,5,6,7,8,9,10,11,12,13,14,15,16],[0,1,2,3,4,5,6,7,8,9,10],[0,1,2,3,4,5,6,7,8,9,10,18],[0,1,2,3,4,5,6,7,8,9,10],[0,1,2,3,4,5,6,7,8,9,10,18,19,20],[0,1,2,3,4,5,6,7,8,9,10,18,19,20,21],[0,1,2,3,4,5,6,7,8,9,10,18,19,20,21,22],[0,1,2,3,4,5,6,7,8,9,10,11,12,13,14,15,16,17,18,19,20,21,22,23],[0,1,2,3,4,5,6,7,8,9,10,11,12,13,14,15,16,17,18,19,20,21,22,23,24],[0,1,2,3,4,5,6,7,8,9,10,11,12,13,14,15,16,17,18,19,20,21,22,23,24,25]] hmix (by kernel_rfl) (Qe 3 z (Q1 z z z (Ax.ix (cl:=Cell.cl) z slc_22 z z hx) (Qe 1 z ?_)))
   obtain⟨x54,hc_2,h⟩:=bs h
   refine Qc z z z (args:=[.agg (Cell.cl x)]) (r:=Ab x54) (calv z z fnok_178 z) (f178_ok hc_2) z (Qe 2 z ?_)
   rcases b2 (!x54) with hb_17 | hb_17
   ·have h:=cq hb_17 h
    refine Qk 56 hb_17 z (Qe 19 z (Rx ⟨by kernel_rfl,freshL_of [] (by kernel_rfl) (by kernel_rfl),?_⟩))
    exact Xi true (An h (E0 z))
   have h:=cw hb_17 h
   refine Qk 56 hb_17 z (Qe 3 z ?_)
   rcases b2 (decide (v3 > 0)) with hb_18 | hb_18
   ·have h:=cq hb_18 h
    refine Qk 59 hb_18 z (Qe 4 z ?_)
    obtain⟨y_3,hy_3,h⟩:=bs h
    refine Q1 z z z (Ax.ix (cl:=Cell.cl) z slc_22 z z hy_3) (Qe 5 z (Q1 z z z (Ax.ix (cl:=Cell.cl) z slc_22 z z hx) (Qe 5 z (Rx ⟨by kernel_rfl,freshL_of [] (by kernel_rfl) (by kernel_rfl),?_⟩))))
    exact Xi (decide (y_3.No≥x.No)) (An h (E0 z))
   have h:=cw hb_18 h
   refine Qk 59 hb_18 z (Qe 16 z (Rx ⟨by kernel_rfl,freshL_of [] (by kernel_rfl) (by kernel_rfl),?_⟩))
   exact Xi false (An h (E0 z))
  exact(lt_t hi hb_15).elim
 have h:=hj_5
 refine Tri.region (Qe 2 z (Q1 z z z (Ax.ln (cl:=Cell.cl) z slc_22 z) (Qe 2 z ?_)))
 rcases b2 (decide ((a0.Cells.length:Int) < 1)) with hb_19 | hb_19
 ·have h:=cq hb_19 h
  exact Qk 12 hb_19 z (Qd z (Xi true (An h (E0 z))))
 have h:=cw hb_19 h
 refine Qk 12 hb_19 z (Qe 2 z (Q1 z z z (Ax.ln (cl:=Cell.cl) z slc_22 z) (Qe 3 z ?_)))
 rcases b2 (decide ((a0.Cells.length:Int) > 12)) with hb_20 | hb_20
 ·have h:=cq hb_20 h
  exact Qk 18 hb_20 z (Qd z (Xi true (An h (E0 z))))
 have h:=cw hb_20 h
 refine Qk 18 hb_20 z (Qe 2 z (Q1 z z z (Ax.ln (cl:=Arr2_3.cl) z slc_23 z) (Qe 3 z ?_)))
 rcases b2 (decide ((a0.Pairs.length:Int) > 24)) with hb_21 | hb_21
 ·have h:=cq hb_21 h
  exact Qk 24 hb_21 z (Qd z (Xi true (An h (E0 z))))
 have h:=cw hb_21 h
 refine Qk 24 hb_21 z (Qe 2 z ?_)
 obtain⟨x27,hc_3,h⟩:=bs h
 refine Qc z z z (args:=[Ai a0.Gain,Ai 65536]) (r:=Ab x27) (calv z z fnok_182 z) (f182_ok hc_3) z (Qe 3 z ?_)
 rcases b2 (!x27) with hb_22 | hb_22
 ·have h:=cq hb_22 h
  exact Qk 30 hb_22 z (Qd z (Xi true (An h (E0 z))))
 have h:=cw hb_22 h
 refine Qk 30 hb_22 z (Qe 2 z ?_)
 obtain⟨x33,hc_4,h⟩:=bs h
 refine Qc z z z (args:=[Ai a0.Slack,Ai 65536]) (r:=Ab x33) (calv z z fnok_182 z) (f182_ok hc_4) z (Qe 3 z ?_)
 rcases b2 (!x33) with hb_23 | hb_23
 ·have h:=cq hb_23 h
  exact Qk 36 hb_23 z (Qd z (Xi true (An h (E0 z))))
 have h:=cw hb_23 h
 refine Qk 36 hb_23 z (Qe 2 z ?_)
 obtain⟨x39,hc_5,h⟩:=bs h
 exact Qc z z z (args:=[Ai a0.Deep,Ai 65536]) (r:=Ab x39) (calv z z fnok_182 z) (f182_ok hc_5) z (Qd z (Xi (!x39) (An h (E0 z))))
theorem f116_ok {K:Nat} {a0:Basin} {a1:Int} {r:Int} (h:f116 K a0 a1=some r):CallOK Tryz.prog 116 [.agg (Basin.cl a0),Ai a1] [] (Ai r) []:=by
 refine Co Tryz.func116 z z (nl z) ?_
 unfold f116 at h
 refine Tp z (Ts (Tp z ?_))
 obtain⟨j,hj,h⟩:=jo h
 refine Tri.rngL h (fun p=>⟨[(1,Ai a1),(2,.ipt (Basin.cl a0) 0),(5,Ai p.1)],[]⟩) (fun y=>j y=some r) (fun(y:Unit)=>⟨[],[]⟩) (E0 z) ?_ ?_ ?_
 ·rintro⟨⟩ h
  subst hj
  refine Tp z (Te ?_)
  exact Ri h z
 ·rintro v5 ⟨⟩ hi h
  refine Ts (Tr (Qe 3 z (Q1 z z z (Ax.ln (cl:=Cell.cl) z slc_22 z) (Qd z (Tc (b:=(decide (v5 < (a0.Cells.length:Int)))) z (fun hb=>?_) (fun hb=>?_))))))
  ·exact(lt_f hi hb).elim
  exact Tri.exit (Xi () (An h (E0 z)))
 rintro nx x v5 ⟨⟩ _ hi hw hx h
 refine Ts (Tr (Qe 3 z (Q1 z z z (Ax.ln (cl:=Cell.cl) z slc_22 z) (Qd z (Tc (b:=(decide (v5 < (a0.Cells.length:Int)))) z (fun hb_1=>?_) (fun hb_1=>?_))))))
 ·refine Tk (Ts (Tri.block (Tr (Qe 3 z (Q1 z z z (Ax.ix (cl:=Cell.cl) z slc_22 z z hx) (Qd z (Tc (b:=(x.No==a1)) z (fun hb_2=>?_) (fun hb_2=>?_))))))))
  ·have h:=cq hb_2 h
   refine Tp z (Te ?_)
   exact Ri h z
  have h:=cw hb_2 h
  exact Tk (Tq z (Xi (v5+1,()) (An (An z h) (Es0 [5] z ⟨.imm (Sub.of_eq (show Ai (v5+1)=Ai (W (v5+1)) from congrArg Ai hw.symm)) z,u0⟩))))
 exact(lt_t hi hb_1).elim
theorem f117_ok {K:Nat} {a0:Scene} {a1:Int} {r:Int} (h:f117 K a0 a1=some r):CallOK Tryz.prog 117 [.agg (Scene.cl a0),Ai a1] [] (Ai r) []:=by
 refine Co Tryz.func117 z z (nl z) ?_
 unfold f117 at h
 refine Tp z (Ts (Tp z ?_))
 obtain⟨j,hj,h⟩:=jo h
 refine Tri.rngL h (fun p=>⟨[(1,Ai a1),(2,.ipt (Scene.cl a0) 0),(5,Ai p.1)],[]⟩) (fun y=>j y=some r) (fun(y:Unit)=>⟨[],[]⟩) (E0 z) ?_ ?_ ?_
 ·rintro⟨⟩ h
  subst hj
  refine Tp z (Te ?_)
  exact Ri h z
 ·rintro v5 ⟨⟩ hi h
  refine Ts (Tr (Qe 3 z (Q1 z z z (Ax.ln (cl:=icl) z slc_26 z) (Qd z (Tc (b:=(decide (v5 < (a0.Days.length:Int)))) z (fun hb=>?_) (fun hb=>?_))))))
  ·exact(lt_f hi hb).elim
  exact Tri.exit (Xi () (An h (E0 z)))
 rintro nx x v5 ⟨⟩ _ hi hw hx h
 refine Ts (Tr (Qe 3 z (Q1 z z z (Ax.ln (cl:=icl) z slc_26 z) (Qd z (Tc (b:=(decide (v5 < (a0.Days.length:Int)))) z (fun hb_1=>?_) (fun hb_1=>?_))))))
 ·refine Tk (Ts (Tri.block (Tr (Qe 3 z (Q1 z z z (Ax.ix (cl:=icl) z slc_26 z z hx) (Qd z (Tc (b:=(x==a1)) z (fun hb_2=>?_) (fun hb_2=>?_))))))))
  ·have h:=cq hb_2 h
   refine Tp z (Te ?_)
   exact Ri h z
  have h:=cw hb_2 h
  exact Tk (Tq z (Xi (v5+1,()) (An (An z h) (Es0 [5] z ⟨.imm (Sub.of_eq (show Ai (v5+1)=Ai (W (v5+1)) from congrArg Ai hw.symm)) z,u0⟩))))
 exact(lt_t hi hb_1).elim
theorem f181_ok {K:Nat} {a0:Scene} {a1:Sight} {r:Bool} (h:f181 K a0 a1=some r):CallOK Tryz.prog 181 [.agg (Scene.cl a0),.agg (Sight.cl a1)] [] (Ab r) []:=by
 refine Co Tryz.func181 z z (nl z) ?_
 unfold f181 at h
 refine Tp z (Ts ?_)
 obtain⟨v4,hj,h⟩:=bs h
 refine Tri.joinv v4 (fun(y:Bool)=>⟨[(4,Ab y)],[]⟩) ?_ ?_
 ·refine Te ?_
  exact Rb h z
 have h:=hj
 refine Tri.region (Qe 2 z ?_)
 obtain⟨x7,hc,h⟩:=bs h
 refine Qc z z z (args:=[Ai a1.No,Ai 8191]) (r:=Ab x7) (calv z z fnok_182 z) (f182_ok hc) z (Qe 1 z ?_)
 rcases b2 x7 with hb | hb
 ·have h:=cq hb h
  refine Qk 8 hb z (Qe 4 z ?_)
  obtain⟨x13,hc_1,h⟩:=bs h
  refine Qc z z z (args:=[.agg (Basin.cl a0.Basin),Ai a1.Cell]) (r:=Ai x13) (calv z z fnok_116 z) (f116_ok hc_1) z (Qe 3 z ?_)
  rcases b2 (decide (x13≥0)) with hb_1 | hb_1
  ·have h:=cq hb_1 h
   refine Qk 16 hb_1 z (Qe 3 z ?_)
   obtain⟨x20,hc_2,h⟩:=bs h
   refine Qc z z z (args:=[.agg (Scene.cl a0),Ai a1.Day]) (r:=Ai x20) (calv z z fnok_117 z) (f117_ok hc_2) z (Qe 3 z ?_)
   rcases b2 (decide (x20≥0)) with hb_2 | hb_2
   ·have h:=cq hb_2 h
    refine Qk 23 hb_2 z (Qe 5 z ?_)
    rcases b2 (decide (a1.Lo≥0)) with hb_3 | hb_3
    ·have h:=cq hb_3 h
     refine Qk 28 hb_3 z (Qe 7 z ?_)
     rcases b2 (decide (a1.Lo≤a1.Hi)) with hb_4 | hb_4
     ·have h:=cq hb_4 h
      exact Qk 35 hb_4 z (Qd z (Xi (decide (a1.Hi≤65536)) (An h (E0 z))))
     have h:=cw hb_4 h
     exact Qk 35 hb_4 z (Qd z (Xi false (An h (E0 z))))
    have h:=cw hb_3 h
    exact Qk 28 hb_3 z (Qd z (Xi false (An h (E0 z))))
   have h:=cw hb_2 h
   exact Qk 23 hb_2 z (Qd z (Xi false (An h (E0 z))))
  have h:=cw hb_1 h
  exact Qk 16 hb_1 z (Qd z (Xi false (An h (E0 z))))
 have h:=cw hb h
 exact Qk 8 hb z (Qd z (Xi false (An h (E0 z))))
theorem f183_ok {K:Nat} {a0:Scene} {a1:Change} {r:Bool} (h:f183 K a0 a1=some r):CallOK Tryz.prog 183 [.agg (Scene.cl a0),.agg (Change.cl a1)] [] (Ab r) []:=by
 refine Co Tryz.func183 z z (nl z) ?_
 unfold f183 at h
 refine Tp z (Ts ?_)
 obtain⟨v4,hj,h⟩:=bs h
 refine Tri.joinv v4 (fun(y:Bool)=>⟨[(4,Ab y)],[]⟩) ?_ ?_
 ·refine Te ?_
  exact Rb h z
 have h:=hj
 refine Tri.region (Qe 4 z ?_)
 obtain⟨x9,hc,h⟩:=bs h
 refine Qc z z z (args:=[.agg (Basin.cl a0.Basin),Ai a1.Cell]) (r:=Ai x9) (calv z z fnok_116 z) (f116_ok hc) z (Qe 2 z ?_)
 rcases b2 (decide (x9≥0)) with hb | hb
 ·have h:=cq hb h
  refine Qk 11 hb z (Qe 3 z ?_)
  obtain⟨x15,hc_1,h⟩:=bs h
  refine Qc z z z (args:=[.agg (Scene.cl a0),Ai a1.From]) (r:=Ai x15) (calv z z fnok_117 z) (f117_ok hc_1) z (Qe 3 z ?_)
  rcases b2 (decide (x15≥0)) with hb_1 | hb_1
  ·have h:=cq hb_1 h
   refine Qk 18 hb_1 z (Qe 3 z ?_)
   obtain⟨x22,hc_2,h⟩:=bs h
   refine Qc z z z (args:=[.agg (Scene.cl a0),Ai a1.To]) (r:=Ai x22) (calv z z fnok_117 z) (f117_ok hc_2) z (Qe 3 z ?_)
   rcases b2 (decide (x22≥0)) with hb_2 | hb_2
   ·have h:=cq hb_2 h
    refine Qk 25 hb_2 z (Qe 7 z ?_)
    rcases b2 (decide (a1.From < a1.To)) with hb_3 | hb_3
    ·have h:=cq hb_3 h
     refine Qk 32 hb_3 z (Qe 5 z ?_)
     rcases b2 (decide (a1.Lo≥(-65536))) with hb_4 | hb_4
     ·have h:=cq hb_4 h
      refine Qk 37 hb_4 z (Qe 7 z ?_)
      rcases b2 (decide (a1.Lo≤a1.Hi)) with hb_5 | hb_5
      ·have h:=cq hb_5 h
       exact Qk 44 hb_5 z (Qd z (Xi (decide (a1.Hi≤65536)) (An h (E0 z))))
      have h:=cw hb_5 h
      exact Qk 44 hb_5 z (Qd z (Xi false (An h (E0 z))))
     have h:=cw hb_4 h
     exact Qk 37 hb_4 z (Qd z (Xi false (An h (E0 z))))
    have h:=cw hb_3 h
    exact Qk 32 hb_3 z (Qd z (Xi false (An h (E0 z))))
   have h:=cw hb_2 h
   exact Qk 25 hb_2 z (Qd z (Xi false (An h (E0 z))))
  have h:=cw hb_1 h
  exact Qk 18 hb_1 z (Qd z (Xi false (An h (E0 z))))
 have h:=cw hb h
 exact Qk 11 hb z (Qd z (Xi false (An h (E0 z))))
theorem f76_ok {K:Nat} {a0:Scene} {r:Int} (h:f76 K a0=some r):CallOK Tryz.prog 76 [.agg (Scene.cl a0)] [] (Ai r) []:=by
 refine Co Tryz.func76 z z (nl z) ?_
 unfold f76 at h
 refine Tp z (Ts (Tr (Qe 2 z ?_)))
 obtain⟨x8,hc,h⟩:=bs h
 refine Qc z z z (args:=[.agg (Basin.cl a0.Basin)]) (r:=Ai x8) (calv z z fnok_75 z) (f75_ok hc) z (Qd z (Tc (b:=(x8 != 0)) z (fun hb=>?_) (fun hb=>?_)))
 ·have h:=cq hb h
  refine Tp z (Te ?_)
  exact Ri h z
 have h:=cw hb h
 refine Tk (Ts (Ts (Tri.join1 ⟨[(1,.ipt (Scene.cl a0) 0),(19,Ab ((decide ((a0.Days.length:Int) < 1))||(decide ((a0.Days.length:Int) > 16))))],[]⟩ ?_ ?_)))
 ·refine Tc (b:=((decide ((a0.Days.length:Int) < 1))||(decide ((a0.Days.length:Int) > 16)))) z (fun hb_1=>?_) (fun hb_1=>?_)
  ·have h:=cq hb_1 h
   refine Tp z (Te ?_)
   exact Ri h z
  have h:=cw hb_1 h
  refine Tk (Ts (Tp z ?_))
  obtain⟨j,hj,h⟩:=jo h
  refine Tri.rngL h (fun p=>⟨[(1,.ipt (Scene.cl a0) 0),(3,Ai p.1)],[]⟩) (fun y=>j y=some r) (fun(y:Unit)=>⟨[(1,.ipt (Scene.cl a0) 0)],[]⟩) (E0 z) ?_ ?_ ?_
  ·rintro⟨⟩ h
   subst hj
   refine Ts (Ts (Tri.join1 ⟨[(1,.ipt (Scene.cl a0) 0),(61,Ab ((decide ((a0.Sights.length:Int) > 256))||(decide ((a0.Changes.length:Int) > 256))))],[]⟩ ?_ ?_))
   ·refine Tc (b:=((decide ((a0.Sights.length:Int) > 256))||(decide ((a0.Changes.length:Int) > 256)))) z (fun hb_2=>?_) (fun hb_2=>?_)
    ·have h:=cq hb_2 h
     refine Tp z (Te ?_)
     exact Ri h z
    have h:=cw hb_2 h
    refine Tk (Ts (Tp z ?_))
    obtain⟨j_1,hj_1,h⟩:=jo h
    refine Tri.rngL h (fun p=>⟨[(1,.ipt (Scene.cl a0) 0),(4,Ai p.1)],[]⟩) (fun y=>j_1 y=some r) (fun(y:Unit)=>⟨[(1,.ipt (Scene.cl a0) 0)],[]⟩) (E0 z) ?_ ?_ ?_
    ·rintro⟨⟩ h
     subst hj_1
     refine Ts (Tp z ?_)
     obtain⟨j_2,hj_2,h⟩:=jo h
     refine Tri.rngL h (fun p=>⟨[(1,.ipt (Scene.cl a0) 0),(5,Ai p.1)],[]⟩) (fun y=>j_2 y=some r) (fun(y:Unit)=>⟨[],[]⟩) (E0 z) ?_ ?_ ?_
     ·rintro⟨⟩ h
      subst hj_2
      refine Tp z (Te ?_)
      exact Ri h z
     ·rintro v5 ⟨⟩ hi_2 h
      refine Ts (Tr (Qe 3 z (Q1 z z z (Ax.ln (cl:=Change.cl) z slc_28 z) (Qd z (Tc (b:=(decide (v5 < (a0.Changes.length:Int)))) z (fun hb_3=>?_) (fun hb_3=>?_))))))
      ·exact(lt_f hi_2 hb_3).elim
      exact Tri.exit (Xi () (An h (E0 z)))
     rintro nx_2 x_2 v5 ⟨⟩ _ hi_2 hw_2 hx_2 h
     refine Ts (Tr (Qe 3 z (Q1 z z z (Ax.ln (cl:=Change.cl) z slc_28 z) (Qd z (Tc (b:=(decide (v5 < (a0.Changes.length:Int)))) z (fun hb_4=>?_) (fun hb_4=>?_))))))
     ·refine Tk (Ts (Tri.block (Ts (Td [[],[],[1],[],[1,2,3],[1,2,3,4],[0,1,2,3,4,5],[0,1,2,3,4,5,6]] hmix (by kernel_rfl) (Qe 4 z (Q1 z z z (Ax.ix (cl:=Change.cl) z slc_28 z z hx_2) (Qe 1 z ?_)))))))
      obtain⟨x90,hc_1,h⟩:=bs h
      refine Qc z z z (args:=[.agg (Scene.cl a0),.agg (Change.cl x_2)]) (r:=Ab x90) (calv z z fnok_183 z) (f183_ok hc_1) z (Qe 1 z (Rx ⟨by kernel_rfl,freshL_of [] (by kernel_rfl) (by kernel_rfl),?_⟩))
      refine Tc (b:=(!x90)) z (fun hb_5=>?_) (fun hb_5=>?_)
      ·have h:=cq hb_5 h
       refine Tp z (Te ?_)
       exact Ri h z
      have h:=cw hb_5 h
      exact Tk (Tq z (Xi (v5+1,()) (An (An z h) (Es0 [5] z ⟨.imm (Sub.of_eq (show Ai (v5+1)=Ai (W (v5+1)) from congrArg Ai hw_2.symm)) z,u0⟩))))
     exact(lt_t hi_2 hb_4).elim
    ·rintro v4 ⟨⟩ hi_1 h
     refine Ts (Tr (Qe 3 z (Q1 z z z (Ax.ln (cl:=Sight.cl) z slc_27 z) (Qd z (Tc (b:=(decide (v4 < (a0.Sights.length:Int)))) z (fun hb_6=>?_) (fun hb_6=>?_))))))
     ·exact(lt_f hi_1 hb_6).elim
     exact Tri.exit (Xi () (An h (E0 z)))
    rintro nx_1 x_1 v4 ⟨⟩ _ hi_1 hw_1 hx_1 h
    refine Ts (Tr (Qe 3 z (Q1 z z z (Ax.ln (cl:=Sight.cl) z slc_27 z) (Qd z (Tc (b:=(decide (v4 < (a0.Sights.length:Int)))) z (fun hb_7=>?_) (fun hb_7=>?_))))))
    ·refine Tk (Ts (Tri.block (Ts (Td [[],[],[1],[],[1,2,3],[1,2,3,4],[0,1,2,3,4,5],[0,1,2,3,4,5,6]] hmix (by kernel_rfl) (Qe 4 z (Q1 z z z (Ax.ix (cl:=Sight.cl) z slc_27 z z hx_1) (Qe 1 z ?_)))))))
     obtain⟨x75,hc_2,h⟩:=bs h
     refine Qc z z z (args:=[.agg (Scene.cl a0),.agg (Sight.cl x_1)]) (r:=Ab x75) (calv z z fnok_181 z) (f181_ok hc_2) z (Qe 1 z (Rx ⟨by kernel_rfl,freshL_of [] (by kernel_rfl) (by kernel_rfl),?_⟩))
     refine Tc (b:=(!x75)) z (fun hb_8=>?_) (fun hb_8=>?_)
     ·have h:=cq hb_8 h
      refine Tp z (Te ?_)
      exact Ri h z
     have h:=cw hb_8 h
     exact Tk (Tq z (Xi (v4+1,()) (An (An z h) (Es0 [4] z ⟨.imm (Sub.of_eq (show Ai (v4+1)=Ai (W (v4+1)) from congrArg Ai hw_1.symm)) z,u0⟩))))
    exact(lt_t hi_1 hb_7).elim
   refine Tri.region (Qe 2 z (Q1 z z z (Ax.ln (cl:=Sight.cl) z slc_27 z) (Qe 2 z ?_)))
   rcases b2 (decide ((a0.Sights.length:Int) > 256)) with hb_9 | hb_9
   ·exact Qk 56 hb_9 z (Qd z ((Es0 [61] z ⟨.imm (Sub.of_eq (show Ab ((decide ((a0.Sights.length:Int) > 256))||(decide ((a0.Changes.length:Int) > 256)))=Ab true by simp only [cond_true,cond_false,Bool.true_or,Bool.false_or,Bool.true_and,Bool.false_and,Bool.or_true,Bool.or_false,Bool.and_true,Bool.and_false,hb,hb_1,hb_9])) z,u0⟩)))
   exact Qk 56 hb_9 z (Qe 2 z (Q1 z z z (Ax.ln (cl:=Change.cl) z slc_28 z) (Qd z ((Es0 [61] z ⟨.imm (Sub.of_eq (show Ab ((decide ((a0.Sights.length:Int) > 256))||(decide ((a0.Changes.length:Int) > 256)))=Ab (decide ((a0.Changes.length:Int) > 256)) by simp only [cond_true,cond_false,Bool.true_or,Bool.false_or,Bool.true_and,Bool.false_and,Bool.or_true,Bool.or_false,Bool.and_true,Bool.and_false,hb,hb_1,hb_9])) z,u0⟩)))))
  ·rintro v3 ⟨⟩ hi h
   refine Ts (Tr (Qe 3 z (Q1 z z z (Ax.ln (cl:=icl) z slc_26 z) (Qd z (Tc (b:=(decide (v3 < (a0.Days.length:Int)))) z (fun hb_10=>?_) (fun hb_10=>?_))))))
   ·exact(lt_f hi hb_10).elim
   exact Tri.exit (Xi () (An h (E0 z)))
  rintro nx x v3 ⟨⟩ _ hi hw hx h
  refine Ts (Tr (Qe 3 z (Q1 z z z (Ax.ln (cl:=icl) z slc_26 z) (Qd z (Tc (b:=(decide (v3 < (a0.Days.length:Int)))) z (fun hb_11=>?_) (fun hb_11=>?_))))))
  ·refine Tk (Ts (Tri.block (Ts ?_)))
   obtain⟨v51,hj_3,h⟩:=bs h
   refine Tri.joinv v51 (fun(y:Bool)=>⟨[(1,.ipt (Scene.cl a0) 0),(3,Ai v3),(51,Ab y)],[]⟩) ?_ ?_
   ·refine Tc (b:=v51) z (fun hb_12=>?_) (fun hb_12=>?_)
    ·have h:=cq hb_12 h
     refine Tp z (Te ?_)
     exact Ri h z
    have h:=cw hb_12 h
    exact Tk (Tq z (Xi (v3+1,()) (An (An z h) (Es0 [3] z ⟨.imm (Sub.of_eq (show Ai (v3+1)=Ai (W (v3+1)) from congrArg Ai hw.symm)) z,u0⟩))))
   have h:=hj_3
   refine Td [[],[0],[],[0,1,2],[0,1,2,3],[0,1,2,3,4],[0,1,2,3,4,5],[0,1,2,3,4,5,6],[0,1,2,3,4,5,6,7],[0,1,2,3,4,5,6,7,8],[0,1,2,3,4,5,6,7,8,9],[0,1,2,3,4,5,6,7,8,9,10],[0,1,2,3,4,5,6,7,8,9,10,11],[0,1,2,3,4,5,6,7,8,9,10],[0,1,2,3,4,5,6,7,8,9,10,13],[0,1,2,3,4,5,6,7,8,9,10,11,12,13,14],[0,1,2,3,4,5,6,7,8,9,10,11,12,13,14,15],[0,1,2,3,4,5,6,7,8,9,10],[0,1,2,3,4,5,6,7,8,9,10,17],[0,1,2,3,4,5,6,7,8,9,10],[0,1,2,3,4,5,6,7,8,9,10,17,18,19],[0,1,2,3,4,5,6,7,8,9,10,17,18,19,20],[0,1,2,3,4,5,6,7,8,9,10,11,12,13,14,15,16,17,18,19,20,21],[0,1,2,3,4,5,6,7,8,9,10,11,12,13,14,15,16,17,18,19,20,21,22],[0,1,2,3,4,5,6,7,8,9,10,11,12,13,14,15,16,17,18,19,20,21,22,23]] hmix (by kernel_rfl) (Qe 3 z (Q1 z z z (Ax.ix (cl:=icl) z slc_26 z z hx) (Qe 1 z ?_)))
   obtain⟨x32,hc_3,h⟩:=bs h
   refine Qc z z z (args:=[Ai x,Ai 1048576]) (r:=Ab x32) (calv z z fnok_182 z) (f182_ok hc_3) z (Qe 2 z ?_)
   rcases b2 (!x32) with hb_13 | hb_13
   ·have h:=cq hb_13 h
    refine Qk 34 hb_13 z (Qe 17 z (Rx ⟨by kernel_rfl,freshL_of [] (by kernel_rfl) (by kernel_rfl),?_⟩))
    exact Xi true (An h (E0 z))
   have h:=cw hb_13 h
   refine Qk 34 hb_13 z (Qe 3 z ?_)
   rcases b2 (decide (v3 > 0)) with hb_14 | hb_14
   ·have h:=cq hb_14 h
    refine Qk 37 hb_14 z (Qe 4 z ?_)
    obtain⟨y,hy,h⟩:=bs h
    refine Q1 z z z (Ax.ix (cl:=icl) z slc_26 z z hy) (Qe 4 z (Q1 z z z (Ax.ix (cl:=icl) z slc_26 z z hx) (Qe 4 z (Rx ⟨by kernel_rfl,freshL_of [] (by kernel_rfl) (by kernel_rfl),?_⟩))))
    exact Xi (decide (y≥x)) (An h (E0 z))
   have h:=cw hb_14 h
   refine Qk 37 hb_14 z (Qe 14 z (Rx ⟨by kernel_rfl,freshL_of [] (by kernel_rfl) (by kernel_rfl),?_⟩))
   exact Xi false (An h (E0 z))
  exact(lt_t hi hb_11).elim
 refine Tri.region (Qe 2 z (Q1 z z z (Ax.ln (cl:=icl) z slc_26 z) (Qe 2 z ?_)))
 rcases b2 (decide ((a0.Days.length:Int) < 1)) with hb_15 | hb_15
 ·exact Qk 14 hb_15 z (Qd z ((Es0 [19] z ⟨.imm (Sub.of_eq (show Ab ((decide ((a0.Days.length:Int) < 1))||(decide ((a0.Days.length:Int) > 16)))=Ab true by simp only [cond_true,cond_false,Bool.true_or,Bool.false_or,Bool.true_and,Bool.false_and,Bool.or_true,Bool.or_false,Bool.and_true,Bool.and_false,hb,hb_15])) z,u0⟩)))
 exact Qk 14 hb_15 z (Qe 2 z (Q1 z z z (Ax.ln (cl:=icl) z slc_26 z) (Qd z ((Es0 [19] z ⟨.imm (Sub.of_eq (show Ab ((decide ((a0.Days.length:Int) < 1))||(decide ((a0.Days.length:Int) > 16)))=Ab (decide ((a0.Days.length:Int) > 16)) by simp only [cond_true,cond_false,Bool.true_or,Bool.false_or,Bool.true_and,Bool.false_and,Bool.or_true,Bool.or_false,Bool.and_true,Bool.and_false,hb,hb_15])) z,u0⟩)))))
theorem f106_ok {K:Nat} {a0:Scene} {r:Bool} (h:f106 K a0=some r):CallOK Tryz.prog 106 [.agg (Scene.cl a0)] [] (Ab r) []:=by
 refine Co Tryz.func106 z z (nl z) ?_
 unfold f106 at h
 refine Tp z (Ts (Tri.join1 ⟨[(2,Ab ((decide ((W ((a0.Basin.Cells.length:Int)*(a0.Days.length:Int)))≤15))&&((decide ((a0.Basin.Pairs.length:Int)≤8))&&((decide ((a0.Sights.length:Int)≤10))&&(decide ((a0.Changes.length:Int)≤10))))))],[]⟩ ?_ ?_))
 ·refine Te ?_
  exact Rb h z
 refine Tri.region (Qe 3 z (Q1 z z z (Ax.ln (cl:=Cell.cl) z slc_22 z) (Qe 2 z (Q1 z z z (Ax.ln (cl:=icl) z slc_26 z) (Qe 3 z ?_)))))
 rcases b2 (decide ((W ((a0.Basin.Cells.length:Int)*(a0.Days.length:Int)))≤15)) with hb | hb
 ·refine Qk 12 hb z (Qe 3 z (Q1 z z z (Ax.ln (cl:=Arr2_3.cl) z slc_23 z) (Qe 3 z ?_)))
  rcases b2 (decide ((a0.Basin.Pairs.length:Int)≤8)) with hb_1 | hb_1
  ·refine Qk 19 hb_1 z (Qe 2 z (Q1 z z z (Ax.ln (cl:=Sight.cl) z slc_27 z) (Qe 3 z ?_)))
   rcases b2 (decide ((a0.Sights.length:Int)≤10)) with hb_2 | hb_2
   ·exact Qk 25 hb_2 z (Qe 2 z (Q1 z z z (Ax.ln (cl:=Change.cl) z slc_28 z) (Qd z ((Es0 [2] z ⟨.imm (Sub.of_eq (show Ab ((decide ((W ((a0.Basin.Cells.length:Int)*(a0.Days.length:Int)))≤15))&&((decide ((a0.Basin.Pairs.length:Int)≤8))&&((decide ((a0.Sights.length:Int)≤10))&&(decide ((a0.Changes.length:Int)≤10)))))=Ab (decide ((a0.Changes.length:Int)≤10)) by simp only [cond_true,cond_false,Bool.true_or,Bool.false_or,Bool.true_and,Bool.false_and,Bool.or_true,Bool.or_false,Bool.and_true,Bool.and_false,hb,hb_1,hb_2])) z,u0⟩)))))
   exact Qk 25 hb_2 z (Qd z ((Es0 [2] z ⟨.imm (Sub.of_eq (show Ab ((decide ((W ((a0.Basin.Cells.length:Int)*(a0.Days.length:Int)))≤15))&&((decide ((a0.Basin.Pairs.length:Int)≤8))&&((decide ((a0.Sights.length:Int)≤10))&&(decide ((a0.Changes.length:Int)≤10)))))=Ab false by simp only [cond_true,cond_false,Bool.true_or,Bool.false_or,Bool.true_and,Bool.false_and,Bool.or_true,Bool.or_false,Bool.and_true,Bool.and_false,hb,hb_1,hb_2])) z,u0⟩)))
  exact Qk 19 hb_1 z (Qd z ((Es0 [2] z ⟨.imm (Sub.of_eq (show Ab ((decide ((W ((a0.Basin.Cells.length:Int)*(a0.Days.length:Int)))≤15))&&((decide ((a0.Basin.Pairs.length:Int)≤8))&&((decide ((a0.Sights.length:Int)≤10))&&(decide ((a0.Changes.length:Int)≤10)))))=Ab false by simp only [cond_true,cond_false,Bool.true_or,Bool.false_or,Bool.true_and,Bool.false_and,Bool.or_true,Bool.or_false,Bool.and_true,Bool.and_false,hb,hb_1])) z,u0⟩)))
 exact Qk 12 hb z (Qd z ((Es0 [2] z ⟨.imm (Sub.of_eq (show Ab ((decide ((W ((a0.Basin.Cells.length:Int)*(a0.Days.length:Int)))≤15))&&((decide ((a0.Basin.Pairs.length:Int)≤8))&&((decide ((a0.Sights.length:Int)≤10))&&(decide ((a0.Changes.length:Int)≤10)))))=Ab false by simp only [cond_true,cond_false,Bool.true_or,Bool.false_or,Bool.true_and,Bool.false_and,Bool.or_true,Bool.or_false,Bool.and_true,Bool.and_false,hb])) z,u0⟩)))
theorem f36_ok {K:Nat} {a0:Scene} {r:Bool} (h:f36 K a0=some r):CallOK Tryz.prog 36 [.agg (Scene.cl a0)] [] (Ab r) []:=by
 refine Co Tryz.func36 z z (nl z) ?_
 unfold f36 at h
 refine Tp z (Ts ?_)
 obtain⟨v2,hj,h⟩:=bs h
 refine Tri.joinv v2 (fun(y:Bool)=>⟨[(2,Ab y)],[]⟩) ?_ ?_
 ·refine Te ?_
  exact Rb h z
 have h:=hj
 refine Tri.region (Qe 1 z ?_)
 obtain⟨x4,hc,h⟩:=bs h
 refine Qc z z z (args:=[.agg (Scene.cl a0)]) (r:=Ab x4) (calv z z fnok_106 z) (f106_ok hc) z (Qe 1 z ?_)
 rcases b2 x4 with hb | hb
 ·have h:=cq hb h
  refine Qk 5 hb z (Qe 1 z ?_)
  obtain⟨x7,hc_1,h⟩:=bs h
  refine Qc z z z (args:=[.agg (Scene.cl a0)]) (r:=Ai x7) (calv z z fnok_66 z) (f66_ok hc_1) z (Qe 3 z ?_)
  rcases b2 (x7==0) with hb_1 | hb_1
  ·have h:=cq hb_1 h
   refine Qk 10 hb_1 z (Qe 1 z ?_)
   obtain⟨x12,hc_2,h⟩:=bs h
   exact Qc z z z (args:=[.agg (Scene.cl a0)]) (r:=Ai x12) (calv z z fnok_76 z) (f76_ok hc_2) z (Qd z (Xi (x12==0) (An h (E0 z))))
  have h:=cw hb_1 h
  exact Qk 10 hb_1 z (Qd z (Xi false (An h (E0 z))))
 have h:=cw hb h
 exact Qk 5 hb z (Qd z (Xi false (An h (E0 z))))
theorem f184_ok {K:Nat} {a0:Int} {a1:List Int} {r:Bool} (h:f184 K a0 a1=some r):CallOK Tryz.prog 184 [Ai a0,.ipt (cl26 a1) 0] [] (Ab r) []:=by
 refine Co Tryz.func184 z z (nl z) ?_
 unfold f184 at h
 refine Tp z (Tr (Qe 2 z ?_))
 obtain⟨x6,hc,h⟩:=bs h
 refine Qc z z z (args:=[.lst 1 (a1.map icl),Ai a0]) (r:=Ab x6) (calv z z fnok_83 z) (f83_ok hc) z (Qd z (Te ?_))
 exact Rb h z
theorem f78_ok {K:Nat} {a0:Scene} {a1:List Int} {r:Int} (h:f78 K a0 a1=some r):CallOK Tryz.prog 78 [.agg (Scene.cl a0),.lst 1 (a1.map icl)] [] (Ai r) []:=by
 refine Co Tryz.func78 z z (nl z) ?_
 unfold f78 at h
 refine Tp z (Ts (Tr (Qe 1 z ?_)))
 obtain⟨x9,hc,h⟩:=bs h
 refine Qc z z z (args:=[.agg (Scene.cl a0)]) (r:=Ai x9) (calv z z fnok_66 z) (f66_ok hc) z (Qd z (Tp z (Tc (b:=(x9 != 0)) z (fun hb=>?_) (fun hb=>?_))))
 ·have h:=cq hb h
  refine Tp z (Te ?_)
  exact Ri h z
 have h:=cw hb h
 refine Tk (Ts (Tr (Qe 1 z ?_)))
 obtain⟨x14,hc_1,h⟩:=bs h
 refine Qc z z z (args:=[.lst 1 (a1.map icl)]) (r:=Ab x14) (calv z z fnok_174 z) (f174_ok hc_1) z (Qd z (Tc (b:=(!x14)) z (fun hb_1=>?_) (fun hb_1=>?_)))
 ·have h:=cq hb_1 h
  refine Tp z (Te ?_)
  exact Ri h z
 have h:=cw hb_1 h
 refine Tk (Ts (Tr (Qe 1 z (Q1 z z z (v:=.fn 184 [.ipt (cl26 a1) 0]) (Ax.func z z) ?_))))
 obtain⟨x18,hc_2,h⟩:=bs h
 refine Qc z z z (args:=[.agg (Scene.cl a0),.fn 184 [.ipt (cl26 a1) 0]]) (r:=.agg (Scene.cl x18)) (calv z z fnok_138 z) (f138_ok fnok_184 z (fun _ _ hr=>f184_ok hr) hc_2) z ?_
 obtain⟨x19,hc_3,h⟩:=bs h
 refine Qc z z z (args:=[.agg (Scene.cl x18)]) (r:=Ab x19) (calv z z fnok_137 z) (f137_ok hc_3) z (Rx (Tc (b:=x19) z (fun hb_2=>?_) (fun hb_2=>?_)))
 ·have h:=cq hb_2 h
  refine Tp z (Te ?_)
  exact Ri h z
 have h:=cw hb_2 h
 refine Tk (Ts (Tr (Qe 1 z (Q1 z z z (Ax.ln (cl:=icl) z slc_26 z) (Qd z ?_)))))
 obtain⟨j,hj,h⟩:=jo h
 refine Tri.rngL h (fun p=>⟨[(2,.ipt (Scene.cl a0) 0),(3,.ipt (cl26 a1) 0),(20,.lst 1 (a1.map icl)),(21,Ai (a1.length:Int)),(22,Ai p.1)],[]⟩) (fun y=>j y=some r) (fun(y:Unit)=>⟨[],[]⟩) (E0 z) ?_ ?_ ?_
 ·rintro⟨⟩ h
  subst hj
  refine Tp z (Te ?_)
  exact Ri h z
 ·rintro v22 ⟨⟩ hi h
  refine Tp z (Ts (Tc (b:=(decide (v22 < (a1.length:Int)))) z (fun hb_3=>?_) (fun hb_3=>?_)))
  ·exact(lt_f hi hb_3).elim
  exact Tri.exit (Xi () (An h (E0 z)))
 rintro nx x v22 ⟨⟩ _ hi hw hx h
 refine Tp z (Ts (Tc (b:=(decide (v22 < (a1.length:Int)))) z (fun hb_4=>?_) (fun hb_4=>?_)))
 ·refine Tk (Ts (Tri.block (Tr (Q1 z z z (Ax.ix (cl:=icl) z slc_26 z z hx) (Qd z (Ts (Td [[],[],[],[1,2],[0,1,2,3],[0,1,2,3,4],[0,1,2,3,4,5]] hmix (by kernel_rfl) (Qe 3 z ?_))))))))
  obtain⟨x29,hc_4,h⟩:=bs h
  refine Qc z z z (args:=[.lst 1 (a1.map icl),Ai x]) (r:=.fn 255 [.ipt (icl x29.1) 0,.ipt (cl26 x29.2) 0]) (calv z z fnok_139 z) (f139_ok hc_4) z ?_
  obtain⟨x30,hc_5,h⟩:=bs h
  refine Qc z z z (args:=[.agg (Scene.cl a0),.fn 255 [.ipt (icl x29.1) 0,.ipt (cl26 x29.2) 0]]) (r:=.agg (Scene.cl x30)) (calv z z fnok_138 z) (f138_ok fnok_255 z (fun _ _ hr=>f255_ok hr) hc_5) z ?_
  obtain⟨x31,hc_6,h⟩:=bs h
  refine Qc z z z (args:=[.agg (Scene.cl x30)]) (r:=Ab x31) (calv z z fnok_137 z) (f137_ok hc_6) z (Qe 1 z (Rx ⟨by kernel_rfl,freshL_of [] (by kernel_rfl) (by kernel_rfl),?_⟩))
  refine Tc (b:=(!x31)) z (fun hb_5=>?_) (fun hb_5=>?_)
  ·have h:=cq hb_5 h
   refine Tp z (Te ?_)
   exact Ri h z
  have h:=cw hb_5 h
  exact Tk (Tq z (Xi (v22+1,()) (An (An z h) (Es0 [22] z ⟨.imm (Sub.of_eq (show Ai (v22+1)=Ai (W (v22+1)) from congrArg Ai hw.symm)) z,u0⟩))))
 exact(lt_t hi hb_4).elim
theorem f200_ok {K:Nat} {a0:List Sight} {a1:Sight→Option Bool} {g1:Nat} {caps1:List AV} {r:Int} (hg1:FnOK Tryz.prog g1) (ho1:(AV.fn g1 caps1).only []=true) (hp1:∀ x0 r,a1 x0=some r→CallOK Tryz.prog g1 ([.agg (Sight.cl x0)]++caps1) [] (Ab r) []) (h:f200 K a0 a1=some r):CallOK Tryz.prog 200 [.lst 5 (a0.map Sight.cl),.fn g1 caps1] [] (Ai r) []:=by
 refine Co Tryz.func200 z z (nl z) ?_
 unfold f200 at h
 refine Tp z (Ts (Tr (Qe 1 z (Q1 z z z (Ax.ln (cl:=Sight.cl) z slc_27 z) (Qd z ?_)))))
 obtain⟨j,hj,h⟩:=jo h
 refine Tri.rngL h (fun p=>⟨[(0,.lst 5 (a0.map Sight.cl)),(1,.fn g1 caps1),(7,Ai (a0.length:Int)),(8,Ai p.1)],[]⟩) (fun y=>j y=some r) (fun(y:Unit)=>⟨[],[]⟩) (Es0 [1] z ⟨.imm (Sub.refl _) ho1,u0⟩) ?_ ?_ ?_
 ·rintro⟨⟩ h
  subst hj
  refine Tp z (Te ?_)
  exact Ri h z
 ·rintro v8 ⟨⟩ hi h
  refine Tp z (Ts (Tc (b:=(decide (v8 < (a0.length:Int)))) z (fun hb=>?_) (fun hb=>?_)))
  ·exact(lt_f hi hb).elim
  exact Tri.exit (Xi () (An h (E0 z)))
 rintro nx x v8 ⟨⟩ _ hi hw hx h
 refine Tp z (Ts (Tc (b:=(decide (v8 < (a0.length:Int)))) z (fun hb_1=>?_) (fun hb_1=>?_)))
 ·refine Tk (Ts (Tri.block (Tp z (Tr (Qe 3 z (Q1 z z z (Ax.ix (cl:=Sight.cl) z slc_27 z z hx) (Qe 1 z ?_)))))))
  obtain⟨x16,hc,h⟩:=bs h
  refine Qc z z z (args:=[.agg (Sight.cl x)]++caps1) (r:=Ab x16) (calv z z hg1 z) (hp1 _ _ hc) z (Rx (Tc (b:=x16) z (fun hb_2=>?_) (fun hb_2=>?_)))
  ·have h:=cq hb_2 h
   refine Tp z (Te ?_)
   exact Ri h z
  have h:=cw hb_2 h
  exact Tk (Tq z (Xi (v8+1,()) (An (An z h) (Es0 [1,8] z ⟨.imm (Sub.refl _) ho1,.imm (Sub.of_eq (show Ai (v8+1)=Ai (W (v8+1)) from congrArg Ai hw.symm)) z,u0⟩))))
 exact(lt_t hi hb_1).elim
theorem f192_ok {K:Nat} {a0:List Sight} {a1:Sight→Option Bool} {g1:Nat} {caps1:List AV} {r:List Sight} (hg1:FnOK Tryz.prog g1) (ho1:(AV.fn g1 caps1).only []=true) (hp1:∀ x0 r,a1 x0=some r→CallOK Tryz.prog g1 ([.agg (Sight.cl x0)]++caps1) [] (Ab r) []) (h:f192 K a0 a1=some r):CallOK Tryz.prog 192 [.hnd 20270000,.fn g1 caps1] [(20270000,.arr 64 5 (a0.map Sight.cl))] (.lst 5 (r.map Sight.cl)) []:=by
 refine Co Tryz.func192 z z (nl z) ?_
 unfold f192 at h
 refine Tr (Q1 z z z (v:=.lst 5 (([]:List Sight).map Sight.cl)) (Ax.nl 5 z z) (Rx (Tr (Qe 2 z ?_))))
 obtain⟨x10,hc,h⟩:=bs h
 refine Ql [20270000] z z z (args:=[.hnd 20270000,.fn g1 caps1]) (args':=[.lst 5 (a0.map Sight.cl),.fn g1 caps1]) (r:=Ai x10) (calv z z fnok_200 z) ⟨.hnd mh z (im_flat Sight_im a0),.clean ho1,u0⟩ (f200_ok hg1 ho1 hp1 hc) z z (Qd z (Ts (Tp z (Tc (b:=(x10==(-1))) z (fun hb=>?_) (fun hb=>?_)))))
 ·have h:=cq hb h
  refine Tp z (Te ?_)
  refine RetQ.eq2 (fun r=>.lst 5 (r.map Sight.cl)) (fun r=>[]) (Option.some.inj h) ?_
  exact RetQ.mk (vs:=[.hnd 20270000]) (.inr z) ⟨_,_,z,.tmp z,z⟩ [20270000] [] z z u0 (.frz (.hnd mh z (im_flat Sight_im a0)) z)
 have h:=cw hb h
 refine Tk (Ts (Tp z ?_))
 obtain⟨⟨vo0_1,v5_1⟩,hj,h⟩:=bs h
 refine Tri.whlv hj (fun p=>⟨[(0,.hnd 20270000),(1,.fn g1 caps1),(5,Ai p.2.1),(6,Ai p.2.2)],[(20270000,some (.arr 64 5 (p.1.map Sight.cl)))]⟩) (fun(y:List Sight × Int)=>⟨[(0,.hnd 20270000),(5,Ai y.2)],[(20270000,some (.arr 64 5 (y.1.map Sight.cl)))]⟩) (Es [20270000] [1] z ⟨imf Sight_im,u0⟩ ⟨.imm (Sub.refl _) ho1,u0⟩) ?_ ?_
 ·refine Tr (Qe 2 z ?_)
  obtain⟨_,hz,h⟩:=bs h
  refine Q1 z z z (v:=.vw 20270000 5 (Int.toNat v5_1) (Int.toNat (vo0_1.length:Int)) vo0_1.length) (Ax.vh (cl:=Sight.cl) (xs:=vo0_1) z slc_27 z z ⟨_,z⟩ z hz) (Qs z z (v:=.tup []) (x:=some (.arr 64 5 ((clrI vo0_1 v5_1 (vo0_1.length:Int) (⟨0,0,0,0,0⟩:Sight)).map Sight.cl))) (Ax.vclr (cl:=Sight.cl) (xs:=vo0_1) (zv:=(⟨0,0,0,0,0⟩:Sight)) z slc_27 z z z z) (Rx (Tr (Qe 2 z ?_))))
  obtain⟨_,hz_1,h⟩:=bs h
  refine Q1 z z z (v:=.vw 20270000 5 (Int.toNat 0) (Int.toNat v5_1) ((clrI vo0_1 v5_1 (vo0_1.length:Int) (⟨0,0,0,0,0⟩:Sight)).length)) (Ax.vh (cl:=Sight.cl) (xs:=(clrI vo0_1 v5_1 (vo0_1.length:Int) (⟨0,0,0,0,0⟩:Sight))) z slc_27 z z z ⟨_,z⟩ hz_1) ?_
  obtain⟨z4,hz_2,h⟩:=bs h
  refine Qa z z z (v:=.hnd 4) (x:=some (.arr 64 5 (z4.map Sight.cl))) (Ax.vo (cl:=Sight.cl) (.inr z) z z z hz_2 z) z (by first | rfl | (exact freshB_mk (by first | rfl | simp [menT,menO,AO.men,AV.men,menL,fn_men ho1]) z (by first | rfl | simp [menT,menO,AO.men,AV.men,menL,fn_men ho1]) z) | (simp [menT,menO,AO.men,AV.men,menL,fn_men ho1]; done) | ((simp only [List.all_cons,List.all_nil,Bool.and_true,Bool.and_eq_true]); and_intros <;> exact freshB_mk (by first | rfl | simp [menT,menO,AO.men,AV.men,menL,fn_men ho1]) z (by first | rfl | simp [menT,menO,AO.men,AV.men,menL,fn_men ho1]) z)) z (by first | rfl | (exact freshB_mk (by first | rfl | simp [menT,menO,AO.men,AV.men,menL,fn_men ho1]) z (by first | rfl | simp [menT,menO,AO.men,AV.men,menL,fn_men ho1]) z) | (simp [menT,menO,AO.men,AV.men,menL,fn_men ho1]; done) | ((simp only [List.all_cons,List.all_nil,Bool.and_true,Bool.and_eq_true]); and_intros <;> exact freshB_mk (by first | rfl | simp [menT,menO,AO.men,AV.men,menL,fn_men ho1]) z (by first | rfl | simp [menT,menO,AO.men,AV.men,menL,fn_men ho1]) z)) z (Rx (Te ?_))
  refine RetQ.eq2 (fun r=>.lst 5 (r.map Sight.cl)) (fun r=>[]) (Option.some.inj h) ?_
  exact RetQ.mk (vs:=[.hnd 4]) (.inr z) ⟨_,_,z,.tmp z,z⟩ [4] [] z z u0 (.frz (.hnd mh z (im_flat Sight_im z4)) z)
 rintro nx ⟨vo0,v5,v6⟩ h
 refine Ts (Tr (Qe 2 z (Q1 z z z (Ax.lnh (cl:=Sight.cl) z slc_27 z z) (Qd z (Tc (b:=(decide (v6 < (vo0.length:Int)))) z (fun hb_1=>?_) (fun hb_1=>?_))))))
 ·have h:=cq hb_1 h
  refine Tk (Ts (Tri.block (Tr (Qe 2 z ?_))))
  obtain⟨y,hy,h⟩:=bs h
  refine Q1 z z z (Ax.ixh (cl:=Sight.cl) z slc_27 z z z hy) (Q1 z z z (v:=.agg (Sight.cl y)) (Ax.la_arr (cl:=Sight.cl) z siz_64 z z hy z z) (Qn z z z (v:=.ptr 7 0) (x:=some (.box (Sight.cl (⟨0,0,0,0,0⟩:Sight)))) (Al_ z z zer_64 z ⟨Sub.refl _,Sub.refl _,Sub.refl _,Sub.refl _,Sub.refl _,u0⟩) z (by first | rfl | (exact freshB_mk (by first | rfl | simp [menT,menO,AO.men,AV.men,menL,fn_men ho1]) z (by first | rfl | simp [menT,menO,AO.men,AV.men,menL,fn_men ho1]) z) | (simp [menT,menO,AO.men,AV.men,menL,fn_men ho1]; done) | ((simp only [List.all_cons,List.all_nil,Bool.and_true,Bool.and_eq_true]); and_intros <;> exact freshB_mk (by first | rfl | simp [menT,menO,AO.men,AV.men,menL,fn_men ho1]) z (by first | rfl | simp [menT,menO,AO.men,AV.men,menL,fn_men ho1]) z)) z (by first | rfl | (exact freshB_mk (by first | rfl | simp [menT,menO,AO.men,AV.men,menL,fn_men ho1]) z (by first | rfl | simp [menT,menO,AO.men,AV.men,menL,fn_men ho1]) z) | (simp [menT,menO,AO.men,AV.men,menL,fn_men ho1]; done) | ((simp only [List.all_cons,List.all_nil,Bool.and_true,Bool.and_eq_true]); and_intros <;> exact freshB_mk (by first | rfl | simp [menT,menO,AO.men,AV.men,menL,fn_men ho1]) z (by first | rfl | simp [menT,menO,AO.men,AV.men,menL,fn_men ho1]) z)) z (Qs z z (x:=some (.box (Sight.cl y))) (As z siz_64 z z z z z z z) (Rx (Tr (Qe 2 z ?_))))))
  obtain⟨x28,hc_1,h⟩:=bs h
  refine Qc z z z (args:=[.agg (Sight.cl y)]++caps1) (r:=Ab x28) (calv z z hg1 z) (hp1 _ _ hc_1) z (Qd z ?_)
  obtain⟨⟨vo0_2,v5_2⟩,hj_1,h⟩:=bs h
  refine Tri.joinv (vo0_2,v5_2) (fun(y:List Sight × Int)=>⟨[(0,.hnd 20270000),(1,.fn g1 caps1),(5,Ai y.2),(6,Ai v6)],[(20270000,some (.arr 64 5 (y.1.map Sight.cl)))]⟩) ?_ ?_
  ·exact Tq z (Xi (vo0_2,v5_2,(W (v6+1))) (An h (Es [20270000] [1] z ⟨imf Sight_im,u0⟩ ⟨.imm (Sub.refl _) ho1,u0⟩)))
  have h:=hj_1
  refine Tc (b:=(!x28)) z (fun hb_2=>?_) (fun hb_2=>?_)
  ·have h:=cq hb_2 h
   refine Tr (Qe 3 z ?_)
   obtain⟨y_1,hy_1,h⟩:=bs h
   exact Q1 z z z (Ax.ixh (cl:=Sight.cl) z slc_27 z z z hy_1) (Qs z z (x:=some (.arr 64 5 ((vo0.set (Int.toNat v5) y).map Sight.cl))) (Ax.st_arr (cl:=Sight.cl) (q:=y) z siz_64 z z hy_1 z z z z z z) (Rx (Tq z (Xi ((vo0.set (Int.toNat v5) y),(W (v5+1))) (An h (Es [20270000] [1] z ⟨imf Sight_im,u0⟩ ⟨.imm (Sub.refl _) ho1,u0⟩))))))
  have h:=cw hb_2 h
  exact Tk (Xi (vo0,v5) (An h (Es [20270000] [1] z ⟨imf Sight_im,u0⟩ ⟨.imm (Sub.refl _) ho1,u0⟩)))
 have h:=cw hb_1 h
 exact Tri.exit (Xi (vo0,v5) (An h (Ee [20270000] z ⟨imf Sight_im,u0⟩)))
theorem f193_ok {K:Nat} {a0:Sight} {a1:List Int} {r:Bool} (h:f193 K a0 a1=some r):CallOK Tryz.prog 193 [.agg (Sight.cl a0),.ipt (cl26 a1) 0] [] (Ab r) []:=by
 refine Co Tryz.func193 z z (nl z) ?_
 unfold f193 at h
 refine Tp z (Tr (Qe 3 z ?_))
 obtain⟨x7,hc,h⟩:=bs h
 refine Qc z z z (args:=[.lst 1 (a1.map icl),Ai a0.No]) (r:=Ab x7) (calv z z fnok_83 z) (f83_ok hc) z (Qd z (Te ?_))
 exact Rb h z
theorem f82_ok {K:Nat} {a0:Scene} {a1:List Int} {r:Scene} (h:f82 K a0 a1=some r):CallOK Tryz.prog 82 [.agg (Scene.cl a0),.lst 1 (a1.map icl)] [] (.agg (Scene.cl r)) []:=by
 refine Co Tryz.func82 z z (nl z) ?_
 unfold f82 at h
 refine Tr (Qn z z z (v:=.ptr 2 0) (x:=some (.box (Scene.cl a0))) (Ax.box_ptr z z z z) z z z z z (Qe 1 z (Qn z z z (v:=.ptr 4 0) (x:=some (.box (Scene.cl (⟨(⟨([]:List Cell),([]:List Arr2_3),0,0,0⟩:Basin),([]:List Int),([]:List Sight),([]:List Change)⟩:Scene)))) (Al_ z z zer_30 z ⟨Sub.nil _,Sub.nil _,Sub.refl _,Sub.refl _,Sub.refl _,Sub.nil _,Sub.nil _,Sub.nil _,u0⟩) z z z z z (Rx (Tr (Qe 2 z ?_))))))
 obtain⟨x7,hc,h⟩:=bs h
 refine Qo [] [(20270000,.arr 64 5 (x7.map Sight.cl))] [20270000] z z z (args:=[.lst 5 (a0.Sights.map Sight.cl)]) (r:=.hnd 20270000) (calv z z fnok_42 z) (f42_fr hc) u0 z z z z z (Q1 z z z (v:=.fn 193 [.ipt (cl26 a1) 0]) (Ax.func z z) ?_)
 obtain⟨x9,hc_1,h⟩:=bs h
 refine Qo [(20270000,.arr 64 5 (x7.map Sight.cl))] [] [] z z z (args:=[.hnd 20270000,.fn 193 [.ipt (cl26 a1) 0]]) (r:=.lst 5 (x9.map Sight.cl)) (calv z z fnok_192 z) (f192_ok fnok_193 z (fun _ _ hr=>f193_ok hr) hc_1) ⟨z,u0⟩ z z z z z (Qe 1 z (Qs z z (x:=some (.box (Scene.cl (⟨a0.Basin,a0.Days,x9,a0.Changes⟩:Scene)))) (As z siz_27 z z z z z z z) (Rx (Tr (Qe 1 z (Qs z z (x:=some (.box (Scene.cl (⟨a0.Basin,a0.Days,x9,a0.Changes⟩:Scene)))) (As z siz_30 z z z z z z z) (Rx (Te ?_))))))))
 refine Rr (fun r=>.agg (Scene.cl r)) (fun r=>[]) [] h ?_ u0
 rfl
theorem f89_ok {K:Nat} {a0:List Sight} {a1:Sight→Option Bool} {g1:Nat} {caps1:List AV} {r:Bool} (hg1:FnOK Tryz.prog g1) (ho1:(AV.fn g1 caps1).only []=true) (hp1:∀ x0 r,a1 x0=some r→CallOK Tryz.prog g1 ([.agg (Sight.cl x0)]++caps1) [] (Ab r) []) (h:f89 K a0 a1=some r):CallOK Tryz.prog 89 [.lst 5 (a0.map Sight.cl),.fn g1 caps1] [] (Ab r) []:=by
 refine Co Tryz.func89 z z (nl z) ?_
 unfold f89 at h
 refine Tp z (Tr (Qe 2 z ?_))
 obtain⟨x7,hc,h⟩:=bs h
 refine Qc z z z (args:=[.lst 5 (a0.map Sight.cl),.fn g1 caps1]) (r:=Ai x7) (calv z z fnok_200 z) (f200_ok hg1 ho1 hp1 hc) z (Qd z (Te ?_))
 exact Rb h z
theorem f90_ok {K:Nat} {a0:Sight} {a1:Sight} {r:Bool} (h:f90 K a0 a1=some r):CallOK Tryz.prog 90 [.agg (Sight.cl a0),.ipt (Sight.cl a1) 0] [] (Ab r) []:=by
 refine Co Tryz.func90 z z (nl z) ?_
 unfold f90 at h
 refine Tp z (Tp z (Te ?_))
 exact Rb h z
theorem f16_ok {K:Nat} {a0:Scene} {r:Bool} (h:f16 K a0=some r):CallOK Tryz.prog 16 [.agg (Scene.cl a0)] [] (Ab r) []:=by
 refine Co Tryz.func16 z z (nl z) ?_
 unfold f16 at h
 refine Tp z (Ts (Tr ?_))
 obtain⟨x15,hc,h⟩:=bs h
 refine Qc z z z (args:=[]) (r:=Ab x15) (calv z z fnok_21 z) (f21_ok hc) z (Qd z (Tc (b:=(!x15)) z (fun hb=>?_) (fun hb=>?_)))
 ·have h:=cq hb h
  refine Tp z (Te ?_)
  exact Rb h z
 have h:=cw hb h
 refine Tk (Ts (Tr (Qe 1 z ?_)))
 obtain⟨x18,hc_1,h⟩:=bs h
 refine Qc z z z (args:=[.agg (Scene.cl a0)]) (r:=Ab x18) (calv z z fnok_36 z) (f36_ok hc_1) z (Qd z (Tc (b:=(!x18)) z (fun hb_1=>?_) (fun hb_1=>?_)))
 ·have h:=cq hb_1 h
  refine Tp z (Te ?_)
  exact Rb h z
 have h:=cw hb_1 h
 refine Tk (Tr (Qe 1 z ?_))
 obtain⟨⟨x22_0,x22_1,x22_2⟩,hc_2,h⟩:=bs h
 refine Qc z z z (args:=[.agg (Scene.cl a0)]) (r:=.tup [.lst 1 (x22_0.map icl),Ab x22_1,Ai x22_2]) (calv z z fnok_54 z) (f54_ok hc_2) z (Qd z (Tr (Qe 1 z ?_)))
 obtain⟨⟨x28_0,x28_1⟩,hc_3,h⟩:=bs h
 refine Qc z z z (args:=[.agg (Scene.cl a0)]) (r:=.tup [.lst 1 (x28_0.map cl26),Ai x28_1]) (calv z z fnok_29 z) (f29_ok hc_3) z (Qd z (Ts (Ts (Tri.join1 ⟨[(1,.ipt (Scene.cl a0) 0),(3,.lst 1 (x22_0.map icl)),(4,Ab x22_1),(46,Ab ((x22_2 != 0)||((x22_1 != (x28_1==41))||(decide ((x22_0.length:Int) > (a0.Sights.length:Int))))))],[]⟩ ?_ ?_))))
 ·refine Tc (b:=((x22_2 != 0)||((x22_1 != (x28_1==41))||(decide ((x22_0.length:Int) > (a0.Sights.length:Int)))))) z (fun hb_2=>?_) (fun hb_2=>?_)
  ·have h:=cq hb_2 h
   refine Tp z (Te ?_)
   exact Rb h z
  have h:=cw hb_2 h
  refine Tk (Ts (Tp z (Tc (b:=(!x22_1)) z (fun hb_3=>?_) (fun hb_3=>?_))))
  ·have h:=cq hb_3 h
   refine Tr (Qe 1 z (Q1 z z z (Ax.ln (cl:=icl) z slc_26 z) (Qd z (Te ?_))))
   exact Rb h z
  have h:=cw hb_3 h
  refine Tk (Ts (Tr (Qe 2 z ?_)))
  obtain⟨x54,hc_4,h⟩:=bs h
  refine Qc z z z (args:=[.agg (Scene.cl a0),.lst 1 (x22_0.map icl)]) (r:=Ai x54) (calv z z fnok_78 z) (f78_ok hc_4) z (Qd z (Tc (b:=(x54 != 0)) z (fun hb_4=>?_) (fun hb_4=>?_)))
  ·have h:=cq hb_4 h
   refine Tp z (Te ?_)
   exact Rb h z
  have h:=cw hb_4 h
  refine Tk (Ts (Tr (Qe 2 z ?_)))
  obtain⟨x59,hc_5,h⟩:=bs h
  refine Qc z z z (args:=[.agg (Scene.cl a0),.lst 1 (x22_0.map icl)]) (r:=.agg (Scene.cl x59)) (calv z z fnok_82 z) (f82_ok hc_5) z ?_
  obtain⟨⟨x60_0,x60_1⟩,hc_6,h⟩:=bs h
  refine Qc z z z (args:=[.agg (Scene.cl x59)]) (r:=.tup [.lst 1 (x60_0.map cl26),Ai x60_1]) (calv z z fnok_31 z) (f31_ok hc_6) z (Qd z (Tp z (Tc (b:=(x60_1 != 41)) z (fun hb_5=>?_) (fun hb_5=>?_))))
  ·have h:=cq hb_5 h
   refine Tp z (Te ?_)
   exact Rb h z
  have h:=cw hb_5 h
  refine Tk (Ts (Tr (Qe 1 z (Q1 z z z (Ax.ln (cl:=icl) z slc_26 z) (Qd z ?_)))))
  obtain⟨j,hj,h⟩:=jo h
  refine Tri.rngN h (fun p=>⟨[(1,.ipt (Scene.cl a0) 0),(3,.lst 1 (x22_0.map icl)),(66,Ai (x22_0.length:Int)),(67,Ai p.1)],[]⟩) (fun y=>j y=some r) (fun(y:Unit)=>⟨[(1,.ipt (Scene.cl a0) 0),(3,.lst 1 (x22_0.map icl))],[]⟩) (E0 z) ?_ ?_ ?_
  ·rintro⟨⟩ h
   subst hj
   refine Ts (Tr (Qe 2 z (Q1 z z z (Ax.ln (cl:=Sight.cl) z slc_27 z) (Qd z ?_))))
   obtain⟨j_1,hj_1,h⟩:=jo h
   refine Tri.rngL h (fun p=>⟨[(1,.ipt (Scene.cl a0) 0),(3,.lst 1 (x22_0.map icl)),(86,.lst 5 (a0.Sights.map Sight.cl)),(87,Ai (a0.Sights.length:Int)),(88,Ai p.1)],[]⟩) (fun y=>j_1 y=some r) (fun(y:Unit)=>⟨[(3,.lst 1 (x22_0.map icl))],[]⟩) (E0 z) ?_ ?_ ?_
   ·rintro⟨⟩ h
    subst hj_1
    refine Tr (Qe 1 z (Q1 z z z (Ax.ln (cl:=icl) z slc_26 z) (Qd z (Te ?_))))
    exact Rb h z
   ·rintro v88 ⟨⟩ hi_1 h
    refine Tp z (Ts (Tc (b:=(decide (v88 < (a0.Sights.length:Int)))) z (fun hb_6=>?_) (fun hb_6=>?_)))
    ·exact(lt_f hi_1 hb_6).elim
    exact Tri.exit (Xi () (An h (E0 z)))
   rintro nx_1 x v88 ⟨⟩ _ hi_1 hw_1 hx h
   refine Tp z (Ts (Tc (b:=(decide (v88 < (a0.Sights.length:Int)))) z (fun hb_7=>?_) (fun hb_7=>?_)))
   ·refine Tk (Ts (Tri.block (Tr (Qe 1 z (Q1 z z z (Ax.ix (cl:=Sight.cl) z slc_27 z z hx) (Qe 1 z (Qn z z z (v:=.ptr 14 0) (x:=some (.box (Sight.cl (⟨0,0,0,0,0⟩:Sight)))) (Al_ z z zer_64 z ⟨Sub.refl _,Sub.refl _,Sub.refl _,Sub.refl _,Sub.refl _,u0⟩) z z z z z (Qe 1 z (Qs z z (x:=some (.box (Sight.cl x))) (As z siz_64 z z z z z z z) (Rx (Tr (Qe 3 z ?_))))))))))))
    obtain⟨z96,hz,h⟩:=bs h
    refine Q1 z z z (v:=.lst 5 (z96.map Sight.cl)) (Ax.sb01 z slc_27 z z hz) (Q1 z z z (v:=.fn 90 [.ptr 14 0]) (Ax.func z z) ?_)
    obtain⟨x98,hc_7,h⟩:=bs h
    refine Ql [14] z z z (args:=[.lst 5 (z96.map Sight.cl),.fn 90 [.ptr 14 0]]) (args':=[.lst 5 (z96.map Sight.cl),.fn 90 [.ipt (Sight.cl x) 0]]) (r:=Ab x98) (calv z z fnok_89 z) ⟨.imm z,.fnV ⟨.ptrV mh z ⟨.imm z,.imm z,.imm z,.imm z,.imm z,u0⟩,u0⟩,u0⟩ (f89_ok fnok_90 z (fun _ _ hr=>f90_ok hr) hc_7) z z (Rx (Tc (b:=x98) z (fun hb_8=>?_) (fun hb_8=>?_)))
    ·have h:=cq hb_8 h
     refine Tp z (Te ?_)
     exact Rb h z
    have h:=cw hb_8 h
    exact Tk (Tq z (Xi (v88+1,()) (An (An z h) (Es0 [88] z ⟨.imm (Sub.of_eq (show Ai (v88+1)=Ai (W (v88+1)) from congrArg Ai hw_1.symm)) z,u0⟩))))
   exact(lt_t hi_1 hb_7).elim
  ·rintro v67 ⟨⟩ hi _ h
   refine Tp z (Ts (Tc (b:=(decide (v67 < (x22_0.length:Int)))) z (fun hb_9=>?_) (fun hb_9=>?_)))
   ·exact(lt_f hi hb_9).elim
   exact Tri.exit (Xi () (An h (E0 z)))
  rintro nx v67 ⟨⟩ _ hi hw h
  refine Tp z (Ts (Tc (b:=(decide (v67 < (x22_0.length:Int)))) z (fun hb_10=>?_) (fun hb_10=>?_)))
  ·refine Tk (Ts (Tri.block (Tp z (Ts (Td [[],[],[1],[],[],[4],[1,2,3,4,5],[0,1,2,3,4,5,6],[0,1,2,3,4,5,6,7],[0,1,2,3,4,5,6,7,8],[0,1,2,3,4,5,6,7,8,9],[0,1,2,3,4,5,6,7,8,9],[0,1,2,3,4,5,6,7,8,9,10],[0,1,2,3,4,5,6,7,8,9,10,11,12]] hmix (by kernel_rfl) (Qe 2 z ?_))))))
   obtain⟨x73,hc_8,h⟩:=bs h
   refine Qo [] [(20260000,.arr 3 1 (x73.map icl))] [20260000] z z z (args:=[.lst 1 (x22_0.map icl)]) (r:=.hnd 20260000) (calv z z fnok_85 z) (f85_fr hc_8) u0 z z z z z (Qe 3 z ?_)
   obtain⟨x77,hc_9,h⟩:=bs h
   refine Qo [(20260000,.arr 3 1 (x73.map icl))] [] [] z z z (args:=[.hnd 20260000,Ai v67,Ai (W (v67+1))]) (r:=.lst 1 (x77.map icl)) (calv z z fnok_84 z) (f84_ok hc_9) ⟨z,u0⟩ z z z z z ?_
   obtain⟨x78,hc_10,h⟩:=bs h
   refine Qc z z z (args:=[.agg (Scene.cl a0),.lst 1 (x77.map icl)]) (r:=.agg (Scene.cl x78)) (calv z z fnok_82 z) (f82_ok hc_10) z ?_
   obtain⟨⟨x79_0,x79_1⟩,hc_11,h⟩:=bs h
   refine Qc z z z (args:=[.agg (Scene.cl x78)]) (r:=.tup [.lst 1 (x79_0.map cl26),Ai x79_1]) (calv z z fnok_31 z) (f31_ok hc_11) z (Qe 5 z (Rx ⟨by kernel_rfl,freshL_of [20260000] (by kernel_rfl) (by kernel_rfl),?_⟩))
   refine Tp z (Tc (b:=(x79_1 != 0)) z (fun hb_11=>?_) (fun hb_11=>?_))
   ·have h:=cq hb_11 h
    refine Tp z (Te ?_)
    exact Rb h z
   have h:=cw hb_11 h
   exact Tk (Tq z (Xi (v67+1,()) (An (An z h) (Es0 [67] z ⟨.imm (Sub.of_eq (show Ai (v67+1)=Ai (W (v67+1)) from congrArg Ai hw.symm)) z,u0⟩))))
  exact(lt_t hi hb_10).elim
 refine Tri.region (Qe 3 z ?_)
 rcases b2 (x22_2 != 0) with hb_12 | hb_12
 ·exact Qk 33 hb_12 z (Qd z ((Es0 [46] z ⟨.imm (Sub.of_eq (show Ab ((x22_2 != 0)||((x22_1 != (x28_1==41))||(decide ((x22_0.length:Int) > (a0.Sights.length:Int)))))=Ab true by simp only [cond_true,cond_false,Bool.true_or,Bool.false_or,Bool.true_and,Bool.false_and,Bool.or_true,Bool.or_false,Bool.and_true,Bool.and_false,hb,hb_1,hb_12])) z,u0⟩)))
 refine Qk 33 hb_12 z (Qe 3 z (Q1 z z z (v:=Ab (x22_1 != (x28_1==41))) (Ax.bool_neq bol_4 z z z) (Qe 2 z ?_)))
 rcases b2 (x22_1 != (x28_1==41)) with hb_13 | hb_13
 ·exact Qk 39 hb_13 z (Qd z ((Es0 [46] z ⟨.imm (Sub.of_eq (show Ab ((x22_2 != 0)||((x22_1 != (x28_1==41))||(decide ((x22_0.length:Int) > (a0.Sights.length:Int)))))=Ab true by simp only [cond_true,cond_false,Bool.true_or,Bool.false_or,Bool.true_and,Bool.false_and,Bool.or_true,Bool.or_false,Bool.and_true,Bool.and_false,hb,hb_1,hb_12,hb_13])) z,u0⟩)))
 exact Qk 39 hb_13 z (Qe 1 z (Q1 z z z (Ax.ln (cl:=icl) z slc_26 z) (Qe 2 z (Q1 z z z (Ax.ln (cl:=Sight.cl) z slc_27 z) (Qd z ((Es0 [46] z ⟨.imm (Sub.of_eq (show Ab ((x22_2 != 0)||((x22_1 != (x28_1==41))||(decide ((x22_0.length:Int) > (a0.Sights.length:Int)))))=Ab (decide ((x22_0.length:Int) > (a0.Sights.length:Int))) by simp only [cond_true,cond_false,Bool.true_or,Bool.false_or,Bool.true_and,Bool.false_and,Bool.or_true,Bool.or_false,Bool.and_true,Bool.and_false,hb,hb_1,hb_12,hb_13])) z,u0⟩)))))))
end Go.Proofs.YthlchdnbokhclaaGreat.Ql

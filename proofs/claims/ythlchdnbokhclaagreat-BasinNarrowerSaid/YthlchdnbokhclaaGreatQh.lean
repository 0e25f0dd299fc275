import Derived.Test.YthlchdnbokhclaaGreatQt
import Derived.Test.YthlchdnbokhclaaGreatQg1
import Derived.Test.YthlchdnbokhclaaGreatQg2
import Derived.Test.YthlchdnbokhclaaGreatQg3
set_option linter.all false
namespace Go.Proofs.YthlchdnbokhclaaGreat.Ql
open Go Go.Proofs
set_option maxRecDepth 100000
set_option maxHeartbeats 0
def f182 (K:Nat) (a0:Int) (a1:Int):Option (Bool):=
  some ((decide (a0≥0))&&(decide (a0≤a1)))
def f178 (K:Nat) (a0:Cell):Option (Bool):=
  Option.bind (
    (f182 K a0.No 4095).bind fun x5=>
    bif x5 then
      (f182 K a0.Height 9000).bind fun x9=>
      bif x9 then
        (f182 K a0.Aspect 7).bind fun x14=>
        bif x14 then
          bif (decide (a0.Area≥1)) then
            some (decide (a0.Area≤4096))
          else
            some false
        else
          some false
      else
        some false
    else
      some false) fun(v2:Bool)=>
  some v2
def f75 (K:Nat) (a0:Basin):Option (Int):=
  Option.bind (
    bif (decide ((a0.Cells.length:Int) < 1)) then
      some true
    else
      bif (decide ((a0.Cells.length:Int) > 12)) then
        some true
      else
        bif (decide ((a0.Pairs.length:Int) > 24)) then
          some true
        else
          (f182 K a0.Gain 65536).bind fun x27=>
          bif (!x27) then
            some true
          else
            (f182 K a0.Slack 65536).bind fun x33=>
            bif (!x33) then
              some true
            else
              (f182 K a0.Deep 65536).bind fun x39=>
              some (!x39)) fun(v41:Bool)=>
  bif v41 then
    some 50
  else
    Jo (α:=Unit→Option (Int)) (fun(_:Unit)=>
      Jo (α:=Unit→Option (Int)) (fun(_:Unit)=>
        some 0) fun(j_1:Unit→Option (Int))=>
      rngL a0.Pairs () (fun(v4:Int) (_:Unit)=>
          j_1 ()) fun nx_1 x_1 v4 (_:Unit)=>
        Option.bind (
          (f182 K x_1.a0 (W ((a0.Cells.length:Int) - 1))).bind fun x94=>
          bif (!x94) then
            some true
          else
            (f182 K x_1.a1 (W ((a0.Cells.length:Int) - 1))).bind fun x103=>
            bif (!x103) then
              some true
            else
              bif (x_1.a0==x_1.a1) then
                some true
              else
                (ix a0.Cells x_1.a0).bind fun y_1=>
                (ix a0.Cells x_1.a1).bind fun y_2=>
                some (decide (y_1.Height > y_2.Height))) fun(v129:Bool)=>
        bif v129 then
          some 50
        else
          Jo (α:=Unit→Option (Int)) (fun(_:Unit)=>
            nx_1 (v4+1) ()) fun(j_2:Unit→Option (Int))=>
          rngN 0 v4 () (fun(v6:Int) (_:Unit)=>
              j_2 ()) fun nx_2 v6 (_:Unit)=>
            (ix a0.Pairs v6).bind fun y=>
            bif (bif (y.a0==x_1.a0) then ((y.a1==x_1.a1)||((y.a0==x_1.a1)&&(y.a1==x_1.a0))) else ((y.a0==x_1.a1)&&(y.a1==x_1.a0))) then
              some 50
            else
              nx_2 (v6+1) ()) fun(j:Unit→Option (Int))=>
    rngL a0.Cells () (fun(v3:Int) (_:Unit)=>
        j ()) fun nx x v3 (_:Unit)=>
      Option.bind (
        (f178 K x).bind fun x54=>
        bif (!x54) then
          some true
        else
          bif (decide (v3 > 0)) then
            (ix a0.Cells (W (v3 - 1))).bind fun y_3=>
            some (decide (y_3.No≥x.No))
          else
            some false) fun(v75:Bool)=>
      bif v75 then
        some 50
      else
        nx (v3+1) ()
def f116 (K:Nat) (a0:Basin) (a1:Int):Option (Int):=
  Jo (α:=Unit→Option (Int)) (fun(_:Unit)=>
    some (-1)) fun(j:Unit→Option (Int))=>
  rngL a0.Cells () (fun(v5:Int) (_:Unit)=>
      j ()) fun nx x v5 (_:Unit)=>
    bif (x.No==a1) then
      some v5
    else
      nx (v5+1) ()
def f117 (K:Nat) (a0:Scene) (a1:Int):Option (Int):=
  Jo (α:=Unit→Option (Int)) (fun(_:Unit)=>
    some (-1)) fun(j:Unit→Option (Int))=>
  rngL a0.Days () (fun(v5:Int) (_:Unit)=>
      j ()) fun nx x v5 (_:Unit)=>
    bif (x==a1) then
      some v5
    else
      nx (v5+1) ()
def f181 (K:Nat) (a0:Scene) (a1:Sight):Option (Bool):=
  Option.bind (
    (f182 K a1.No 8191).bind fun x7=>
    bif x7 then
      (f116 K a0.Basin a1.Cell).bind fun x13=>
      bif (decide (x13≥0)) then
        (f117 K a0 a1.Day).bind fun x20=>
        bif (decide (x20≥0)) then
          bif (decide (a1.Lo≥0)) then
            bif (decide (a1.Lo≤a1.Hi)) then
              some (decide (a1.Hi≤65536))
            else
              some false
          else
            some false
        else
          some false
      else
        some false
    else
      some false) fun(v4:Bool)=>
  some v4
def f183 (K:Nat) (a0:Scene) (a1:Change):Option (Bool):=
  Option.bind (
    (f116 K a0.Basin a1.Cell).bind fun x9=>
    bif (decide (x9≥0)) then
      (f117 K a0 a1.From).bind fun x15=>
      bif (decide (x15≥0)) then
        (f117 K a0 a1.To).bind fun x22=>
        bif (decide (x22≥0)) then
          bif (decide (a1.From < a1.To)) then
            bif (decide (a1.Lo≥(-65536))) then
              bif (decide (a1.Lo≤a1.Hi)) then
                some (decide (a1.Hi≤65536))
              else
                some false
            else
              some false
          else
            some false
        else
          some false
      else
        some false
    else
      some false) fun(v4:Bool)=>
  some v4
def f76 (K:Nat) (a0:Scene):Option (Int):=
  (f75 K a0.Basin).bind fun x8=>
  bif (x8 != 0) then
    some 50
  else
    bif ((decide ((a0.Days.length:Int) < 1))||(decide ((a0.Days.length:Int) > 16))) then
      some 1
    else
      Jo (α:=Unit→Option (Int)) (fun(_:Unit)=>
        bif ((decide ((a0.Sights.length:Int) > 256))||(decide ((a0.Changes.length:Int) > 256))) then
          some 2
        else
          Jo (α:=Unit→Option (Int)) (fun(_:Unit)=>
            Jo (α:=Unit→Option (Int)) (fun(_:Unit)=>
              some 0) fun(j_2:Unit→Option (Int))=>
            rngL a0.Changes () (fun(v5:Int) (_:Unit)=>
                j_2 ()) fun nx_2 x_2 v5 (_:Unit)=>
              (f183 K a0 x_2).bind fun x90=>
              bif (!x90) then
                some 52
              else
                nx_2 (v5+1) ()) fun(j_1:Unit→Option (Int))=>
          rngL a0.Sights () (fun(v4:Int) (_:Unit)=>
              j_1 ()) fun nx_1 x_1 v4 (_:Unit)=>
            (f181 K a0 x_1).bind fun x75=>
            bif (!x75) then
              some 51
            else
              nx_1 (v4+1) ()) fun(j:Unit→Option (Int))=>
      rngL a0.Days () (fun(v3:Int) (_:Unit)=>
          j ()) fun nx x v3 (_:Unit)=>
        Option.bind (
          (f182 K x 1048576).bind fun x32=>
          bif (!x32) then
            some true
          else
            bif (decide (v3 > 0)) then
              (ix a0.Days (W (v3 - 1))).bind fun y=>
              some (decide (y≥x))
            else
              some false) fun(v51:Bool)=>
        bif v51 then
          some 1
        else
          nx (v3+1) ()
def f180 (K:Nat) (a0:Basin) (a1:Arr2_3):Option (Int):=
  (ix a0.Cells a1.a1).bind fun y=>
  (ix a0.Cells a1.a0).bind fun y_1=>
  some (W (a0.Slack+(W (Int.tdiv (W (a0.Gain*(W (y.Height - y_1.Height)))) 100))))
def f205 (K:Nat) (a0:Scene) (a1:Int) (a2:Int):Option (Int):=
  some (W ((W (1+(W (a2*(a0.Basin.Cells.length:Int)))))+a1))
def f106 (K:Nat) (a0:Scene):Option (Bool):=
  some ((decide ((W ((a0.Basin.Cells.length:Int)*(a0.Days.length:Int)))≤15))&&((decide ((a0.Basin.Pairs.length:Int)≤8))&&((decide ((a0.Sights.length:Int)≤10))&&(decide ((a0.Changes.length:Int)≤10)))))
def f36 (K:Nat) (a0:Scene):Option (Bool):=
  Option.bind (
    (f106 K a0).bind fun x4=>
    bif x4 then
      (f66 K a0).bind fun x7=>
      bif (x7==0) then
        (f76 K a0).bind fun x12=>
        some (x12==0)
      else
        some false
    else
      some false) fun(v2:Bool)=>
  some v2
def f176 (K:Nat) (a0:Int) (a1:Int):Option (Bool):=
  some (a0 != a1)
def f67 (K:Nat) (a0:Scene) (a1:Int):Option (Scene × Int):=
  (f66 K a0).bind fun x8=>
  bif (x8 != 0) then
    some ((⟨(⟨([]:List Cell),([]:List Arr2_3),0,0,0⟩:Basin),([]:List Int),([]:List Sight),([]:List Change)⟩:Scene),x8)
  else
    (f131 K a0).bind fun x14=>
    (f138 K x14 (fun y0=>f176 K y0 a1)).bind fun x16=>
    some (x16,0)
def f68 (K:Nat) (a0:Span) (a1:Span):Option (Bool):=
  some ((decide (a1.Lo≤a0.Lo))&&(decide (a0.Hi≤a1.Hi)))
def f11 (K:Nat) (a0:Scene) (a1:Sight) (a2:Int) (a3:List Int) (a4:Int) (a5:Int):Option (Bool):=
  (f21 K ).bind fun x32=>
  bif (!x32) then
    some false
  else
    Option.bind (
      (f36 K a0).bind fun x35=>
      bif (!x35) then
        some true
      else
        some ((a3.length:Int)==0)) fun(v41:Bool)=>
    bif v41 then
      some true
    else
      (f53 K a0 a1).bind fun(x45_0,x45_1)=>
      (f67 K a0 a2).bind fun(x51_0,x51_1)=>
      bif ((x51_1 != 0)||((x45_1 != 0)&&(x45_1 != 51))) then
        some false
      else
        Option.bind (
          bif (x45_1==0) then
            (app ([(⟨a0,x51_0⟩:Arr2_30)]:List Arr2_30) ([(⟨x45_0,a0⟩:Arr2_30)]:List Arr2_30)).bind fun z75=>
            some z75
          else
            some ([(⟨a0,x51_0⟩:Arr2_30)]:List Arr2_30)) fun(vo17:List Arr2_30)=>
        Jo (α:=Unit→Option (Bool)) (fun(_:Unit)=>
          some true) fun(j:Unit→Option (Bool))=>
        rngL vo17 () (fun(v78:Int) (_:Unit)=>
            j ()) fun nx x v78 (_:Unit)=>
          (ix a3 0).bind fun y=>
          (f33 K x.a0 y a4).bind fun(x89_0,x89_1)=>
          (f33 K x.a1 y a4).bind fun(x99_0,x99_1)=>
          (f39 K x.a0 a3 a4).bind fun(x107_0,x107_1)=>
          (f39 K x.a1 a3 a4).bind fun(x115_0,x115_1)=>
          (f40 K x.a0 a3 a4 a5).bind fun(x124_0,x124_1)=>
          (f40 K x.a1 a3 a4 a5).bind fun(x133_0,x133_1)=>
          Option.bind (
            bif (x89_1==0) then
              bif (x99_1 != 0) then
                some true
              else
                (f68 K x89_0 x99_0).bind fun x144=>
                bif (!x144) then
                  some true
                else
                  bif (x107_1==0) then
                    bif (x115_1 != 0) then
                      some true
                    else
                      (f68 K x107_0 x115_0).bind fun x157=>
                      bif (!x157) then
                        some true
                      else
                        bif (x124_1==0) then
                          bif (x133_1 != 0) then
                            some true
                          else
                            (f68 K x124_0 x133_0).bind fun x171=>
                            some (!x171)
                        else
                          some false
                  else
                    bif (x124_1==0) then
                      bif (x133_1 != 0) then
                        some true
                      else
                        (f68 K x124_0 x133_0).bind fun x171_1=>
                        some (!x171_1)
                    else
                      some false
            else
              bif (x107_1==0) then
                bif (x115_1 != 0) then
                  some true
                else
                  (f68 K x107_0 x115_0).bind fun x157_1=>
                  bif (!x157_1) then
                    some true
                  else
                    bif (x124_1==0) then
                      bif (x133_1 != 0) then
                        some true
                      else
                        (f68 K x124_0 x133_0).bind fun x171_2=>
                        some (!x171_2)
                    else
                      some false
              else
                bif (x124_1==0) then
                  bif (x133_1 != 0) then
                    some true
                  else
                    (f68 K x124_0 x133_0).bind fun x171_3=>
                    some (!x171_3)
                else
                  some false) fun(v175:Bool)=>
          bif v175 then
            some false
          else
            nx (v78+1) ()
theorem f182_ok {K:Nat} {a0:Int} {a1:Int} {r:Bool} (h:f182 K a0 a1=some r):CallOK Tryz.prog 182 [Ai a0,Ai a1] [] (Ab r) []:=by
 refine Co Tryz.func182 z z (nl z) ?_
 unfold f182 at h
 refine Tp z (Ts (Tri.join1 ⟨[(4,Ab ((decide (a0≥0))&&(decide (a0≤a1))))],[]⟩ ?_ ?_))
 ·refine Te ?_
  exact Rb h z
 refine Tri.region (Qe 3 z ?_)
 rcases b2 (decide (a0≥0)) with hb | hb
 ·exact Qk 7 hb z (Qd z ((Es0 [4] z ⟨.imm (Sub.of_eq (show Ab ((decide (a0≥0))&&(decide (a0≤a1)))=Ab (decide (a0≤a1)) by simp only [cond_true,cond_false,Bool.true_or,Bool.false_or,Bool.true_and,Bool.false_and,Bool.or_true,Bool.or_false,Bool.and_true,Bool.and_false,hb])) z,u0⟩)))
 exact Qk 7 hb z (Qd z ((Es0 [4] z ⟨.imm (Sub.of_eq (show Ab ((decide (a0≥0))&&(decide (a0≤a1)))=Ab false by simp only [cond_true,cond_false,Bool.true_or,Bool.false_or,Bool.true_and,Bool.false_and,Bool.or_true,Bool.or_false,Bool.and_true,Bool.and_false,hb])) z,u0⟩)))
theorem f178_ok {K:Nat} {a0:Cell} {r:Bool} (h:f178 K a0=some r):CallOK Tryz.prog 178 [.agg (Cell.cl a0)] [] (Ab r) []:=by
 refine Co Tryz.func178 z z (nl z) ?_
 unfold f178 at h
 refine Tp z (Ts ?_)
 obtain⟨v2,hj,h⟩:=bs h
 refine Tri.joinv v2 (fun(y:Bool)=>⟨[(2,Ab y)],[]⟩) ?_ ?_
 ·refine Te ?_
  exact Rb h z
 have h:=hj
 refine Tri.region (Qe 2 z ?_)
 obtain⟨x5,hc,h⟩:=bs h
 refine Qc z z z (args:=[Ai a0.No,Ai 4095]) (r:=Ab x5) (calv z z fnok_182 z) (f182_ok hc) z (Qe 1 z ?_)
 rcases b2 x5 with hb | hb
 ·have h:=cq hb h
  refine Qk 6 hb z (Qe 2 z ?_)
  obtain⟨x9,hc_1,h⟩:=bs h
  refine Qc z z z (args:=[Ai a0.Height,Ai 9000]) (r:=Ab x9) (calv z z fnok_182 z) (f182_ok hc_1) z (Qe 2 z ?_)
  rcases b2 x9 with hb_1 | hb_1
  ·have h:=cq hb_1 h
   refine Qk 11 hb_1 z (Qe 2 z ?_)
   obtain⟨x14,hc_2,h⟩:=bs h
   refine Qc z z z (args:=[Ai a0.Aspect,Ai 7]) (r:=Ab x14) (calv z z fnok_182 z) (f182_ok hc_2) z (Qe 2 z ?_)
   rcases b2 x14 with hb_2 | hb_2
   ·have h:=cq hb_2 h
    refine Qk 16 hb_2 z (Qe 5 z ?_)
    rcases b2 (decide (a0.Area≥1)) with hb_3 | hb_3
    ·have h:=cq hb_3 h
     exact Qk 21 hb_3 z (Qd z (Xi (decide (a0.Area≤4096)) (An h (E0 z))))
    have h:=cw hb_3 h
    exact Qk 21 hb_3 z (Qd z (Xi false (An h (E0 z))))
   have h:=cw hb_2 h
   exact Qk 16 hb_2 z (Qd z (Xi false (An h (E0 z))))
  have h:=cw hb_1 h
  exact Qk 11 hb_1 z (Qd z (Xi false (An h (E0 z))))
 have h:=cw hb h
 exact Qk 6 hb z (Qd z (Xi false (An h (E0 z))))
theorem f75_ok {K:Nat} {a0:Basin} {r:Int} (h:f75 K a0=some r):CallOK Tryz.prog 75 [.agg (Basin.cl a0)] [] (Ai r) []:=by
 refine Co Tryz.func75 z z (nl z) ?_
 unfold f75 at h
 refine Tp z (Ts (Ts ?_))
 obtain⟨v41,hj_5,h⟩:=bs h
 refine Tri.joinv v41 (fun(y:Bool)=>⟨[(1,.ipt (Basin.cl a0) 0),(41,Ab y)],[]⟩) ?_ ?_
 ·refine Tc (b:=v41) z (fun hb=>?_) (fun hb=>?_)
  ·have h:=cq hb h
   refine Tp z (Te ?_)
   exact Ri h z
  have h:=cw hb h
  refine Tk (Ts (Tp z ?_))
  obtain⟨j,hj,h⟩:=jo h
  refine Tri.rngL h (fun p=>⟨[(1,.ipt (Basin.cl a0) 0),(3,Ai p.1)],[]⟩) (fun y=>j y=some r) (fun(y:Unit)=>⟨[(1,.ipt (Basin.cl a0) 0)],[]⟩) (E0 z) ?_ ?_ ?_
  ·rintro⟨⟩ h
   subst hj
   refine Ts (Tp z ?_)
   obtain⟨j_1,hj_1,h⟩:=jo h
   refine Tri.rngL h (fun p=>⟨[(1,.ipt (Basin.cl a0) 0),(4,Ai p.1)],[]⟩) (fun y=>j_1 y=some r) (fun(y:Unit)=>⟨[],[]⟩) (E0 z) ?_ ?_ ?_
   ·rintro⟨⟩ h
    subst hj_1
    refine Tp z (Te ?_)
    exact Ri h z
   ·rintro v4 ⟨⟩ hi_1 h
    refine Ts (Tr (Qe 3 z (Q1 z z z (Ax.ln (cl:=Arr2_3.cl) z slc_23 z) (Qd z (Tc (b:=(decide (v4 < (a0.Pairs.length:Int)))) z (fun hb_1=>?_) (fun hb_1=>?_))))))
    ·exact(lt_f hi_1 hb_1).elim
    exact Tri.exit (Xi () (An h (E0 z)))
   rintro nx_1 x_1 v4 ⟨⟩ _ hi_1 hw_1 hx_1 h
   refine Ts (Tr (Qe 3 z (Q1 z z z (Ax.ln (cl:=Arr2_3.cl) z slc_23 z) (Qd z (Tc (b:=(decide (v4 < (a0.Pairs.length:Int)))) z (fun hb_2=>?_) (fun hb_2=>?_))))))
   ·refine Tk (Ts (Tri.block (Tr (Qe 3 z (Q1 z z z (Ax.ix (cl:=Arr2_3.cl) z slc_23 z z hx_1) (Qe 1 z (Qn z z z (v:=.ptr 5 0) (x:=some (.box (Arr2_3.cl (⟨0,0⟩:Arr2_3)))) (Al_ z z zer_97 z ⟨Sub.refl _,Sub.refl _,u0⟩) z z z z z (Qs z z (x:=some (.box (Arr2_3.cl x_1))) (As z siz_97 z z z z z z z) (Rx (Ts (Ts ?_)))))))))))
    obtain⟨v129,hj_3,h⟩:=bs h
    refine Tri.joinv v129 (fun(y:Bool)=>⟨[(1,.ipt (Basin.cl a0) 0),(4,Ai v4),(5,.ptr 5 0),(129,Ab y)],[(5,some (.box (Arr2_3.cl x_1)))]⟩) ?_ ?_
    ·refine Tc (b:=v129) z (fun hb_3=>?_) (fun hb_3=>?_)
     ·have h:=cq hb_3 h
      refine Tp z (Te ?_)
      exact Ri h z
     have h:=cw hb_3 h
     refine Tk (Tp z ?_)
     obtain⟨j_2,hj_2,h⟩:=jo h
     refine Tri.rngN h (fun p=>⟨[(1,.ipt (Basin.cl a0) 0),(4,Ai v4),(5,.ptr 5 0),(6,Ai p.1)],[(5,some (.box (Arr2_3.cl x_1)))]⟩) (fun y=>j_2 y=some r) (fun(y:Unit)=>⟨[(1,.ipt (Basin.cl a0) 0),(4,Ai v4)],[]⟩) (Ee [5] z u0) ?_ ?_ ?_
     ·rintro⟨⟩ h
      subst hj_2
      exact Tq z (Xi (v4+1,()) (An (An z h) (Es0 [4] z ⟨.imm (Sub.of_eq (show Ai (v4+1)=Ai (W (v4+1)) from congrArg Ai hw_1.symm)) z,u0⟩)))
     ·rintro v6 ⟨⟩ hi_2 _ h
      refine Ts (Tp z (Tc (b:=(decide (v6 < v4))) z (fun hb_4=>?_) (fun hb_4=>?_)))
      ·exact(lt_f hi_2 hb_4).elim
      exact Tri.exit (Xi () (An h (E0 z)))
     rintro nx_2 v6 ⟨⟩ _ hi_2 hw_2 h
     refine Ts (Tp z (Tc (b:=(decide (v6 < v4))) z (fun hb_5=>?_) (fun hb_5=>?_)))
     ·refine Tk (Ts (Tri.block (Tr (Qe 3 z ?_))))
      obtain⟨y,hy,h⟩:=bs h
      refine Q1 z z z (Ax.ix (cl:=Arr2_3.cl) z slc_23 z z hy) (Qe 1 z (Qn z z z (v:=.ptr 7 0) (x:=some (.box (Arr2_3.cl (⟨0,0⟩:Arr2_3)))) (Al_ z z zer_97 z ⟨Sub.refl _,Sub.refl _,u0⟩) z z z z z (Qs z z (x:=some (.box (Arr2_3.cl y))) (As z siz_97 z z z z z z z) (Rx (Ts (Tri.join1 ⟨[(1,.ipt (Basin.cl a0) 0),(4,Ai v4),(5,.ptr 5 0),(6,Ai v6),(165,Ab (bif (y.a0==x_1.a0) then ((y.a1==x_1.a1)||((y.a0==x_1.a1)&&(y.a1==x_1.a0))) else ((y.a0==x_1.a1)&&(y.a1==x_1.a0))))],[(5,some (.box (Arr2_3.cl x_1)))]⟩ ?_ ?_))))))
      ·refine Tc (b:=(bif (y.a0==x_1.a0) then ((y.a1==x_1.a1)||((y.a0==x_1.a1)&&(y.a1==x_1.a0))) else ((y.a0==x_1.a1)&&(y.a1==x_1.a0)))) z (fun hb_6=>?_) (fun hb_6=>?_)
       ·have h:=cq hb_6 h
        refine Tp z (Te ?_)
        exact Ri h z
       have h:=cw hb_6 h
       exact Tk (Tq z (Xi (v6+1,()) (An (An z h) (Es [5] [6] z u0 ⟨.imm (Sub.of_eq (show Ai (v6+1)=Ai (W (v6+1)) from congrArg Ai hw_2.symm)) z,u0⟩))))
      refine Tri.region (Q1 z z z (Ax.index_ptr (k:=.i64) (n:=0) z arr_97 z z z (by decide) (by decide)) (Qe 1 z (Q1 z z z (Ax.index_ptr (k:=.i64) (n:=0) z arr_97 z z z (by decide) (by decide)) (Qe 3 z ?_))))
      rcases b2 (y.a0==x_1.a0) with hb_7 | hb_7
      ·refine Qk 145 hb_7 z (Q1 z z z (Ax.index_ptr (k:=.i64) (n:=1) z arr_97 z z z (by decide) (by decide)) (Qe 1 z (Q1 z z z (Ax.index_ptr (k:=.i64) (n:=1) z arr_97 z z z (by decide) (by decide)) (Qe 4 z ?_))))
       rcases b2 (y.a1==x_1.a1) with hb_8 | hb_8
       ·exact Qk 152 hb_8 z (Qd z ((Es [5] [165] z u0 ⟨.imm (Sub.of_eq (show Ab (bif (y.a0==x_1.a0) then ((y.a1==x_1.a1)||((y.a0==x_1.a1)&&(y.a1==x_1.a0))) else ((y.a0==x_1.a1)&&(y.a1==x_1.a0)))=Ab true by simp only [cond_true,cond_false,Bool.true_or,Bool.false_or,Bool.true_and,Bool.false_and,Bool.or_true,Bool.or_false,Bool.and_true,Bool.and_false,hb,hb_2,hb_3,hb_5,hb_7,hb_8])) z,u0⟩)))
       refine Qk 152 hb_8 z (Q1 z z z (Ax.index_ptr (k:=.i64) (n:=0) z arr_97 z z z (by decide) (by decide)) (Qe 1 z (Q1 z z z (Ax.index_ptr (k:=.i64) (n:=1) z arr_97 z z z (by decide) (by decide)) (Qe 3 z ?_))))
       rcases b2 (y.a0==x_1.a1) with hb_9 | hb_9
       ·exact Qk 158 hb_9 z (Q1 z z z (Ax.index_ptr (k:=.i64) (n:=1) z arr_97 z z z (by decide) (by decide)) (Qe 1 z (Q1 z z z (Ax.index_ptr (k:=.i64) (n:=0) z arr_97 z z z (by decide) (by decide)) (Qd z ((Es [5] [165] z u0 ⟨.imm (Sub.of_eq (show Ab (bif (y.a0==x_1.a0) then ((y.a1==x_1.a1)||((y.a0==x_1.a1)&&(y.a1==x_1.a0))) else ((y.a0==x_1.a1)&&(y.a1==x_1.a0)))=Ab (y.a1==x_1.a0) by simp only [cond_true,cond_false,Bool.true_or,Bool.false_or,Bool.true_and,Bool.false_and,Bool.or_true,Bool.or_false,Bool.and_true,Bool.and_false,hb,hb_2,hb_3,hb_5,hb_7,hb_8,hb_9])) z,u0⟩))))))
       exact Qk 158 hb_9 z (Qd z ((Es [5] [165] z u0 ⟨.imm (Sub.of_eq (show Ab (bif (y.a0==x_1.a0) then ((y.a1==x_1.a1)||((y.a0==x_1.a1)&&(y.a1==x_1.a0))) else ((y.a0==x_1.a1)&&(y.a1==x_1.a0)))=Ab false by simp only [cond_true,cond_false,Bool.true_or,Bool.false_or,Bool.true_and,Bool.false_and,Bool.or_true,Bool.or_false,Bool.and_true,Bool.and_false,hb,hb_2,hb_3,hb_5,hb_7,hb_8,hb_9])) z,u0⟩)))
      refine Qk 145 hb_7 z (Qe 7 z (Q1 z z z (Ax.index_ptr (k:=.i64) (n:=0) z arr_97 z z z (by decide) (by decide)) (Qe 1 z (Q1 z z z (Ax.index_ptr (k:=.i64) (n:=1) z arr_97 z z z (by decide) (by decide)) (Qe 3 z ?_)))))
      rcases b2 (y.a0==x_1.a1) with hb_10 | hb_10
      ·exact Qk 158 hb_10 z (Q1 z z z (Ax.index_ptr (k:=.i64) (n:=1) z arr_97 z z z (by decide) (by decide)) (Qe 1 z (Q1 z z z (Ax.index_ptr (k:=.i64) (n:=0) z arr_97 z z z (by decide) (by decide)) (Qd z ((Es [5] [165] z u0 ⟨.imm (Sub.of_eq (show Ab (bif (y.a0==x_1.a0) then ((y.a1==x_1.a1)||((y.a0==x_1.a1)&&(y.a1==x_1.a0))) else ((y.a0==x_1.a1)&&(y.a1==x_1.a0)))=Ab (y.a1==x_1.a0) by simp only [cond_true,cond_false,Bool.true_or,Bool.false_or,Bool.true_and,Bool.false_and,Bool.or_true,Bool.or_false,Bool.and_true,Bool.and_false,hb,hb_2,hb_3,hb_5,hb_7,hb_10])) z,u0⟩))))))
      exact Qk 158 hb_10 z (Qd z ((Es [5] [165] z u0 ⟨.imm (Sub.of_eq (show Ab (bif (y.a0==x_1.a0) then ((y.a1==x_1.a1)||((y.a0==x_1.a1)&&(y.a1==x_1.a0))) else ((y.a0==x_1.a1)&&(y.a1==x_1.a0)))=Ab false by simp only [cond_true,cond_false,Bool.true_or,Bool.false_or,Bool.true_and,Bool.false_and,Bool.or_true,Bool.or_false,Bool.and_true,Bool.and_false,hb,hb_2,hb_3,hb_5,hb_7,hb_10])) z,u0⟩)))
     exact(lt_t hi_2 hb_5).elim
    have h:=hj_3
    refine Td [[],[0],[],[2],[2,3],[2,3,4],[0,1,2,3,4,5],[0,1,2,3,4,5,6],[0,1,2,3,4,5,6,7],[0,1,2,3,4,5,6,7,8],[0,1,2,3,4,5,6,7,8,9],[0,1,2,3,4,5,6,7,8],[0,1,2,3,4,5,6,7,8,11],[0,1,2,3,4,5,6,7,8,11,12],[0,1,2,3,4,5,6,7,8,11,12,13],[0,1,2,3,4,5,6,7,8,9,10,11,12,13,14],[0,1,2,3,4,5,6,7,8,9,10,11,12,13,14,15],[0,1,2,3,4,5,6,7,8,9,10,11,12,13,14,15,16],[0,1,2,3,4,5,6,7,8,9,10,11,12,13,14,15,16,17],[0,1,2,3,4,5,6,7,8,9,10,11,12,13,14,15,16,17,18],[0,1,2,3,4,5,6,7,8,9,10,11,12,13,14,15,16,17,18,19],[0,1,2,3,4,5,6,7,8,9,10,11,12,13,14,15,16,17,18],[0,1,2,3,4,5,6,7,8,9,10,11,12,13,14,15,16,17,18,21],[0,1,2,3,4,5,6,7,8,9,10,11,12,13,14,15,16,17,18,19,20,21,22],[0,1,2,3,4,5,6,7,8,9,10,11,12,13,14,15,16,17,18,19,20,21,22,23],[0,1,2,3,4,5,6,7,8,9,10,11,12,13,14,15,16,17,18,19,20,21,22,23,24],[0,1,2,3,4,5,6,7,8,9,10,11,12,13,14,15,16,17,18,19,20,21,22,23,24,25],[0,1,2,3,4,5,6,7,8,9,10,11,12,13,14,15,16,17,18,19,20,21,22,23,24,25,26],[0,1,2,3,4,5,6,7,8,9,10,11,12,13,14,15,16,17,18,19,20,21,22,23,24,25],[0,1,2,3,4,5,6,7,8,9,10,11,12,13,14,15,16,17,18,19,20,21,22,23,24,25,28],[0,1,2,3,4,5,6,7,8,9,10,11,12,13,14,15,16,17,18,19,20,21,22,23,24,25,26,27,28,29],[0,1,2,3,4,5,6,7,8,9,10,11,12,13,14,15,16,17,18,19,20,21,22,23,24,25,26,27,28,29,30],[0,1,2,3,4,5,6,7,8,9,10,11,12,13,14,15,16,17,18,19,20,21,22,23,24,25,26,27,28,29,30,31],[0,1,2,3,4,5,6,7,8,9,10,11,12,13,14,15,16,17,18,19,20,21,22,23,24,25],[0,1,2,3,4,5,6,7,8,9,10,11,12,13,14,15,16,17,18,19,20,21,22,23,24,25,33],[0,1,2,3,4,5,6,7,8,9,10,11,12,13,14,15,16,17,18,19,20,21,22,23,24,25],[0,1,2,3,4,5,6,7,8,9,10,11,12,13,14,15,16,17,18,19,20,21,22,23,24,25,35],[0,1,2,3,4,5,6,7,8,9,10,11,12,13,14,15,16,17,18,19,20,21,22,23,24,25,33,34,35,36],[0,1,2,3,4,5,6,7,8,9,10,11,12,13,14,15,16,17,18,19,20,21,22,23,24,25,33,34,35,36,37],[0,1,2,3,4,5,6,7,8,9,10,11,12,13,14,15,16,17,18,19,20,21,22,23,24,25,33,34,35,36,37,38],[0,1,2,3,4,5,6,7,8,9,10,11,12,13,14,15,16,17,18,19,20,21,22,23,24,25,26,27,28,29,30,31,32,33,34,35,36,37,38,39],[0,1,2,3,4,5,6,7,8,9,10,11,12,13,14,15,16,17,18,19,20,21,22,23,24,25,26,27,28,29,30,31,32,33,34,35,36,37,38,39,40]] hmix (by kernel_rfl) (Q1 z z z (Ax.index_ptr (k:=.i64) (n:=0) z arr_97 z z z (by decide) (by decide)) (Qe 3 z (Q1 z z z (Ax.ln (cl:=Cell.cl) z slc_22 z) (Qe 1 z ?_))))
    obtain⟨x94,hc,h⟩:=bs h
    refine Qc z z z (args:=[Ai x_1.a0,Ai (W ((a0.Cells.length:Int) - 1))]) (r:=Ab x94) (calv z z fnok_182 z) (f182_ok hc) z (Qe 2 z ?_)
    rcases b2 (!x94) with hb_11 | hb_11
    ·have h:=cq hb_11 h
     refine Qk 96 hb_11 z (Qe 33 z (Rx ⟨by kernel_rfl,freshL_of [] (by kernel_rfl) (by kernel_rfl),?_⟩))
     exact Xi true (An h (Ee [5] z u0))
    have h:=cw hb_11 h
    refine Qk 96 hb_11 z (Q1 z z z (Ax.index_ptr (k:=.i64) (n:=1) z arr_97 z z z (by decide) (by decide)) (Qe 3 z (Q1 z z z (Ax.ln (cl:=Cell.cl) z slc_22 z) (Qe 1 z ?_))))
    obtain⟨x103,hc_1,h⟩:=bs h
    refine Qc z z z (args:=[Ai x_1.a1,Ai (W ((a0.Cells.length:Int) - 1))]) (r:=Ab x103) (calv z z fnok_182 z) (f182_ok hc_1) z (Qe 3 z ?_)
    rcases b2 (!x103) with hb_12 | hb_12
    ·have h:=cq hb_12 h
     refine Qk 106 hb_12 z (Qe 23 z (Rx ⟨by kernel_rfl,freshL_of [] (by kernel_rfl) (by kernel_rfl),?_⟩))
     exact Xi true (An h (Ee [5] z u0))
    have h:=cw hb_12 h
    refine Qk 106 hb_12 z (Q1 z z z (Ax.index_ptr (k:=.i64) (n:=0) z arr_97 z z z (by decide) (by decide)) (Qe 1 z (Q1 z z z (Ax.index_ptr (k:=.i64) (n:=1) z arr_97 z z z (by decide) (by decide)) (Qe 4 z ?_))))
    rcases b2 (x_1.a0==x_1.a1) with hb_13 | hb_13
    ·have h:=cq hb_13 h
     refine Qk 113 hb_13 z (Qe 16 z (Rx ⟨by kernel_rfl,freshL_of [] (by kernel_rfl) (by kernel_rfl),?_⟩))
     exact Xi true (An h (Ee [5] z u0))
    have h:=cw hb_13 h
    refine Qk 113 hb_13 z (Qe 2 z (Q1 z z z (Ax.index_ptr (k:=.i64) (n:=0) z arr_97 z z z (by decide) (by decide)) (Qe 1 z ?_)))
    obtain⟨y_1,hy_1,h⟩:=bs h
    refine Q1 z z z (Ax.ix (cl:=Cell.cl) z slc_22 z z hy_1) (Qe 4 z (Q1 z z z (Ax.index_ptr (k:=.i64) (n:=1) z arr_97 z z z (by decide) (by decide)) (Qe 1 z ?_)))
    obtain⟨y_2,hy_2,h⟩:=bs h
    refine Q1 z z z (Ax.ix (cl:=Cell.cl) z slc_22 z z hy_2) (Qe 4 z (Rx ⟨by kernel_rfl,freshL_of [] (by kernel_rfl) (by kernel_rfl),?_⟩))
    exact Xi (decide (y_1.Height > y_2.Height)) (An h (Ee [5] z u0))
   exact(lt_t hi_1 hb_2).elim
  ·rintro v3 ⟨⟩ hi h
   refine Ts (Tr (Qe 3 z (Q1 z z z (Ax.ln (cl:=Cell.cl) z slc_22 z) (Qd z (Tc (b:=(decide (v3 < (a0.Cells.length:Int)))) z (fun hb_14=>?_) (fun hb_14=>?_))))))
   ·exact(lt_f hi hb_14).elim
   exact Tri.exit (Xi () (An h (E0 z)))
  rintro nx x v3 ⟨⟩ _ hi hw hx h
  refine Ts (Tr (Qe 3 z (Q1 z z z (Ax.ln (cl:=Cell.cl) z slc_22 z) (Qd z (Tc (b:=(decide (v3 < (a0.Cells.length:Int)))) z (fun hb_15=>?_) (fun hb_15=>?_))))))
  ·refine Tk (Ts (Tri.block (Ts ?_)))
   obtain⟨v75,hj_4,h⟩:=bs h
   refine Tri.joinv v75 (fun(y:Bool)=>⟨[(1,.ipt (Basin.cl a0) 0),(3,Ai v3),(75,Ab y)],[]⟩) ?_ ?_
   ·refine Tc (b:=v75) z (fun hb_16=>?_) (fun hb_16=>?_)
    ·have h:=cq hb_16 h
     refine Tp z (Te ?_)
     exact Ri h z
    have h:=cw hb_16 h
    exact Tk (Tq z (Xi (v3+1,()) (An (An z h) (Es0 [3] z ⟨.imm (Sub.of_eq (show Ai (v3+1)=Ai (W (v3+1)) from congrArg Ai hw.symm)) z,u0⟩))))
   have h:=hj_4
   refine Td [[],[0],[],[0,1,2],[0,1,2,3],[0,1,2,3,4],[0,1,2,3,4,5],[0,1,2,3,4,5,6],[0,1,2,3,4,5,6,7],[0,1,2,3,4,5,6,7,8],[0,1,2,3,4,5,6,7,8,9],[0,1,2,3,4,5,6,7,8,9,10],[0,1,2,3,4,5,6,7,8,9,10,11],[0,1,2,3,4,5,6,7,8,9,10],[0,1,2,3,4,5,6,7,8,9,10,13],[0,1,2,3,4,5,6,7,8,9,10,11,12,13,14],[0,1,2,3,4,5,6,7,8,9,10,11,12,13,14,15],[0,1,2,3,4,5,6,7,8,9,10,11,12,13,14,15,16],[0,1,2,3,4,5,6,7,8,9,10],[0,1,2,3,4,5,6,7,8,9,10,18],[0,1,2,3,4,5,6,7,8,9,10],[0,1,2,3,4,5,6,7,8,9,10,18,19,20],[0,1,2,3,4,5,6,7,8,9,10,18,19,20,21],[0,1,2,3,4,5,6,7,8,9,10,18,19,20,21,22],[0,1,2,3,4,5,6,7,8,9,10,11,12,13,14,15,16,17,18,19,20,21,22,23],[0,1,2,3,4,5,6,7,8,9,10,11,12,13,14,15,16,17,18,19,20,21,22,23,24],[0,1,2,3,4,5,6,7,8,9,10,11,12,13,14,15,16,17,18,19,20,21,22,23,24,25]] hmix (by kernel_rfl) (Qe 3 z (Q1 z z z (Ax.ix (cl:=Cell.cl) z slc_22 z z hx) (Qe 1 z ?_)))
   obtain⟨x54,hc_2,h⟩:=bs h
   refine Qc z z z (args:=[.agg (Cell.cl x)]) (r:=Ab x54) (calv z z fnok_178 z) (f178_ok hc_2) z (Qe 2 z ?_)
   rcases b2 (!x54) with hb_17 | hb_17
   ·have h:=cq hb_17 h
    refine Qk 56 hb_17 z (Qe 19 z (Rx ⟨by kernel_rfl,freshL_of [] (by kernel_rfl) (by kernel_rfl),?_⟩))
    exact Xi true (An h (E0 z))
   have h:=cw hb_17 h
   refine Qk 56 hb_17 z (Qe 3 z ?_)
   rcases b2 (decide (v3 > 0)) with hb_18 | hb_18
   ·have h:=cq hb_18 h
    refine Qk 59 hb_18 z (Qe 4 z ?_)
    obtain⟨y_3,hy_3,h⟩:=bs h
    refine Q1 z z z (Ax.ix (cl:=Cell.cl) z slc_22 z z hy_3) (Qe 5 z (Q1 z z z (Ax.ix (cl:=Cell.cl) z slc_22 z z hx) (Qe 5 z (Rx ⟨by kernel_rfl,freshL_of [] (by kernel_rfl) (by kernel_rfl),?_⟩))))
    exact Xi (decide (y_3.No≥x.No)) (An h (E0 z))
   have h:=cw hb_18 h
   refine Qk 59 hb_18 z (Qe 16 z (Rx ⟨by kernel_rfl,freshL_of [] (by kernel_rfl) (by kernel_rfl),?_⟩))
   exact Xi false (An h (E0 z))
  exact(lt_t hi hb_15).elim
 have h:=hj_5
 refine Tri.region (Qe 2 z (Q1 z z z (Ax.ln (cl:=Cell.cl) z slc_22 z) (Qe 2 z ?_)))
 rcases b2 (decide ((a0.Cells.length:Int) < 1)) with hb_19 | hb_19
 ·have h:=cq hb_19 h
  exact Qk 12 hb_19 z (Qd z (Xi true (An h (E0 z))))
 have h:=cw hb_19 h
 refine Qk 12 hb_19 z (Qe 2 z (Q1 z z z (Ax.ln (cl:=Cell.cl) z slc_22 z) (Qe 3 z ?_)))
 rcases b2 (decide ((a0.Cells.length:Int) > 12)) with hb_20 | hb_20
 ·have h:=cq hb_20 h
  exact Qk 18 hb_20 z (Qd z (Xi true (An h (E0 z))))
 have h:=cw hb_20 h
 refine Qk 18 hb_20 z (Qe 2 z (Q1 z z z (Ax.ln (cl:=Arr2_3.cl) z slc_23 z) (Qe 3 z ?_)))
 rcases b2 (decide ((a0.Pairs.length:Int) > 24)) with hb_21 | hb_21
 ·have h:=cq hb_21 h
  exact Qk 24 hb_21 z (Qd z (Xi true (An h (E0 z))))
 have h:=cw hb_21 h
 refine Qk 24 hb_21 z (Qe 2 z ?_)
 obtain⟨x27,hc_3,h⟩:=bs h
 refine Qc z z z (args:=[Ai a0.Gain,Ai 65536]) (r:=Ab x27) (calv z z fnok_182 z) (f182_ok hc_3) z (Qe 3 z ?_)
 rcases b2 (!x27) with hb_22 | hb_22
 ·have h:=cq hb_22 h
  exact Qk 30 hb_22 z (Qd z (Xi true (An h (E0 z))))
 have h:=cw hb_22 h
 refine Qk 30 hb_22 z (Qe 2 z ?_)
 obtain⟨x33,hc_4,h⟩:=bs h
 refine Qc z z z (args:=[Ai a0.Slack,Ai 65536]) (r:=Ab x33) (calv z z fnok_182 z) (f182_ok hc_4) z (Qe 3 z ?_)
 rcases b2 (!x33) with hb_23 | hb_23
 ·have h:=cq hb_23 h
  exact Qk 36 hb_23 z (Qd z (Xi true (An h (E0 z))))
 have h:=cw hb_23 h
 refine Qk 36 hb_23 z (Qe 2 z ?_)
 obtain⟨x39,hc_5,h⟩:=bs h
 exact Qc z z z (args:=[Ai a0.Deep,Ai 65536]) (r:=Ab x39) (calv z z fnok_182 z) (f182_ok hc_5) z (Qd z (Xi (!x39) (An h (E0 z))))
theorem f116_ok {K:Nat} {a0:Basin} {a1:Int} {r:Int} (h:f116 K a0 a1=some r):CallOK Tryz.prog 116 [.agg (Basin.cl a0),Ai a1] [] (Ai r) []:=by
 refine Co Tryz.func116 z z (nl z) ?_
 unfold f116 at h
 refine Tp z (Ts (Tp z ?_))
 obtain⟨j,hj,h⟩:=jo h
 refine Tri.rngL h (fun p=>⟨[(1,Ai a1),(2,.ipt (Basin.cl a0) 0),(5,Ai p.1)],[]⟩) (fun y=>j y=some r) (fun(y:Unit)=>⟨[],[]⟩) (E0 z) ?_ ?_ ?_
 ·rintro⟨⟩ h
  subst hj
  refine Tp z (Te ?_)
  exact Ri h z
 ·rintro v5 ⟨⟩ hi h
  refine Ts (Tr (Qe 3 z (Q1 z z z (Ax.ln (cl:=Cell.cl) z slc_22 z) (Qd z (Tc (b:=(decide (v5 < (a0.Cells.length:Int)))) z (fun hb=>?_) (fun hb=>?_))))))
  ·exact(lt_f hi hb).elim
  exact Tri.exit (Xi () (An h (E0 z)))
 rintro nx x v5 ⟨⟩ _ hi hw hx h
 refine Ts (Tr (Qe 3 z (Q1 z z z (Ax.ln (cl:=Cell.cl) z slc_22 z) (Qd z (Tc (b:=(decide (v5 < (a0.Cells.length:Int)))) z (fun hb_1=>?_) (fun hb_1=>?_))))))
 ·refine Tk (Ts (Tri.block (Tr (Qe 3 z (Q1 z z z (Ax.ix (cl:=Cell.cl) z slc_22 z z hx) (Qd z (Tc (b:=(x.No==a1)) z (fun hb_2=>?_) (fun hb_2=>?_))))))))
  ·have h:=cq hb_2 h
   refine Tp z (Te ?_)
   exact Ri h z
  have h:=cw hb_2 h
  exact Tk (Tq z (Xi (v5+1,()) (An (An z h) (Es0 [5] z ⟨.imm (Sub.of_eq (show Ai (v5+1)=Ai (W (v5+1)) from congrArg Ai hw.symm)) z,u0⟩))))
 exact(lt_t hi hb_1).elim
theorem f117_ok {K:Nat} {a0:Scene} {a1:Int} {r:Int} (h:f117 K a0 a1=some r):CallOK Tryz.prog 117 [.agg (Scene.cl a0),Ai a1] [] (Ai r) []:=by
 refine Co Tryz.func117 z z (nl z) ?_
 unfold f117 at h
 refine Tp z (Ts (Tp z ?_))
 obtain⟨j,hj,h⟩:=jo h
 refine Tri.rngL h (fun p=>⟨[(1,Ai a1),(2,.ipt (Scene.cl a0) 0),(5,Ai p.1)],[]⟩) (fun y=>j y=some r) (fun(y:Unit)=>⟨[],[]⟩) (E0 z) ?_ ?_ ?_
 ·rintro⟨⟩ h
  subst hj
  refine Tp z (Te ?_)
  exact Ri h z
 ·rintro v5 ⟨⟩ hi h
  refine Ts (Tr (Qe 3 z (Q1 z z z (Ax.ln (cl:=icl) z slc_26 z) (Qd z (Tc (b:=(decide (v5 < (a0.Days.length:Int)))) z (fun hb=>?_) (fun hb=>?_))))))
  ·exact(lt_f hi hb).elim
  exact Tri.exit (Xi () (An h (E0 z)))
 rintro nx x v5 ⟨⟩ _ hi hw hx h
 refine Ts (Tr (Qe 3 z (Q1 z z z (Ax.ln (cl:=icl) z slc_26 z) (Qd z (Tc (b:=(decide (v5 < (a0.Days.length:Int)))) z (fun hb_1=>?_) (fun hb_1=>?_))))))
 ·refine Tk (Ts (Tri.block (Tr (Qe 3 z (Q1 z z z (Ax.ix (cl:=icl) z slc_26 z z hx) (Qd z (Tc (b:=(x==a1)) z (fun hb_2=>?_) (fun hb_2=>?_))))))))
  ·have h:=cq hb_2 h
   refine Tp z (Te ?_)
   exact Ri h z
  have h:=cw hb_2 h
  exact Tk (Tq z (Xi (v5+1,()) (An (An z h) (Es0 [5] z ⟨.imm (Sub.of_eq (show Ai (v5+1)=Ai (W (v5+1)) from congrArg Ai hw.symm)) z,u0⟩))))
 exact(lt_t hi hb_1).elim
theorem f181_ok {K:Nat} {a0:Scene} {a1:Sight} {r:Bool} (h:f181 K a0 a1=some r):CallOK Tryz.prog 181 [.agg (Scene.cl a0),.agg (Sight.cl a1)] [] (Ab r) []:=by
 refine Co Tryz.func181 z z (nl z) ?_
 unfold f181 at h
 refine Tp z (Ts ?_)
 obtain⟨v4,hj,h⟩:=bs h
 refine Tri.joinv v4 (fun(y:Bool)=>⟨[(4,Ab y)],[]⟩) ?_ ?_
 ·refine Te ?_
  exact Rb h z
 have h:=hj
 refine Tri.region (Qe 2 z ?_)
 obtain⟨x7,hc,h⟩:=bs h
 refine Qc z z z (args:=[Ai a1.No,Ai 8191]) (r:=Ab x7) (calv z z fnok_182 z) (f182_ok hc) z (Qe 1 z ?_)
 rcases b2 x7 with hb | hb
 ·have h:=cq hb h
  refine Qk 8 hb z (Qe 4 z ?_)
  obtain⟨x13,hc_1,h⟩:=bs h
  refine Qc z z z (args:=[.agg (Basin.cl a0.Basin),Ai a1.Cell]) (r:=Ai x13) (calv z z fnok_116 z) (f116_ok hc_1) z (Qe 3 z ?_)
  rcases b2 (decide (x13≥0)) with hb_1 | hb_1
  ·have h:=cq hb_1 h
   refine Qk 16 hb_1 z (Qe 3 z ?_)
   obtain⟨x20,hc_2,h⟩:=bs h
   refine Qc z z z (args:=[.agg (Scene.cl a0),Ai a1.Day]) (r:=Ai x20) (calv z z fnok_117 z) (f117_ok hc_2) z (Qe 3 z ?_)
   rcases b2 (decide (x20≥0)) with hb_2 | hb_2
   ·have h:=cq hb_2 h
    refine Qk 23 hb_2 z (Qe 5 z ?_)
    rcases b2 (decide (a1.Lo≥0)) with hb_3 | hb_3
    ·have h:=cq hb_3 h
     refine Qk 28 hb_3 z (Qe 7 z ?_)
     rcases b2 (decide (a1.Lo≤a1.Hi)) with hb_4 | hb_4
     ·have h:=cq hb_4 h
      exact Qk 35 hb_4 z (Qd z (Xi (decide (a1.Hi≤65536)) (An h (E0 z))))
     have h:=cw hb_4 h
     exact Qk 35 hb_4 z (Qd z (Xi false (An h (E0 z))))
    have h:=cw hb_3 h
    exact Qk 28 hb_3 z (Qd z (Xi false (An h (E0 z))))
   have h:=cw hb_2 h
   exact Qk 23 hb_2 z (Qd z (Xi false (An h (E0 z))))
  have h:=cw hb_1 h
  exact Qk 16 hb_1 z (Qd z (Xi false (An h (E0 z))))
 have h:=cw hb h
 exact Qk 8 hb z (Qd z (Xi false (An h (E0 z))))
theorem f183_ok {K:Nat} {a0:Scene} {a1:Change} {r:Bool} (h:f183 K a0 a1=some r):CallOK Tryz.prog 183 [.agg (Scene.cl a0),.agg (Change.cl a1)] [] (Ab r) []:=by
 refine Co Tryz.func183 z z (nl z) ?_
 unfold f183 at h
 refine Tp z (Ts ?_)
 obtain⟨v4,hj,h⟩:=bs h
 refine Tri.joinv v4 (fun(y:Bool)=>⟨[(4,Ab y)],[]⟩) ?_ ?_
 ·refine Te ?_
  exact Rb h z
 have h:=hj
 refine Tri.region (Qe 4 z ?_)
 obtain⟨x9,hc,h⟩:=bs h
 refine Qc z z z (args:=[.agg (Basin.cl a0.Basin),Ai a1.Cell]) (r:=Ai x9) (calv z z fnok_116 z) (f116_ok hc) z (Qe 2 z ?_)
 rcases b2 (decide (x9≥0)) with hb | hb
 ·have h:=cq hb h
  refine Qk 11 hb z (Qe 3 z ?_)
  obtain⟨x15,hc_1,h⟩:=bs h
  refine Qc z z z (args:=[.agg (Scene.cl a0),Ai a1.From]) (r:=Ai x15) (calv z z fnok_117 z) (f117_ok hc_1) z (Qe 3 z ?_)
  rcases b2 (decide (x15≥0)) with hb_1 | hb_1
  ·have h:=cq hb_1 h
   refine Qk 18 hb_1 z (Qe 3 z ?_)
   obtain⟨x22,hc_2,h⟩:=bs h
   refine Qc z z z (args:=[.agg (Scene.cl a0),Ai a1.To]) (r:=Ai x22) (calv z z fnok_117 z) (f117_ok hc_2) z (Qe 3 z ?_)
   rcases b2 (decide (x22≥0)) with hb_2 | hb_2
   ·have h:=cq hb_2 h
    refine Qk 25 hb_2 z (Qe 7 z ?_)
    rcases b2 (decide (a1.From < a1.To)) with hb_3 | hb_3
    ·have h:=cq hb_3 h
     refine Qk 32 hb_3 z (Qe 5 z ?_)
     rcases b2 (decide (a1.Lo≥(-65536))) with hb_4 | hb_4
     ·have h:=cq hb_4 h
      refine Qk 37 hb_4 z (Qe 7 z ?_)
      rcases b2 (decide (a1.Lo≤a1.Hi)) with hb_5 | hb_5
      ·have h:=cq hb_5 h
       exact Qk 44 hb_5 z (Qd z (Xi (decide (a1.Hi≤65536)) (An h (E0 z))))
      have h:=cw hb_5 h
      exact Qk 44 hb_5 z (Qd z (Xi false (An h (E0 z))))
     have h:=cw hb_4 h
     exact Qk 37 hb_4 z (Qd z (Xi false (An h (E0 z))))
    have h:=cw hb_3 h
    exact Qk 32 hb_3 z (Qd z (Xi false (An h (E0 z))))
   have h:=cw hb_2 h
   exact Qk 25 hb_2 z (Qd z (Xi false (An h (E0 z))))
  have h:=cw hb_1 h
  exact Qk 18 hb_1 z (Qd z (Xi false (An h (E0 z))))
 have h:=cw hb h
 exact Qk 11 hb z (Qd z (Xi false (An h (E0 z))))
theorem f76_ok {K:Nat} {a0:Scene} {r:Int} (h:f76 K a0=some r):CallOK Tryz.prog 76 [.agg (Scene.cl a0)] [] (Ai r) []:=by
 refine Co Tryz.func76 z z (nl z) ?_
 unfold f76 at h
 refine Tp z (Ts (Tr (Qe 2 z ?_)))
 obtain⟨x8,hc,h⟩:=bs h
 refine Qc z z z (args:=[.agg (Basin.cl a0.Basin)]) (r:=Ai x8) (calv z z fnok_75 z) (f75_ok hc) z (Qd z (Tc (b:=(x8 != 0)) z (fun hb=>?_) (fun hb=>?_)))
 ·have h:=cq hb h
  refine Tp z (Te ?_)
  exact Ri h z
 have h:=cw hb h
 refine Tk (Ts (Ts (Tri.join1 ⟨[(1,.ipt (Scene.cl a0) 0),(19,Ab ((decide ((a0.Days.length:Int) < 1))||(decide ((a0.Days.length:Int) > 16))))],[]⟩ ?_ ?_)))
 ·refine Tc (b:=((decide ((a0.Days.length:Int) < 1))||(decide ((a0.Days.length:Int) > 16)))) z (fun hb_1=>?_) (fun hb_1=>?_)
  ·have h:=cq hb_1 h
   refine Tp z (Te ?_)
   exact Ri h z
  have h:=cw hb_1 h
  refine Tk (Ts (Tp z ?_))
  obtain⟨j,hj,h⟩:=jo h
  refine Tri.rngL h (fun p=>⟨[(1,.ipt (Scene.cl a0) 0),(3,Ai p.1)],[]⟩) (fun y=>j y=some r) (fun(y:Unit)=>⟨[(1,.ipt (Scene.cl a0) 0)],[]⟩) (E0 z) ?_ ?_ ?_
  ·rintro⟨⟩ h
   subst hj
   refine Ts (Ts (Tri.join1 ⟨[(1,.ipt (Scene.cl a0) 0),(61,Ab ((decide ((a0.Sights.length:Int) > 256))||(decide ((a0.Changes.length:Int) > 256))))],[]⟩ ?_ ?_))
   ·refine Tc (b:=((decide ((a0.Sights.length:Int) > 256))||(decide ((a0.Changes.length:Int) > 256)))) z (fun hb_2=>?_) (fun hb_2=>?_)
    ·have h:=cq hb_2 h
     refine Tp z (Te ?_)
     exact Ri h z
    have h:=cw hb_2 h
    refine Tk (Ts (Tp z ?_))
    obtain⟨j_1,hj_1,h⟩:=jo h
    refine Tri.rngL h (fun p=>⟨[(1,.ipt (Scene.cl a0) 0),(4,Ai p.1)],[]⟩) (fun y=>j_1 y=some r) (fun(y:Unit)=>⟨[(1,.ipt (Scene.cl a0) 0)],[]⟩) (E0 z) ?_ ?_ ?_
    ·rintro⟨⟩ h
     subst hj_1
     refine Ts (Tp z ?_)
     obtain⟨j_2,hj_2,h⟩:=jo h
     refine Tri.rngL h (fun p=>⟨[(1,.ipt (Scene.cl a0) 0),(5,Ai p.1)],[]⟩) (fun y=>j_2 y=some r) (fun(y:Unit)=>⟨[],[]⟩) (E0 z) ?_ ?_ ?_
     ·rintro⟨⟩ h
      subst hj_2
      refine Tp z (Te ?_)
      exact Ri h z
     ·rintro v5 ⟨⟩ hi_2 h
      refine Ts (Tr (Qe 3 z (Q1 z z z (Ax.ln (cl:=Change.cl) z slc_28 z) (Qd z (Tc (b:=(decide (v5 < (a0.Changes.length:Int)))) z (fun hb_3=>?_) (fun hb_3=>?_))))))
      ·exact(lt_f hi_2 hb_3).elim
      exact Tri.exit (Xi () (An h (E0 z)))
     rintro nx_2 x_2 v5 ⟨⟩ _ hi_2 hw_2 hx_2 h
     refine Ts (Tr (Qe 3 z (Q1 z z z (Ax.ln (cl:=Change.cl) z slc_28 z) (Qd z (Tc (b:=(decide (v5 < (a0.Changes.length:Int)))) z (fun hb_4=>?_) (fun hb_4=>?_))))))
     ·refine Tk (Ts (Tri.block (Ts (Td [[],[],[1],[],[1,2,3],[1,2,3,4],[0,1,2,3,4,5],[0,1,2,3,4,5,6]] hmix (by kernel_rfl) (Qe 4 z (Q1 z z z (Ax.ix (cl:=Change.cl) z slc_28 z z hx_2) (Qe 1 z ?_)))))))
      obtain⟨x90,hc_1,h⟩:=bs h
      refine Qc z z z (args:=[.agg (Scene.cl a0),.agg (Change.cl x_2)]) (r:=Ab x90) (calv z z fnok_183 z) (f183_ok hc_1) z (Qe 1 z (Rx ⟨by kernel_rfl,freshL_of [] (by kernel_rfl) (by kernel_rfl),?_⟩))
      refine Tc (b:=(!x90)) z (fun hb_5=>?_) (fun hb_5=>?_)
      ·have h:=cq hb_5 h
       refine Tp z (Te ?_)
       exact Ri h z
      have h:=cw hb_5 h
      exact Tk (Tq z (Xi (v5+1,()) (An (An z h) (Es0 [5] z ⟨.imm (Sub.of_eq (show Ai (v5+1)=Ai (W (v5+1)) from congrArg Ai hw_2.symm)) z,u0⟩))))
     exact(lt_t hi_2 hb_4).elim
    ·rintro v4 ⟨⟩ hi_1 h
     refine Ts (Tr (Qe 3 z (Q1 z z z (Ax.ln (cl:=Sight.cl) z slc_27 z) (Qd z (Tc (b:=(decide (v4 < (a0.Sights.length:Int)))) z (fun hb_6=>?_) (fun hb_6=>?_))))))
     ·exact(lt_f hi_1 hb_6).elim
     exact Tri.exit (Xi () (An h (E0 z)))
    rintro nx_1 x_1 v4 ⟨⟩ _ hi_1 hw_1 hx_1 h
    refine Ts (Tr (Qe 3 z (Q1 z z z (Ax.ln (cl:=Sight.cl) z slc_27 z) (Qd z (Tc (b:=(decide (v4 < (a0.Sights.length:Int)))) z (fun hb_7=>?_) (fun hb_7=>?_))))))
    ·refine Tk (Ts (Tri.block (Ts (Td [[],[],[1],[],[1,2,3],[1,2,3,4],[0,1,2,3,4,5],[0,1,2,3,4,5,6]] hmix (by kernel_rfl) (Qe 4 z (Q1 z z z (Ax.ix (cl:=Sight.cl) z slc_27 z z hx_1) (Qe 1 z ?_)))))))
     obtain⟨x75,hc_2,h⟩:=bs h
     refine Qc z z z (args:=[.agg (Scene.cl a0),.agg (Sight.cl x_1)]) (r:=Ab x75) (calv z z fnok_181 z) (f181_ok hc_2) z (Qe 1 z (Rx ⟨by kernel_rfl,freshL_of [] (by kernel_rfl) (by kernel_rfl),?_⟩))
     refine Tc (b:=(!x75)) z (fun hb_8=>?_) (fun hb_8=>?_)
     ·have h:=cq hb_8 h
      refine Tp z (Te ?_)
      exact Ri h z
     have h:=cw hb_8 h
     exact Tk (Tq z (Xi (v4+1,()) (An (An z h) (Es0 [4] z ⟨.imm (Sub.of_eq (show Ai (v4+1)=Ai (W (v4+1)) from congrArg Ai hw_1.symm)) z,u0⟩))))
    exact(lt_t hi_1 hb_7).elim
   refine Tri.region (Qe 2 z (Q1 z z z (Ax.ln (cl:=Sight.cl) z slc_27 z) (Qe 2 z ?_)))
   rcases b2 (decide ((a0.Sights.length:Int) > 256)) with hb_9 | hb_9
   ·exact Qk 56 hb_9 z (Qd z ((Es0 [61] z ⟨.imm (Sub.of_eq (show Ab ((decide ((a0.Sights.length:Int) > 256))||(decide ((a0.Changes.length:Int) > 256)))=Ab true by simp only [cond_true,cond_false,Bool.true_or,Bool.false_or,Bool.true_and,Bool.false_and,Bool.or_true,Bool.or_false,Bool.and_true,Bool.and_false,hb,hb_1,hb_9])) z,u0⟩)))
   exact Qk 56 hb_9 z (Qe 2 z (Q1 z z z (Ax.ln (cl:=Change.cl) z slc_28 z) (Qd z ((Es0 [61] z ⟨.imm (Sub.of_eq (show Ab ((decide ((a0.Sights.length:Int) > 256))||(decide ((a0.Changes.length:Int) > 256)))=Ab (decide ((a0.Changes.length:Int) > 256)) by simp only [cond_true,cond_false,Bool.true_or,Bool.false_or,Bool.true_and,Bool.false_and,Bool.or_true,Bool.or_false,Bool.and_true,Bool.and_false,hb,hb_1,hb_9])) z,u0⟩)))))
  ·rintro v3 ⟨⟩ hi h
   refine Ts (Tr (Qe 3 z (Q1 z z z (Ax.ln (cl:=icl) z slc_26 z) (Qd z (Tc (b:=(decide (v3 < (a0.Days.length:Int)))) z (fun hb_10=>?_) (fun hb_10=>?_))))))
   ·exact(lt_f hi hb_10).elim
   exact Tri.exit (Xi () (An h (E0 z)))
  rintro nx x v3 ⟨⟩ _ hi hw hx h
  refine Ts (Tr (Qe 3 z (Q1 z z z (Ax.ln (cl:=icl) z slc_26 z) (Qd z (Tc (b:=(decide (v3 < (a0.Days.length:Int)))) z (fun hb_11=>?_) (fun hb_11=>?_))))))
  ·refine Tk (Ts (Tri.block (Ts ?_)))
   obtain⟨v51,hj_3,h⟩:=bs h
   refine Tri.joinv v51 (fun(y:Bool)=>⟨[(1,.ipt (Scene.cl a0) 0),(3,Ai v3),(51,Ab y)],[]⟩) ?_ ?_
   ·refine Tc (b:=v51) z (fun hb_12=>?_) (fun hb_12=>?_)
    ·have h:=cq hb_12 h
     refine Tp z (Te ?_)
     exact Ri h z
    have h:=cw hb_12 h
    exact Tk (Tq z (Xi (v3+1,()) (An (An z h) (Es0 [3] z ⟨.imm (Sub.of_eq (show Ai (v3+1)=Ai (W (v3+1)) from congrArg Ai hw.symm)) z,u0⟩))))
   have h:=hj_3
   refine Td [[],[0],[],[0,1,2],[0,1,2,3],[0,1,2,3,4],[0,1,2,3,4,5],[0,1,2,3,4,5,6],[0,1,2,3,4,5,6,7],[0,1,2,3,4,5,6,7,8],[0,1,2,3,4,5,6,7,8,9],[0,1,2,3,4,5,6,7,8,9,10],[0,1,2,3,4,5,6,7,8,9,10,11],[0,1,2,3,4,5,6,7,8,9,10],[0,1,2,3,4,5,6,7,8,9,10,13],[0,1,2,3,4,5,6,7,8,9,10,11,12,13,14],[0,1,2,3,4,5,6,7,8,9,10,11,12,13,14,15],[0,1,2,3,4,5,6,7,8,9,10],[0,1,2,3,4,5,6,7,8,9,10,17],[0,1,2,3,4,5,6,7,8,9,10],[0,1,2,3,4,5,6,7,8,9,10,17,18,19],[0,1,2,3,4,5,6,7,8,9,10,17,18,19,20],[0,1,2,3,4,5,6,7,8,9,10,11,12,13,14,15,16,17,18,19,20,21],[0,1,2,3,4,5,6,7,8,9,10,11,12,13,14,15,16,17,18,19,20,21,22],[0,1,2,3,4,5,6,7,8,9,10,11,12,13,14,15,16,17,18,19,20,21,22,23]] hmix (by kernel_rfl) (Qe 3 z (Q1 z z z (Ax.ix (cl:=icl) z slc_26 z z hx) (Qe 1 z ?_)))
   obtain⟨x32,hc_3,h⟩:=bs h
   refine Qc z z z (args:=[Ai x,Ai 1048576]) (r:=Ab x32) (calv z z fnok_182 z) (f182_ok hc_3) z (Qe 2 z ?_)
   rcases b2 (!x32) with hb_13 | hb_13
   ·have h:=cq hb_13 h
    refine Qk 34 hb_13 z (Qe 17 z (Rx ⟨by kernel_rfl,freshL_of [] (by kernel_rfl) (by kernel_rfl),?_⟩))
    exact Xi true (An h (E0 z))
   have h:=cw hb_13 h
   refine Qk 34 hb_13 z (Qe 3 z ?_)
   rcases b2 (decide (v3 > 0)) with hb_14 | hb_14
   ·have h:=cq hb_14 h
    refine Qk 37 hb_14 z (Qe 4 z ?_)
    obtain⟨y,hy,h⟩:=bs h
    refine Q1 z z z (Ax.ix (cl:=icl) z slc_26 z z hy) (Qe 4 z (Q1 z z z (Ax.ix (cl:=icl) z slc_26 z z hx) (Qe 4 z (Rx ⟨by kernel_rfl,freshL_of [] (by kernel_rfl) (by kernel_rfl),?_⟩))))
    exact Xi (decide (y≥x)) (An h (E0 z))
   have h:=cw hb_14 h
   refine Qk 37 hb_14 z (Qe 14 z (Rx ⟨by kernel_rfl,freshL_of [] (by kernel_rfl) (by kernel_rfl),?_⟩))
   exact Xi false (An h (E0 z))
  exact(lt_t hi hb_11).elim
 refine Tri.region (Qe 2 z (Q1 z z z (Ax.ln (cl:=icl) z slc_26 z) (Qe 2 z ?_)))
 rcases b2 (decide ((a0.Days.length:Int) < 1)) with hb_15 | hb_15
 ·exact Qk 14 hb_15 z (Qd z ((Es0 [19] z ⟨.imm (Sub.of_eq (show Ab ((decide ((a0.Days.length:Int) < 1))||(decide ((a0.Days.length:Int) > 16)))=Ab true by simp only [cond_true,cond_false,Bool.true_or,Bool.false_or,Bool.true_and,Bool.false_and,Bool.or_true,Bool.or_false,Bool.and_true,Bool.and_false,hb,hb_15])) z,u0⟩)))
 exact Qk 14 hb_15 z (Qe 2 z (Q1 z z z (Ax.ln (cl:=icl) z slc_26 z) (Qd z ((Es0 [19] z ⟨.imm (Sub.of_eq (show Ab ((decide ((a0.Days.length:Int) < 1))||(decide ((a0.Days.length:Int) > 16)))=Ab (decide ((a0.Days.length:Int) > 16)) by simp only [cond_true,cond_false,Bool.true_or,Bool.false_or,Bool.true_and,Bool.false_and,Bool.or_true,Bool.or_false,Bool.and_true,Bool.and_false,hb,hb_15])) z,u0⟩)))))
theorem f106_ok {K:Nat} {a0:Scene} {r:Bool} (h:f106 K a0=some r):CallOK Tryz.prog 106 [.agg (Scene.cl a0)] [] (Ab r) []:=by
 refine Co Tryz.func106 z z (nl z) ?_
 unfold f106 at h
 refine Tp z (Ts (Tri.join1 ⟨[(2,Ab ((decide ((W ((a0.Basin.Cells.length:Int)*(a0.Days.length:Int)))≤15))&&((decide ((a0.Basin.Pairs.length:Int)≤8))&&((decide ((a0.Sights.length:Int)≤10))&&(decide ((a0.Changes.length:Int)≤10))))))],[]⟩ ?_ ?_))
 ·refine Te ?_
  exact Rb h z
 refine Tri.region (Qe 3 z (Q1 z z z (Ax.ln (cl:=Cell.cl) z slc_22 z) (Qe 2 z (Q1 z z z (Ax.ln (cl:=icl) z slc_26 z) (Qe 3 z ?_)))))
 rcases b2 (decide ((W ((a0.Basin.Cells.length:Int)*(a0.Days.length:Int)))≤15)) with hb | hb
 ·refine Qk 12 hb z (Qe 3 z (Q1 z z z (Ax.ln (cl:=Arr2_3.cl) z slc_23 z) (Qe 3 z ?_)))
  rcases b2 (decide ((a0.Basin.Pairs.length:Int)≤8)) with hb_1 | hb_1
  ·refine Qk 19 hb_1 z (Qe 2 z (Q1 z z z (Ax.ln (cl:=Sight.cl) z slc_27 z) (Qe 3 z ?_)))
   rcases b2 (decide ((a0.Sights.length:Int)≤10)) with hb_2 | hb_2
   ·exact Qk 25 hb_2 z (Qe 2 z (Q1 z z z (Ax.ln (cl:=Change.cl) z slc_28 z) (Qd z ((Es0 [2] z ⟨.imm (Sub.of_eq (show Ab ((decide ((W ((a0.Basin.Cells.length:Int)*(a0.Days.length:Int)))≤15))&&((decide ((a0.Basin.Pairs.length:Int)≤8))&&((decide ((a0.Sights.length:Int)≤10))&&(decide ((a0.Changes.length:Int)≤10)))))=Ab (decide ((a0.Changes.length:Int)≤10)) by simp only [cond_true,cond_false,Bool.true_or,Bool.false_or,Bool.true_and,Bool.false_and,Bool.or_true,Bool.or_false,Bool.and_true,Bool.and_false,hb,hb_1,hb_2])) z,u0⟩)))))
   exact Qk 25 hb_2 z (Qd z ((Es0 [2] z ⟨.imm (Sub.of_eq (show Ab ((decide ((W ((a0.Basin.Cells.length:Int)*(a0.Days.length:Int)))≤15))&&((decide ((a0.Basin.Pairs.length:Int)≤8))&&((decide ((a0.Sights.length:Int)≤10))&&(decide ((a0.Changes.length:Int)≤10)))))=Ab false by simp only [cond_true,cond_false,Bool.true_or,Bool.false_or,Bool.true_and,Bool.false_and,Bool.or_true,Bool.or_false,Bool.and_true,Bool.and_false,hb,hb_1,hb_2])) z,u0⟩)))
  exact Qk 19 hb_1 z (Qd z ((Es0 [2] z ⟨.imm (Sub.of_eq (show Ab ((decide ((W ((a0.Basin.Cells.length:Int)*(a0.Days.length:Int)))≤15))&&((decide ((a0.Basin.Pairs.length:Int)≤8))&&((decide ((a0.Sights.length:Int)≤10))&&(decide ((a0.Changes.length:Int)≤10)))))=Ab false by simp only [cond_true,cond_false,Bool.true_or,Bool.false_or,Bool.true_and,Bool.false_and,Bool.or_true,Bool.or_false,Bool.and_true,Bool.and_false,hb,hb_1])) z,u0⟩)))
 exact Qk 12 hb z (Qd z ((Es0 [2] z ⟨.imm (Sub.of_eq (show Ab ((decide ((W ((a0.Basin.Cells.length:Int)*(a0.Days.length:Int)))≤15))&&((decide ((a0.Basin.Pairs.length:Int)≤8))&&((decide ((a0.Sights.length:Int)≤10))&&(decide ((a0.Changes.length:Int)≤10)))))=Ab false by simp only [cond_true,cond_false,Bool.true_or,Bool.false_or,Bool.true_and,Bool.false_and,Bool.or_true,Bool.or_false,Bool.and_true,Bool.and_false,hb])) z,u0⟩)))
theorem f36_ok {K:Nat} {a0:Scene} {r:Bool} (h:f36 K a0=some r):CallOK Tryz.prog 36 [.agg (Scene.cl a0)] [] (Ab r) []:=by
 refine Co Tryz.func36 z z (nl z) ?_
 unfold f36 at h
 refine Tp z (Ts ?_)
 obtain⟨v2,hj,h⟩:=bs h
 refine Tri.joinv v2 (fun(y:Bool)=>⟨[(2,Ab y)],[]⟩) ?_ ?_
 ·refine Te ?_
  exact Rb h z
 have h:=hj
 refine Tri.region (Qe 1 z ?_)
 obtain⟨x4,hc,h⟩:=bs h
 refine Qc z z z (args:=[.agg (Scene.cl a0)]) (r:=Ab x4) (calv z z fnok_106 z) (f106_ok hc) z (Qe 1 z ?_)
 rcases b2 x4 with hb | hb
 ·have h:=cq hb h
  refine Qk 5 hb z (Qe 1 z ?_)
  obtain⟨x7,hc_1,h⟩:=bs h
  refine Qc z z z (args:=[.agg (Scene.cl a0)]) (r:=Ai x7) (calv z z fnok_66 z) (f66_ok hc_1) z (Qe 3 z ?_)
  rcases b2 (x7==0) with hb_1 | hb_1
  ·have h:=cq hb_1 h
   refine Qk 10 hb_1 z (Qe 1 z ?_)
   obtain⟨x12,hc_2,h⟩:=bs h
   exact Qc z z z (args:=[.agg (Scene.cl a0)]) (r:=Ai x12) (calv z z fnok_76 z) (f76_ok hc_2) z (Qd z (Xi (x12==0) (An h (E0 z))))
  have h:=cw hb_1 h
  exact Qk 10 hb_1 z (Qd z (Xi false (An h (E0 z))))
 have h:=cw hb h
 exact Qk 5 hb z (Qd z (Xi false (An h (E0 z))))
theorem f176_ok {K:Nat} {a0:Int} {a1:Int} {r:Bool} (h:f176 K a0 a1=some r):CallOK Tryz.prog 176 [Ai a0,.ipt (icl a1) 0] [] (Ab r) []:=by
 refine Co Tryz.func176 z z (nl z) ?_
 unfold f176 at h
 refine Tp z (Tp z (Te ?_))
 exact Rb h z
theorem f67_ok {K:Nat} {a0:Scene} {a1:Int} {r:Scene × Int} (h:f67 K a0 a1=some r):CallOK Tryz.prog 67 [.agg (Scene.cl a0),Ai a1] [] (.tup [.agg (Scene.cl r.1),Ai r.2]) []:=by
 refine Co Tryz.func67 z z (nl z) ?_
 unfold f67 at h
 refine Tr (Qe 2 z (Qn z z z (v:=.ptr 4 0) (x:=some (.box (Scene.cl (⟨(⟨([]:List Cell),([]:List Arr2_3),0,0,0⟩:Basin),([]:List Int),([]:List Sight),([]:List Change)⟩:Scene)))) (Al_ z z zer_30 z ⟨Sub.nil _,Sub.nil _,Sub.refl _,Sub.refl _,Sub.refl _,Sub.nil _,Sub.nil _,Sub.nil _,u0⟩) z z z z z (Qd z (Ts (Tr (Qe 1 z ?_))))))
 obtain⟨x8,hc,h⟩:=bs h
 refine Qc z z z (args:=[.agg (Scene.cl a0)]) (r:=Ai x8) (calv z z fnok_66 z) (f66_ok hc) z (Qd z (Tp z (Tc (b:=(x8 != 0)) z (fun hb=>?_) (fun hb=>?_))))
 ·have h:=cq hb h
  refine Tr (Q1 z z z (v:=.agg (Scene.cl (⟨(⟨([]:List Cell),([]:List Arr2_3),0,0,0⟩:Basin),([]:List Int),([]:List Sight),([]:List Change)⟩:Scene))) (Ab_ z zer_30 (bld plc_30 zer_30) z ⟨Sub.nil _,Sub.nil _,Sub.refl _,Sub.refl _,Sub.refl _,Sub.nil _,Sub.nil _,Sub.nil _,u0⟩) (Qe 1 z (Qs z z (x:=some (.box (Scene.cl (⟨(⟨([]:List Cell),([]:List Arr2_3),0,0,0⟩:Basin),([]:List Int),([]:List Sight),([]:List Change)⟩:Scene)))) (As z siz_30 z z z z z z z) (Qd z (Te ?_)))))
  refine Rr (fun r=>.tup [.agg (Scene.cl r.1),Ai r.2]) (fun r=>[]) [] h ?_ u0
  rfl
 have h:=cw hb h
 refine Tk (Tr (Qe 1 z ?_))
 obtain⟨x14,hc_1,h⟩:=bs h
 refine Qc z z z (args:=[.agg (Scene.cl a0)]) (r:=.agg (Scene.cl x14)) (calv z z fnok_131 z) (f131_ok hc_1) z (Q1 z z z (v:=.fn 176 [.ipt (icl a1) 0]) (Ax.func z z) ?_)
 obtain⟨x16,hc_2,h⟩:=bs h
 refine Qc z z z (args:=[.agg (Scene.cl x14),.fn 176 [.ipt (icl a1) 0]]) (r:=.agg (Scene.cl x16)) (calv z z fnok_138 z) (f138_ok fnok_176 z (fun _ _ hr=>f176_ok hr) hc_2) z (Qs z z (x:=some (.box (Scene.cl x16))) (As z siz_30 z z z z z z z) (Qd z (Te ?_)))
 refine Rr (fun r=>.tup [.agg (Scene.cl r.1),Ai r.2]) (fun r=>[]) [] h ?_ u0
 rfl
theorem f68_ok {K:Nat} {a0:Span} {a1:Span} {r:Bool} (h:f68 K a0 a1=some r):CallOK Tryz.prog 68 [.agg (Span.cl a0),.agg (Span.cl a1)] [] (Ab r) []:=by
 refine Co Tryz.func68 z z (nl z) ?_
 unfold f68 at h
 refine Tp z (Ts (Tri.join1 ⟨[(4,Ab ((decide (a1.Lo≤a0.Lo))&&(decide (a0.Hi≤a1.Hi))))],[]⟩ ?_ ?_))
 ·refine Te ?_
  exact Rb h z
 refine Tri.region (Qe 6 z ?_)
 rcases b2 (decide (a1.Lo≤a0.Lo)) with hb | hb
 ·exact Qk 10 hb z (Qd z ((Es0 [4] z ⟨.imm (Sub.of_eq (show Ab ((decide (a1.Lo≤a0.Lo))&&(decide (a0.Hi≤a1.Hi)))=Ab (decide (a0.Hi≤a1.Hi)) by simp only [cond_true,cond_false,Bool.true_or,Bool.false_or,Bool.true_and,Bool.false_and,Bool.or_true,Bool.or_false,Bool.and_true,Bool.and_false,hb])) z,u0⟩)))
 exact Qk 10 hb z (Qd z ((Es0 [4] z ⟨.imm (Sub.of_eq (show Ab ((decide (a1.Lo≤a0.Lo))&&(decide (a0.Hi≤a1.Hi)))=Ab false by simp only [cond_true,cond_false,Bool.true_or,Bool.false_or,Bool.true_and,Bool.false_and,Bool.or_true,Bool.or_false,Bool.and_true,Bool.and_false,hb])) z,u0⟩)))
theorem f11_ok {K:Nat} {a0:Scene} {a1:Sight} {a2:Int} {a3:List Int} {a4:Int} {a5:Int} {r:Bool} (h:f11 K a0 a1 a2 a3 a4 a5=some r):CallOK Tryz.prog 11 [.agg (Scene.cl a0),.agg (Sight.cl a1),Ai a2,.lst 1 (a3.map icl),Ai a4,Ai a5] [] (Ab r) []:=by
 refine Co Tryz.func11 z z (nl z) ?_
 unfold f11 at h
 refine Tp z (Ts (Tr ?_))
 obtain⟨x32,hc,h⟩:=bs h
 refine Qc z z z (args:=[]) (r:=Ab x32) (calv z z fnok_21 z) (f21_ok hc) z (Qd z (Tc (b:=(!x32)) z (fun hb=>?_) (fun hb=>?_)))
 ·have h:=cq hb h
  refine Tp z (Te ?_)
  exact Rb h z
 have h:=cw hb h
 refine Tk (Ts (Ts ?_))
 obtain⟨v41,hj_3,h⟩:=bs h
 refine Tri.joinv v41 (fun(y:Bool)=>⟨[(2,Ai a2),(3,.lst 1 (a3.map icl)),(4,Ai a4),(5,Ai a5),(6,.ipt (Scene.cl a0) 0),(7,.ipt (Sight.cl a1) 0),(41,Ab y)],[]⟩) ?_ ?_
 ·refine Tc (b:=v41) z (fun hb_1=>?_) (fun hb_1=>?_)
  ·have h:=cq hb_1 h
   refine Tp z (Te ?_)
   exact Rb h z
  have h:=cw hb_1 h
  refine Tk (Tr (Qe 2 z ?_))
  obtain⟨⟨x45_0,x45_1⟩,hc_1,h⟩:=bs h
  refine Qc z z z (args:=[.agg (Scene.cl a0),.agg (Sight.cl a1)]) (r:=.tup [.agg (Scene.cl x45_0),Ai x45_1]) (calv z z fnok_53 z) (f53_ok hc_1) z (Qe 3 z (Qn z z z (v:=.ptr 13 0) (x:=some (.box (Scene.cl (⟨(⟨([]:List Cell),([]:List Arr2_3),0,0,0⟩:Basin),([]:List Int),([]:List Sight),([]:List Change)⟩:Scene)))) (Al_ z z zer_30 z ⟨Sub.nil _,Sub.nil _,Sub.refl _,Sub.refl _,Sub.refl _,Sub.nil _,Sub.nil _,Sub.nil _,u0⟩) z z z z z (Qs z z (x:=some (.box (Scene.cl x45_0))) (As z siz_30 z z z z z z z) (Qd z (Tr (Qe 2 z ?_))))))
  obtain⟨⟨x51_0,x51_1⟩,hc_2,h⟩:=bs h
  refine Qc z z z (args:=[.agg (Scene.cl a0),Ai a2]) (r:=.tup [.agg (Scene.cl x51_0),Ai x51_1]) (calv z z fnok_67 z) (f67_ok hc_2) z (Qe 3 z (Qn z z z (v:=.ptr 15 0) (x:=some (.box (Scene.cl (⟨(⟨([]:List Cell),([]:List Arr2_3),0,0,0⟩:Basin),([]:List Int),([]:List Sight),([]:List Change)⟩:Scene)))) (Al_ z z zer_30 z ⟨Sub.nil _,Sub.nil _,Sub.refl _,Sub.refl _,Sub.refl _,Sub.nil _,Sub.nil _,Sub.nil _,u0⟩) z z z z z (Qs z z (x:=some (.box (Scene.cl x51_0))) (As z siz_30 z z z z z z z) (Qd z (Ts (Ts (Tri.join1 ⟨[(3,.lst 1 (a3.map icl)),(4,Ai a4),(5,Ai a5),(6,.ipt (Scene.cl a0) 0),(13,.ptr 13 0),(14,Ai x45_1),(15,.ptr 15 0),(63,Ab ((x51_1 != 0)||((x45_1 != 0)&&(x45_1 != 51))))],[(13,some (.box (Scene.cl x45_0))),(15,some (.box (Scene.cl x51_0)))]⟩ ?_ ?_)))))))
  ·refine Tc (b:=((x51_1 != 0)||((x45_1 != 0)&&(x45_1 != 51)))) z (fun hb_2=>?_) (fun hb_2=>?_)
   ·have h:=cq hb_2 h
    refine Tp z (Te ?_)
    exact Rb h z
   have h:=cw hb_2 h
   refine Tk (Tr (Qe 2 z (Q1 z z z (v:=.agg (Arr2_30.cl (⟨a0,x51_0⟩:Arr2_30))) (Ab_ z zer_132 (blda pla_132 zer_132) z ⟨Sub.refl _,Sub.refl _,Sub.refl _,Sub.refl _,Sub.refl _,Sub.refl _,Sub.refl _,Sub.refl _,Sub.refl _,Sub.refl _,Sub.refl _,Sub.refl _,Sub.refl _,Sub.refl _,Sub.refl _,Sub.refl _,u0⟩) (Qn z z z (v:=.hnd 67) (x:=some (.arr 132 16 (([(⟨a0,x51_0⟩:Arr2_30)]:List Arr2_30).map Arr2_30.cl))) (Ax.so (xs:=([(⟨a0,x51_0⟩:Arr2_30)]:List Arr2_30)) z z slc_133 z z ⟨Sub.refl _,Sub.refl _,Sub.refl _,Sub.refl _,Sub.refl _,Sub.refl _,Sub.refl _,Sub.refl _,Sub.refl _,Sub.refl _,Sub.refl _,Sub.refl _,Sub.refl _,Sub.refl _,Sub.refl _,Sub.refl _,u0⟩ z Arr2_30_len Arr2_30_one Arr2_30_im) z z z z z (Qd z (Ts (Tp z ?_)))))))
   obtain⟨vo17,hj_2,h⟩:=bs h
   refine Tri.joinv vo17 (fun(y:List Arr2_30)=>⟨[(3,.lst 1 (a3.map icl)),(4,Ai a4),(5,Ai a5),(17,.hnd 75)],[(75,some (.arr 132 16 (y.map Arr2_30.cl)))]⟩) ?_ ?_
   ·refine Ts (Tr (Qe 1 z (Q1 z z z (Ax.lnh (cl:=Arr2_30.cl) z slc_133 z z) (Qd z ?_))))
    obtain⟨j,hj,h⟩:=jo h
    refine Tri.rngL h (fun p=>⟨[(3,.lst 1 (a3.map icl)),(4,Ai a4),(5,Ai a5),(76,.hnd 75),(77,Ai (vo17.length:Int)),(78,Ai p.1)],[(75,some (.arr 132 16 (vo17.map Arr2_30.cl)))]⟩) (fun y=>j y=some r) (fun(y:Unit)=>⟨[],[]⟩) (Ee [75] z ⟨imf Arr2_30_im,u0⟩) ?_ ?_ ?_
    ·rintro⟨⟩ h
     subst hj
     refine Tp z (Te ?_)
     exact Rb h z
    ·rintro v78 ⟨⟩ hi h
     refine Tp z (Ts (Tc (b:=(decide (v78 < (vo17.length:Int)))) z (fun hb_3=>?_) (fun hb_3=>?_)))
     ·exact(lt_f hi hb_3).elim
     exact Tri.exit (Xi () (An h (E0 z)))
    rintro nx x v78 ⟨⟩ _ hi hw hx h
    refine Tp z (Ts (Tc (b:=(decide (v78 < (vo17.length:Int)))) z (fun hb_4=>?_) (fun hb_4=>?_)))
    ·refine Tk (Ts (Tri.block (Tr (Q1 z z z (Ax.ixh (cl:=Arr2_30.cl) z slc_133 z z z hx) (Q1 z z z (v:=.agg (Arr2_30.cl x)) (Ax.la_arr (cl:=Arr2_30.cl) z siz_132 z z hx z z) (Qn z z z (v:=.ptr 19 0) (x:=some (.box (Arr2_30.cl (⟨(⟨(⟨([]:List Cell),([]:List Arr2_3),0,0,0⟩:Basin),([]:List Int),([]:List Sight),([]:List Change)⟩:Scene),(⟨(⟨([]:List Cell),([]:List Arr2_3),0,0,0⟩:Basin),([]:List Int),([]:List Sight),([]:List Change)⟩:Scene)⟩:Arr2_30)))) (Al_ z z zer_132 z ⟨Sub.nil _,Sub.nil _,Sub.refl _,Sub.refl _,Sub.refl _,Sub.nil _,Sub.nil _,Sub.nil _,Sub.nil _,Sub.nil _,Sub.refl _,Sub.refl _,Sub.refl _,Sub.nil _,Sub.nil _,Sub.nil _,u0⟩) z z z z z (Qs z z (x:=some (.box (Arr2_30.cl x))) (As z siz_132 z z z z z z z) (Rx (Ts (Td [[],[0],[],[2],[2,3],[],[0,1,2,3,4,5],[0,1,2,3,4,5,6],[0,1,2,3,4,5,6,7],[0,1,2,3,4,5,6,7],[],[0,1,2,3,4,5,6,7,8,10],[0,1,2,3,4,5,6,7,8,9,10,11]] hmix (by kernel_rfl) (Q1 z z z (Ax.index_ptr (k:=.i64) (n:=0) z arr_132 z z z (by decide) (by decide)) (Qe 2 z ?_))))))))))))
     obtain⟨y,hy,h⟩:=bs h
     refine Q1 z z z (Ax.ix (cl:=icl) z slc_26 z z hy) (Qe 2 z ?_)
     obtain⟨⟨x89_0,x89_1⟩,hc_3,h⟩:=bs h
     refine Qc z z z (args:=[.agg (Scene.cl x.a0),Ai y,Ai a4]) (r:=.tup [.agg (Span.cl x89_0),Ai x89_1]) (calv z z fnok_33 z) (f33_ok hc_3) z (Qe 3 z (Qn z z z (v:=.ptr 20 0) (x:=some (.box (Span.cl (⟨0,0⟩:Span)))) (Al_ z z zer_49 z ⟨Sub.refl _,Sub.refl _,u0⟩) z z z z z (Qs z z (x:=some (.box (Span.cl x89_0))) (As z siz_49 z z z z z z z) (Qe 1 z (Rx ⟨by kernel_rfl,freshL_of [20] (by kernel_rfl) (by kernel_rfl),?_⟩)))))
     refine Ts (Td [[],[0],[],[2],[2,3],[],[0,1,2,3,4,5],[0,1,2,3,4,5,6],[0,1,2,3,4,5,6,7],[0,1,2,3,4,5,6,7],[],[0,1,2,3,4,5,6,7,8,10],[0,1,2,3,4,5,6,7,8,9,10,11]] hmix (by kernel_rfl) (Q1 z z z (Ax.index_ptr (k:=.i64) (n:=1) z arr_132 z z z (by decide) (by decide)) (Qe 2 z (Q1 z z z (Ax.ix (cl:=icl) z slc_26 z z hy) (Qe 2 z ?_)))))
     obtain⟨⟨x99_0,x99_1⟩,hc_4,h⟩:=bs h
     refine Qc z z z (args:=[.agg (Scene.cl x.a1),Ai y,Ai a4]) (r:=.tup [.agg (Span.cl x99_0),Ai x99_1]) (calv z z fnok_33 z) (f33_ok hc_4) z (Qe 3 z (Qn z z z (v:=.ptr 22 0) (x:=some (.box (Span.cl (⟨0,0⟩:Span)))) (Al_ z z zer_49 z ⟨Sub.refl _,Sub.refl _,u0⟩) z z z z z (Qs z z (x:=some (.box (Span.cl x99_0))) (As z siz_49 z z z z z z z) (Qe 1 z (Rx ⟨by kernel_rfl,freshL_of [22] (by kernel_rfl) (by kernel_rfl),?_⟩)))))
     refine Tr (Q1 z z z (Ax.index_ptr (k:=.i64) (n:=0) z arr_132 z z z (by decide) (by decide)) (Qe 3 z ?_))
     obtain⟨⟨x107_0,x107_1⟩,hc_5,h⟩:=bs h
     refine Qc z z z (args:=[.agg (Scene.cl x.a0),.lst 1 (a3.map icl),Ai a4]) (r:=.tup [.agg (Span.cl x107_0),Ai x107_1]) (calv z z fnok_39 z) (f39_ok hc_5) z (Qe 3 z (Qn z z z (v:=.ptr 24 0) (x:=some (.box (Span.cl (⟨0,0⟩:Span)))) (Al_ z z zer_49 z ⟨Sub.refl _,Sub.refl _,u0⟩) z z z z z (Qs z z (x:=some (.box (Span.cl x107_0))) (As z siz_49 z z z z z z z) (Qd z (Tr (Q1 z z z (Ax.index_ptr (k:=.i64) (n:=1) z arr_132 z z z (by decide) (by decide)) (Qe 3 z ?_)))))))
     obtain⟨⟨x115_0,x115_1⟩,hc_6,h⟩:=bs h
     refine Qc z z z (args:=[.agg (Scene.cl x.a1),.lst 1 (a3.map icl),Ai a4]) (r:=.tup [.agg (Span.cl x115_0),Ai x115_1]) (calv z z fnok_39 z) (f39_ok hc_6) z (Qe 3 z (Qn z z z (v:=.ptr 26 0) (x:=some (.box (Span.cl (⟨0,0⟩:Span)))) (Al_ z z zer_49 z ⟨Sub.refl _,Sub.refl _,u0⟩) z z z z z (Qs z z (x:=some (.box (Span.cl x115_0))) (As z siz_49 z z z z z z z) (Qd z (Tr (Q1 z z z (Ax.index_ptr (k:=.i64) (n:=0) z arr_132 z z z (by decide) (by decide)) (Qe 4 z ?_)))))))
     obtain⟨⟨x124_0,x124_1⟩,hc_7,h⟩:=bs h
     refine Qc z z z (args:=[.agg (Scene.cl x.a0),.lst 1 (a3.map icl),Ai a4,Ai a5]) (r:=.tup [.agg (Span.cl x124_0),Ai x124_1]) (calv z z fnok_40 z) (f40_ok hc_7) z (Qe 3 z (Qn z z z (v:=.ptr 28 0) (x:=some (.box (Span.cl (⟨0,0⟩:Span)))) (Al_ z z zer_49 z ⟨Sub.refl _,Sub.refl _,u0⟩) z z z z z (Qs z z (x:=some (.box (Span.cl x124_0))) (As z siz_49 z z z z z z z) (Qd z (Tr (Q1 z z z (Ax.index_ptr (k:=.i64) (n:=1) z arr_132 z z z (by decide) (by decide)) (Qe 4 z ?_)))))))
     obtain⟨⟨x133_0,x133_1⟩,hc_8,h⟩:=bs h
     refine Qc z z z (args:=[.agg (Scene.cl x.a1),.lst 1 (a3.map icl),Ai a4,Ai a5]) (r:=.tup [.agg (Span.cl x133_0),Ai x133_1]) (calv z z fnok_40 z) (f40_ok hc_8) z (Qe 3 z (Qn z z z (v:=.ptr 30 0) (x:=some (.box (Span.cl (⟨0,0⟩:Span)))) (Al_ z z zer_49 z ⟨Sub.refl _,Sub.refl _,u0⟩) z z z z z (Qs z z (x:=some (.box (Span.cl x133_0))) (As z siz_49 z z z z z z z) (Qd z (Ts ?_)))))
     obtain⟨v175,hj_1,h⟩:=bs h
     refine Tri.joinv v175 (fun(y:Bool)=>⟨[(3,.lst 1 (a3.map icl)),(4,Ai a4),(5,Ai a5),(76,.hnd 75),(77,Ai (vo17.length:Int)),(78,Ai v78),(175,Ab y)],[(75,some (.arr 132 16 (vo17.map Arr2_30.cl)))]⟩) ?_ ?_
     ·refine Tc (b:=v175) z (fun hb_5=>?_) (fun hb_5=>?_)
      ·have h:=cq hb_5 h
       refine Tp z (Te ?_)
       exact Rb h z
      have h:=cw hb_5 h
      exact Tk (Tq z (Xi (v78+1,()) (An (An z h) (Es [75] [78] z ⟨imf Arr2_30_im,u0⟩ ⟨.imm (Sub.of_eq (show Ai (v78+1)=Ai (W (v78+1)) from congrArg Ai hw.symm)) z,u0⟩))))
     have h:=hj_1
     refine Tri.region (Qe 3 z ?_)
     rcases b2 (x89_1==0) with hb_6 | hb_6
     ·have h:=cq hb_6 h
      refine Qk 138 hb_6 z (Qe 3 z ?_)
      rcases b2 (x99_1 != 0) with hb_7 | hb_7
      ·have h:=cq hb_7 h
       exact Qk 141 hb_7 z (Qd z (Xi true (An h (Ee [75] z ⟨imf Arr2_30_im,u0⟩))))
      have h:=cw hb_7 h
      refine Qk 141 hb_7 z (Qe 2 z ?_)
      obtain⟨x144,hc_9,h⟩:=bs h
      refine Qc z z z (args:=[.agg (Span.cl x89_0),.agg (Span.cl x99_0)]) (r:=Ab x144) (calv z z fnok_68 z) (f68_ok hc_9) z (Qe 4 z ?_)
      rcases b2 (!x144) with hb_8 | hb_8
      ·have h:=cq hb_8 h
       exact Qk 148 hb_8 z (Qd z (Xi true (An h (Ee [75] z ⟨imf Arr2_30_im,u0⟩))))
      have h:=cw hb_8 h
      refine Qk 148 hb_8 z (Qe 3 z ?_)
      rcases b2 (x107_1==0) with hb_9 | hb_9
      ·have h:=cq hb_9 h
       refine Qk 151 hb_9 z (Qe 3 z ?_)
       rcases b2 (x115_1 != 0) with hb_10 | hb_10
       ·have h:=cq hb_10 h
        exact Qk 154 hb_10 z (Qd z (Xi true (An h (Ee [75] z ⟨imf Arr2_30_im,u0⟩))))
       have h:=cw hb_10 h
       refine Qk 154 hb_10 z (Qe 2 z ?_)
       obtain⟨x157,hc_10,h⟩:=bs h
       refine Qc z z z (args:=[.agg (Span.cl x107_0),.agg (Span.cl x115_0)]) (r:=Ab x157) (calv z z fnok_68 z) (f68_ok hc_10) z (Qe 5 z ?_)
       rcases b2 (!x157) with hb_11 | hb_11
       ·have h:=cq hb_11 h
        exact Qk 162 hb_11 z (Qd z (Xi true (An h (Ee [75] z ⟨imf Arr2_30_im,u0⟩))))
       have h:=cw hb_11 h
       refine Qk 162 hb_11 z (Qe 3 z ?_)
       rcases b2 (x124_1==0) with hb_12 | hb_12
       ·have h:=cq hb_12 h
        refine Qk 165 hb_12 z (Qe 3 z ?_)
        rcases b2 (x133_1 != 0) with hb_13 | hb_13
        ·have h:=cq hb_13 h
         exact Qk 168 hb_13 z (Qd z (Xi true (An h (Ee [75] z ⟨imf Arr2_30_im,u0⟩))))
        have h:=cw hb_13 h
        refine Qk 168 hb_13 z (Qe 2 z ?_)
        obtain⟨x171,hc_11,h⟩:=bs h
        exact Qc z z z (args:=[.agg (Span.cl x124_0),.agg (Span.cl x133_0)]) (r:=Ab x171) (calv z z fnok_68 z) (f68_ok hc_11) z (Qd z (Xi (!x171) (An h (Ee [75] z ⟨imf Arr2_30_im,u0⟩))))
       have h:=cw hb_12 h
       exact Qk 165 hb_12 z (Qd z (Xi false (An h (Ee [75] z ⟨imf Arr2_30_im,u0⟩))))
      have h:=cw hb_9 h
      refine Qk 151 hb_9 z (Qe 14 z ?_)
      rcases b2 (x124_1==0) with hb_14 | hb_14
      ·have h:=cq hb_14 h
       refine Qk 165 hb_14 z (Qe 3 z ?_)
       rcases b2 (x133_1 != 0) with hb_15 | hb_15
       ·have h:=cq hb_15 h
        exact Qk 168 hb_15 z (Qd z (Xi true (An h (Ee [75] z ⟨imf Arr2_30_im,u0⟩))))
       have h:=cw hb_15 h
       refine Qk 168 hb_15 z (Qe 2 z ?_)
       obtain⟨x171_1,hc_12,h⟩:=bs h
       exact Qc z z z (args:=[.agg (Span.cl x124_0),.agg (Span.cl x133_0)]) (r:=Ab x171_1) (calv z z fnok_68 z) (f68_ok hc_12) z (Qd z (Xi (!x171_1) (An h (Ee [75] z ⟨imf Arr2_30_im,u0⟩))))
      have h:=cw hb_14 h
      exact Qk 165 hb_14 z (Qd z (Xi false (An h (Ee [75] z ⟨imf Arr2_30_im,u0⟩))))
     have h:=cw hb_6 h
     refine Qk 138 hb_6 z (Qe 13 z ?_)
     rcases b2 (x107_1==0) with hb_16 | hb_16
     ·have h:=cq hb_16 h
      refine Qk 151 hb_16 z (Qe 3 z ?_)
      rcases b2 (x115_1 != 0) with hb_17 | hb_17
      ·have h:=cq hb_17 h
       exact Qk 154 hb_17 z (Qd z (Xi true (An h (Ee [75] z ⟨imf Arr2_30_im,u0⟩))))
      have h:=cw hb_17 h
      refine Qk 154 hb_17 z (Qe 2 z ?_)
      obtain⟨x157_1,hc_13,h⟩:=bs h
      refine Qc z z z (args:=[.agg (Span.cl x107_0),.agg (Span.cl x115_0)]) (r:=Ab x157_1) (calv z z fnok_68 z) (f68_ok hc_13) z (Qe 5 z ?_)
      rcases b2 (!x157_1) with hb_18 | hb_18
      ·have h:=cq hb_18 h
       exact Qk 162 hb_18 z (Qd z (Xi true (An h (Ee [75] z ⟨imf Arr2_30_im,u0⟩))))
      have h:=cw hb_18 h
      refine Qk 162 hb_18 z (Qe 3 z ?_)
      rcases b2 (x124_1==0) with hb_19 | hb_19
      ·have h:=cq hb_19 h
       refine Qk 165 hb_19 z (Qe 3 z ?_)
       rcases b2 (x133_1 != 0) with hb_20 | hb_20
       ·have h:=cq hb_20 h
        exact Qk 168 hb_20 z (Qd z (Xi true (An h (Ee [75] z ⟨imf Arr2_30_im,u0⟩))))
       have h:=cw hb_20 h
       refine Qk 168 hb_20 z (Qe 2 z ?_)
       obtain⟨x171_2,hc_14,h⟩:=bs h
       exact Qc z z z (args:=[.agg (Span.cl x124_0),.agg (Span.cl x133_0)]) (r:=Ab x171_2) (calv z z fnok_68 z) (f68_ok hc_14) z (Qd z (Xi (!x171_2) (An h (Ee [75] z ⟨imf Arr2_30_im,u0⟩))))
      have h:=cw hb_19 h
      exact Qk 165 hb_19 z (Qd z (Xi false (An h (Ee [75] z ⟨imf Arr2_30_im,u0⟩))))
     have h:=cw hb_16 h
     refine Qk 151 hb_16 z (Qe 14 z ?_)
     rcases b2 (x124_1==0) with hb_21 | hb_21
     ·have h:=cq hb_21 h
      refine Qk 165 hb_21 z (Qe 3 z ?_)
      rcases b2 (x133_1 != 0) with hb_22 | hb_22
      ·have h:=cq hb_22 h
       exact Qk 168 hb_22 z (Qd z (Xi true (An h (Ee [75] z ⟨imf Arr2_30_im,u0⟩))))
      have h:=cw hb_22 h
      refine Qk 168 hb_22 z (Qe 2 z ?_)
      obtain⟨x171_3,hc_15,h⟩:=bs h
      exact Qc z z z (args:=[.agg (Span.cl x124_0),.agg (Span.cl x133_0)]) (r:=Ab x171_3) (calv z z fnok_68 z) (f68_ok hc_15) z (Qd z (Xi (!x171_3) (An h (Ee [75] z ⟨imf Arr2_30_im,u0⟩))))
     have h:=cw hb_21 h
     exact Qk 165 hb_21 z (Qd z (Xi false (An h (Ee [75] z ⟨imf Arr2_30_im,u0⟩))))
    exact(lt_t hi hb_4).elim
   have h:=hj_2
   refine Tc (b:=(x45_1==0)) z (fun hb_23=>?_) (fun hb_23=>?_)
   ·have h:=cq hb_23 h
    refine Tri.region (Qe 3 z (Q1 z z z (v:=.agg (Arr2_30.cl (⟨x45_0,a0⟩:Arr2_30))) (Ab_ z zer_132 (blda pla_132 zer_132) z ⟨Sub.refl _,Sub.refl _,Sub.refl _,Sub.refl _,Sub.refl _,Sub.refl _,Sub.refl _,Sub.refl _,Sub.refl _,Sub.refl _,Sub.refl _,Sub.refl _,Sub.refl _,Sub.refl _,Sub.refl _,Sub.refl _,u0⟩) (Q1 z z z (v:=.lst 16 (([(⟨x45_0,a0⟩:Arr2_30)]:List Arr2_30).map Arr2_30.cl)) (Ax.sl (xs:=([(⟨x45_0,a0⟩:Arr2_30)]:List Arr2_30)) z slc_133 z z ⟨Sub.refl _,Sub.refl _,Sub.refl _,Sub.refl _,Sub.refl _,Sub.refl _,Sub.refl _,Sub.refl _,Sub.refl _,Sub.refl _,Sub.refl _,Sub.refl _,Sub.refl _,Sub.refl _,Sub.refl _,Sub.refl _,u0⟩ z Arr2_30_len Arr2_30_one Arr2_30_im) ?_)))
    obtain⟨z75,hz,h⟩:=bs h
    exact Qa z z z (v:=.hnd 75) (x:=some (.arr 132 16 (z75.map Arr2_30.cl))) (Ax.app_l (cl:=Arr2_30.cl) z z slc_133 z z z Arr2_30_one Arr2_30_im hz z z) z z z z z (Qd z (Xi z75 (An h (Ee [75] z ⟨imf Arr2_30_im,u0⟩))))
   have h:=cw hb_23 h
   exact Tk (Xi ([(⟨a0,x51_0⟩:Arr2_30)]:List Arr2_30) (An h (Ee [67] z ⟨im_flat Arr2_30_im ([(⟨a0,x51_0⟩:Arr2_30)]:List Arr2_30),u0⟩)))
  refine Tri.region (Qe 3 z ?_)
  rcases b2 (x51_1 != 0) with hb_24 | hb_24
  ·exact Qk 56 hb_24 z (Qd z ((Es [13,15] [63] z u0 ⟨.imm (Sub.of_eq (show Ab ((x51_1 != 0)||((x45_1 != 0)&&(x45_1 != 51)))=Ab true by simp only [cond_true,cond_false,Bool.true_or,Bool.false_or,Bool.true_and,Bool.false_and,Bool.or_true,Bool.or_false,Bool.and_true,Bool.and_false,hb,hb_1,hb_24])) z,u0⟩)))
  refine Qk 56 hb_24 z (Qe 3 z ?_)
  rcases b2 (x45_1 != 0) with hb_25 | hb_25
  ·exact Qk 59 hb_25 z (Qd z ((Es [13,15] [63] z u0 ⟨.imm (Sub.of_eq (show Ab ((x51_1 != 0)||((x45_1 != 0)&&(x45_1 != 51)))=Ab (x45_1 != 51) by simp only [cond_true,cond_false,Bool.true_or,Bool.false_or,Bool.true_and,Bool.false_and,Bool.or_true,Bool.or_false,Bool.and_true,Bool.and_false,hb,hb_1,hb_24,hb_25])) z,u0⟩)))
  exact Qk 59 hb_25 z (Qd z ((Es [13,15] [63] z u0 ⟨.imm (Sub.of_eq (show Ab ((x51_1 != 0)||((x45_1 != 0)&&(x45_1 != 51)))=Ab false by simp only [cond_true,cond_false,Bool.true_or,Bool.false_or,Bool.true_and,Bool.false_and,Bool.or_true,Bool.or_false,Bool.and_true,Bool.and_false,hb,hb_1,hb_24,hb_25])) z,u0⟩)))
 have h:=hj_3
 refine Tri.region (Qe 1 z ?_)
 obtain⟨x35,hc_16,h⟩:=bs h
 refine Qc z z z (args:=[.agg (Scene.cl a0)]) (r:=Ab x35) (calv z z fnok_36 z) (f36_ok hc_16) z (Qe 2 z ?_)
 rcases b2 (!x35) with hb_26 | hb_26
 ·have h:=cq hb_26 h
  exact Qk 37 hb_26 z (Qd z (Xi true (An h (E0 z))))
 have h:=cw hb_26 h
 exact Qk 37 hb_26 z (Qe 1 z (Q1 z z z (Ax.ln (cl:=icl) z slc_26 z) (Qd z (Xi ((a3.length:Int)==0) (An h (E0 z))))))
end Go.Proofs.YthlchdnbokhclaaGreat.Ql

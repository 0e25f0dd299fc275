import Derived.Test.YthlchdnbokhclaaGreatQt
import Derived.Test.YthlchdnbokhclaaGreatQg1
import Derived.Test.YthlchdnbokhclaaGreatQg3
import Derived.Test.YthlchdnbokhclaaGreatQg2
set_option linter.all false
namespace Go.Proofs.YthlchdnbokhclaaGreat.Ql
open Go Go.Proofs
set_option maxRecDepth 100000
set_option maxHeartbeats 0
def f182 (K:Nat) (a0:Int) (a1:Int):Option (Bool):=
  some ((decide (a0≥0))&&(decide (a0≤a1)))
def f178 (K:Nat) (a0:Cell):Option (Bool):=
  Option.bind (
    (f182 K a0.No 4095).bind fun x5=>
    bif x5 then
      (f182 K a0.Height 9000).bind fun x9=>
      bif x9 then
        (f182 K a0.Aspect 7).bind fun x14=>
        bif x14 then
          bif (decide (a0.Area≥1)) then
            some (decide (a0.Area≤4096))
          else
            some false
        else
          some false
      else
        some false
    else
      some false) fun(v2:Bool)=>
  some v2
def f75 (K:Nat) (a0:Basin):Option (Int):=
  Option.bind (
    bif (decide ((a0.Cells.length:Int) < 1)) then
      some true
    else
      bif (decide ((a0.Cells.length:Int) > 12)) then
        some true
      else
        bif (decide ((a0.Pairs.length:Int) > 24)) then
          some true
        else
          (f182 K a0.Gain 65536).bind fun x27=>
          bif (!x27) then
            some true
          else
            (f182 K a0.Slack 65536).bind fun x33=>
            bif (!x33) then
              some true
            else
              (f182 K a0.Deep 65536).bind fun x39=>
              some (!x39)) fun(v41:Bool)=>
  bif v41 then
    some 50
  else
    Jo (α:=Unit→Option (Int)) (fun(_:Unit)=>
      Jo (α:=Unit→Option (Int)) (fun(_:Unit)=>
        some 0) fun(j_1:Unit→Option (Int))=>
      rngL a0.Pairs () (fun(v4:Int) (_:Unit)=>
          j_1 ()) fun nx_1 x_1 v4 (_:Unit)=>
        Option.bind (
          (f182 K x_1.a0 (W ((a0.Cells.length:Int) - 1))).bind fun x94=>
          bif (!x94) then
            some true
          else
            (f182 K x_1.a1 (W ((a0.Cells.length:Int) - 1))).bind fun x103=>
            bif (!x103) then
              some true
            else
              bif (x_1.a0==x_1.a1) then
                some true
              else
                (ix a0.Cells x_1.a0).bind fun y_1=>
                (ix a0.Cells x_1.a1).bind fun y_2=>
                some (decide (y_1.Height > y_2.Height))) fun(v129:Bool)=>
        bif v129 then
          some 50
        else
          Jo (α:=Unit→Option (Int)) (fun(_:Unit)=>
            nx_1 (v4+1) ()) fun(j_2:Unit→Option (Int))=>
          rngN 0 v4 () (fun(v6:Int) (_:Unit)=>
              j_2 ()) fun nx_2 v6 (_:Unit)=>
            (ix a0.Pairs v6).bind fun y=>
            bif (bif (y.a0==x_1.a0) then ((y.a1==x_1.a1)||((y.a0==x_1.a1)&&(y.a1==x_1.a0))) else ((y.a0==x_1.a1)&&(y.a1==x_1.a0))) then
              some 50
            else
              nx_2 (v6+1) ()) fun(j:Unit→Option (Int))=>
    rngL a0.Cells () (fun(v3:Int) (_:Unit)=>
        j ()) fun nx x v3 (_:Unit)=>
      Option.bind (
        (f178 K x).bind fun x54=>
        bif (!x54) then
          some true
        else
          bif (decide (v3 > 0)) then
            (ix a0.Cells (W (v3 - 1))).bind fun y_3=>
            some (decide (y_3.No≥x.No))
          else
            some false) fun(v75:Bool)=>
      bif v75 then
        some 50
      else
        nx (v3+1) ()
def f116 (K:Nat) (a0:Basin) (a1:Int):Option (Int):=
  Jo (α:=Unit→Option (Int)) (fun(_:Unit)=>
    some (-1)) fun(j:Unit→Option (Int))=>
  rngL a0.Cells () (fun(v5:Int) (_:Unit)=>
      j ()) fun nx x v5 (_:Unit)=>
    bif (x.No==a1) then
      some v5
    else
      nx (v5+1) ()
def f117 (K:Nat) (a0:Scene) (a1:Int):Option (Int):=
  Jo (α:=Unit→Option (Int)) (fun(_:Unit)=>
    some (-1)) fun(j:Unit→Option (Int))=>
  rngL a0.Days () (fun(v5:Int) (_:Unit)=>
      j ()) fun nx x v5 (_:Unit)=>
    bif (x==a1) then
      some v5
    else
      nx (v5+1) ()
def f181 (K:Nat) (a0:Scene) (a1:Sight):Option (Bool):=
  Option.bind (
    (f182 K a1.No 8191).bind fun x7=>
    bif x7 then
      (f116 K a0.Basin a1.Cell).bind fun x13=>
      bif (decide (x13≥0)) then
        (f117 K a0 a1.Day).bind fun x20=>
        bif (decide (x20≥0)) then
          bif (decide (a1.Lo≥0)) then
            bif (decide (a1.Lo≤a1.Hi)) then
              some (decide (a1.Hi≤65536))
            else
              some false
          else
            some false
        else
          some false
      else
        some false
    else
      some false) fun(v4:Bool)=>
  some v4
def f183 (K:Nat) (a0:Scene) (a1:Change):Option (Bool):=
  Option.bind (
    (f116 K a0.Basin a1.Cell).bind fun x9=>
    bif (decide (x9≥0)) then
      (f117 K a0 a1.From).bind fun x15=>
      bif (decide (x15≥0)) then
        (f117 K a0 a1.To).bind fun x22=>
        bif (decide (x22≥0)) then
          bif (decide (a1.From < a1.To)) then
            bif (decide (a1.Lo≥(-65536))) then
              bif (decide (a1.Lo≤a1.Hi)) then
                some (decide (a1.Hi≤65536))
              else
                some false
            else
              some false
          else
            some false
        else
          some false
      else
        some false
    else
      some false) fun(v4:Bool)=>
  some v4
def f76 (K:Nat) (a0:Scene):Option (Int):=
  (f75 K a0.Basin).bind fun x8=>
  bif (x8 != 0) then
    some 50
  else
    bif ((decide ((a0.Days.length:Int) < 1))||(decide ((a0.Days.length:Int) > 16))) then
      some 1
    else
      Jo (α:=Unit→Option (Int)) (fun(_:Unit)=>
        bif ((decide ((a0.Sights.length:Int) > 256))||(decide ((a0.Changes.length:Int) > 256))) then
          some 2
        else
          Jo (α:=Unit→Option (Int)) (fun(_:Unit)=>
            Jo (α:=Unit→Option (Int)) (fun(_:Unit)=>
              some 0) fun(j_2:Unit→Option (Int))=>
            rngL a0.Changes () (fun(v5:Int) (_:Unit)=>
                j_2 ()) fun nx_2 x_2 v5 (_:Unit)=>
              (f183 K a0 x_2).bind fun x90=>
              bif (!x90) then
                some 52
              else
                nx_2 (v5+1) ()) fun(j_1:Unit→Option (Int))=>
          rngL a0.Sights () (fun(v4:Int) (_:Unit)=>
              j_1 ()) fun nx_1 x_1 v4 (_:Unit)=>
            (f181 K a0 x_1).bind fun x75=>
            bif (!x75) then
              some 51
            else
              nx_1 (v4+1) ()) fun(j:Unit→Option (Int))=>
      rngL a0.Days () (fun(v3:Int) (_:Unit)=>
          j ()) fun nx x v3 (_:Unit)=>
        Option.bind (
          (f182 K x 1048576).bind fun x32=>
          bif (!x32) then
            some true
          else
            bif (decide (v3 > 0)) then
              (ix a0.Days (W (v3 - 1))).bind fun y=>
              some (decide (y≥x))
            else
              some false) fun(v51:Bool)=>
        bif v51 then
          some 1
        else
          nx (v3+1) ()
def f180 (K:Nat) (a0:Basin) (a1:Arr2_3):Option (Int):=
  (ix a0.Cells a1.a1).bind fun y=>
  (ix a0.Cells a1.a0).bind fun y_1=>
  some (W (a0.Slack+(W (Int.tdiv (W (a0.Gain*(W (y.Height - y_1.Height)))) 100))))
def f205 (K:Nat) (a0:Scene) (a1:Int) (a2:Int):Option (Int):=
  some (W ((W (1+(W (a2*(a0.Basin.Cells.length:Int)))))+a1))
def f106 (K:Nat) (a0:Scene):Option (Bool):=
  some ((decide ((W ((a0.Basin.Cells.length:Int)*(a0.Days.length:Int)))≤15))&&((decide ((a0.Basin.Pairs.length:Int)≤8))&&((decide ((a0.Sights.length:Int)≤10))&&(decide ((a0.Changes.length:Int)≤10)))))
def f118 (K:Nat) (a0:List Int) (a1:List Int):Option (Bool):=
  bif ((a0.length:Int) != (a1.length:Int)) then
    some false
  else
    Jo (α:=Unit→Option (Bool)) (fun(_:Unit)=>
      some true) fun(j:Unit→Option (Bool))=>
    rngL a0 () (fun(v5:Int) (_:Unit)=>
        j ()) fun nx x v5 (_:Unit)=>
      (ix a1 v5).bind fun y=>
      bif (x != y) then
        some false
      else
        nx (v5+1) ()
def f35 (K:Nat) (a0:List (List Int)) (a1:List (List Int)):Option (Bool):=
  bif ((a0.length:Int) != (a1.length:Int)) then
    some false
  else
    Jo (α:=Unit→Option (Bool)) (fun(_:Unit)=>
      some true) fun(j:Unit→Option (Bool))=>
    rngL a0 () (fun(v5:Int) (_:Unit)=>
        j ()) fun nx x v5 (_:Unit)=>
      (ix a1 v5).bind fun y=>
      (f118 K x y).bind fun x25=>
      bif (!x25) then
        some false
      else
        nx (v5+1) ()
def f36 (K:Nat) (a0:Scene):Option (Bool):=
  Option.bind (
    (f106 K a0).bind fun x4=>
    bif x4 then
      (f66 K a0).bind fun x7=>
      bif (x7==0) then
        (f76 K a0).bind fun x12=>
        some (x12==0)
      else
        some false
    else
      some false) fun(v2:Bool)=>
  some v2
def f44 (K:Nat) (a0:List Sight):Option (List Sight):=
  Option.bind (
    whl (fun nx ((vo0,v2,v3):List Sight × Int × Int)=>
      bif (decide (v2 < v3)) then
        (ix vo0 v3).bind fun y=>
        (ix vo0 v2).bind fun y_1=>
        (ix (vo0.set (Int.toNat v2) y) v3).bind fun y_2=>
        nx (((vo0.set (Int.toNat v2) y).set (Int.toNat v3) y_1),(W (v2+1)),(W (v3 - 1)))
      else
        some vo0) K (a0,0,(W ((a0.length:Int) - 1)))) fun(vok0:List Sight)=>
  some vok0
def f45 (K:Nat) (a0:List Change):Option (List Change):=
  Option.bind (
    whl (fun nx ((vo0,v2,v3):List Change × Int × Int)=>
      bif (decide (v2 < v3)) then
        (ix vo0 v3).bind fun y=>
        (ix vo0 v2).bind fun y_1=>
        (ix (vo0.set (Int.toNat v2) y) v3).bind fun y_2=>
        nx (((vo0.set (Int.toNat v2) y).set (Int.toNat v3) y_1),(W (v2+1)),(W (v3 - 1)))
      else
        some vo0) K (a0,0,(W ((a0.length:Int) - 1)))) fun(vok0:List Change)=>
  some vok0
def f6 (K:Nat) (a0:Scene) (a1:List Int) (a2:Int) (a3:Int):Option (Bool):=
  (f21 K ).bind fun x26=>
  bif (!x26) then
    some false
  else
    (f36 K a0).bind fun x29=>
    bif (!x29) then
      some true
    else
      (f42 K a0.Sights).bind fun x34=>
      (f43 K a0.Changes).bind fun x37=>
      (f44 K x34).bind fun x42=>
      (f45 K x37).bind fun x45=>
      (f29 K a0).bind fun(x48_0,x48_1)=>
      (f29 K (⟨a0.Basin,a0.Days,x42,x45⟩:Scene)).bind fun(x53_0,x53_1)=>
      (f31 K a0).bind fun(x58_0,x58_1)=>
      (f31 K (⟨a0.Basin,a0.Days,x42,x45⟩:Scene)).bind fun(x63_0,x63_1)=>
      (f40 K a0 a1 a2 a3).bind fun(x71_0,x71_1)=>
      (f40 K (⟨a0.Basin,a0.Days,x42,x45⟩:Scene) a1 a2 a3).bind fun(x79_0,x79_1)=>
      (f39 K a0 a1 a2).bind fun(x86_0,x86_1)=>
      (f39 K (⟨a0.Basin,a0.Days,x42,x45⟩:Scene) a1 a2).bind fun(x93_0,x93_1)=>
      Option.bind (
        (f35 K x48_0 x53_0).bind fun x98=>
        bif x98 then
          bif (x48_1==x53_1) then
            (f35 K x58_0 x63_0).bind fun x107=>
            bif x107 then
              bif (x58_1==x63_1) then
                bif (decide (x71_0=x79_0)) then
                  bif (x71_1==x79_1) then
                    bif (decide (x86_0=x93_0)) then
                      some (x86_1==x93_1)
                    else
                      some false
                  else
                    some false
                else
                  some false
              else
                some false
            else
              some false
          else
            some false
        else
          some false) fun(v8:Bool)=>
      some v8
theorem f118_ok {K:Nat} {a0:List Int} {a1:List Int} {r:Bool} (h:f118 K a0 a1=some r):CallOK Tryz.prog 118 [.lst 1 (a0.map icl),.lst 1 (a1.map icl)] [] (Ab r) []:=by
 refine Co Tryz.func118 z z (nl z) ?_
 unfold f118 at h
 refine Tp z (Ts (Tr (Qe 1 z (Q1 z z z (Ax.ln (cl:=icl) z slc_26 z) (Qe 1 z (Q1 z z z (Ax.ln (cl:=icl) z slc_26 z) (Qd z (Tc (b:=((a0.length:Int) != (a1.length:Int))) z (fun hb=>?_) (fun hb=>?_)))))))))
 ·have h:=cq hb h
  refine Tp z (Te ?_)
  exact Rb h z
 have h:=cw hb h
 refine Tk (Ts (Tp z ?_))
 obtain⟨j,hj,h⟩:=jo h
 refine Tri.rngL h (fun p=>⟨[(0,.lst 1 (a0.map icl)),(1,.lst 1 (a1.map icl)),(5,Ai p.1)],[]⟩) (fun y=>j y=some r) (fun(y:Unit)=>⟨[],[]⟩) (E0 z) ?_ ?_ ?_
 ·rintro⟨⟩ h
  subst hj
  refine Tp z (Te ?_)
  exact Rb h z
 ·rintro v5 ⟨⟩ hi h
  refine Ts (Tr (Qe 2 z (Q1 z z z (Ax.ln (cl:=icl) z slc_26 z) (Qd z (Tc (b:=(decide (v5 < (a0.length:Int)))) z (fun hb_1=>?_) (fun hb_1=>?_))))))
  ·exact(lt_f hi hb_1).elim
  exact Tri.exit (Xi () (An h (E0 z)))
 rintro nx x v5 ⟨⟩ _ hi hw hx h
 refine Ts (Tr (Qe 2 z (Q1 z z z (Ax.ln (cl:=icl) z slc_26 z) (Qd z (Tc (b:=(decide (v5 < (a0.length:Int)))) z (fun hb_2=>?_) (fun hb_2=>?_))))))
 ·refine Tk (Ts (Tri.block (Ts (Td [] hmix (by kernel_rfl) (Qe 2 z (Q1 z z z (Ax.ix (cl:=icl) z slc_26 z z hx) (Qe 3 z ?_)))))))
  obtain⟨y,hy,h⟩:=bs h
  refine Q1 z z z (Ax.ix (cl:=icl) z slc_26 z z hy) (Qe 2 z (Rx ⟨by kernel_rfl,freshL_of [] (by kernel_rfl) (by kernel_rfl),?_⟩))
  refine Tc (b:=(x != y)) z (fun hb_3=>?_) (fun hb_3=>?_)
  ·have h:=cq hb_3 h
   refine Tp z (Te ?_)
   exact Rb h z
  have h:=cw hb_3 h
  exact Tk (Tq z (Xi (v5+1,()) (An (An z h) (Es0 [5] z ⟨.imm (Sub.of_eq (show Ai (v5+1)=Ai (W (v5+1)) from congrArg Ai hw.symm)) z,u0⟩))))
 exact(lt_t hi hb_2).elim
theorem f35_ok {K:Nat} {a0:List (List Int)} {a1:List (List Int)} {r:Bool} (h:f35 K a0 a1=some r):CallOK Tryz.prog 35 [.lst 1 (a0.map cl26),.lst 1 (a1.map cl26)] [] (Ab r) []:=by
 refine Co Tryz.func35 z z (nl z) ?_
 unfold f35 at h
 refine Tp z (Ts (Tr (Qe 1 z (Q1 z z z (Ax.ln (cl:=cl26) z slc_44 z) (Qe 1 z (Q1 z z z (Ax.ln (cl:=cl26) z slc_44 z) (Qd z (Tc (b:=((a0.length:Int) != (a1.length:Int))) z (fun hb=>?_) (fun hb=>?_)))))))))
 ·have h:=cq hb h
  refine Tp z (Te ?_)
  exact Rb h z
 have h:=cw hb h
 refine Tk (Ts (Tp z ?_))
 obtain⟨j,hj,h⟩:=jo h
 refine Tri.rngL h (fun p=>⟨[(0,.lst 1 (a0.map cl26)),(1,.lst 1 (a1.map cl26)),(5,Ai p.1)],[]⟩) (fun y=>j y=some r) (fun(y:Unit)=>⟨[],[]⟩) (E0 z) ?_ ?_ ?_
 ·rintro⟨⟩ h
  subst hj
  refine Tp z (Te ?_)
  exact Rb h z
 ·rintro v5 ⟨⟩ hi h
  refine Ts (Tr (Qe 2 z (Q1 z z z (Ax.ln (cl:=cl26) z slc_44 z) (Qd z (Tc (b:=(decide (v5 < (a0.length:Int)))) z (fun hb_1=>?_) (fun hb_1=>?_))))))
  ·exact(lt_f hi hb_1).elim
  exact Tri.exit (Xi () (An h (E0 z)))
 rintro nx x v5 ⟨⟩ _ hi hw hx h
 refine Ts (Tr (Qe 2 z (Q1 z z z (Ax.ln (cl:=cl26) z slc_44 z) (Qd z (Tc (b:=(decide (v5 < (a0.length:Int)))) z (fun hb_2=>?_) (fun hb_2=>?_))))))
 ·refine Tk (Ts (Tri.block (Ts (Td [[],[],[0,1],[0,1,2],[],[],[4,5],[4,5,6],[0,1,2,3,4,5,6,7],[0,1,2,3,4,5,6,7,8]] hmix (by kernel_rfl) (Qe 2 z (Q1 z z z (Ax.ix (cl:=cl26) z slc_44 z z hx) (Qe 3 z ?_)))))))
  obtain⟨y,hy,h⟩:=bs h
  refine Q1 z z z (Ax.ix (cl:=cl26) z slc_44 z z hy) (Qe 1 z ?_)
  obtain⟨x25,hc,h⟩:=bs h
  refine Qc z z z (args:=[.lst 1 (x.map icl),.lst 1 (y.map icl)]) (r:=Ab x25) (calv z z fnok_118 z) (f118_ok hc) z (Qe 1 z (Rx ⟨by kernel_rfl,freshL_of [] (by kernel_rfl) (by kernel_rfl),?_⟩))
  refine Tc (b:=(!x25)) z (fun hb_3=>?_) (fun hb_3=>?_)
  ·have h:=cq hb_3 h
   refine Tp z (Te ?_)
   exact Rb h z
  have h:=cw hb_3 h
  exact Tk (Tq z (Xi (v5+1,()) (An (An z h) (Es0 [5] z ⟨.imm (Sub.of_eq (show Ai (v5+1)=Ai (W (v5+1)) from congrArg Ai hw.symm)) z,u0⟩))))
 exact(lt_t hi hb_2).elim
theorem f182_ok {K:Nat} {a0:Int} {a1:Int} {r:Bool} (h:f182 K a0 a1=some r):CallOK Tryz.prog 182 [Ai a0,Ai a1] [] (Ab r) []:=by
 refine Co Tryz.func182 z z (nl z) ?_
 unfold f182 at h
 refine Tp z (Ts (Tri.join1 ⟨[(4,Ab ((decide (a0≥0))&&(decide (a0≤a1))))],[]⟩ ?_ ?_))
 ·refine Te ?_
  exact Rb h z
 refine Tri.region (Qe 3 z ?_)
 rcases b2 (decide (a0≥0)) with hb | hb
 ·exact Qk 7 hb z (Qd z ((Es0 [4] z ⟨.imm (Sub.of_eq (show Ab ((decide (a0≥0))&&(decide (a0≤a1)))=Ab (decide (a0≤a1)) by simp only [cond_true,cond_false,Bool.true_or,Bool.false_or,Bool.true_and,Bool.false_and,Bool.or_true,Bool.or_false,Bool.and_true,Bool.and_false,hb])) z,u0⟩)))
 exact Qk 7 hb z (Qd z ((Es0 [4] z ⟨.imm (Sub.of_eq (show Ab ((decide (a0≥0))&&(decide (a0≤a1)))=Ab false by simp only [cond_true,cond_false,Bool.true_or,Bool.false_or,Bool.true_and,Bool.false_and,Bool.or_true,Bool.or_false,Bool.and_true,Bool.and_false,hb])) z,u0⟩)))
theorem f178_ok {K:Nat} {a0:Cell} {r:Bool} (h:f178 K a0=some r):CallOK Tryz.prog 178 [.agg (Cell.cl a0)] [] (Ab r) []:=by
 refine Co Tryz.func178 z z (nl z) ?_
 unfold f178 at h
 refine Tp z (Ts ?_)
 obtain⟨v2,hj,h⟩:=bs h
 refine Tri.joinv v2 (fun(y:Bool)=>⟨[(2,Ab y)],[]⟩) ?_ ?_
 ·refine Te ?_
  exact Rb h z
 have h:=hj
 refine Tri.region (Qe 2 z ?_)
 obtain⟨x5,hc,h⟩:=bs h
 refine Qc z z z (args:=[Ai a0.No,Ai 4095]) (r:=Ab x5) (calv z z fnok_182 z) (f182_ok hc) z (Qe 1 z ?_)
 rcases b2 x5 with hb | hb
 ·have h:=cq hb h
  refine Qk 6 hb z (Qe 2 z ?_)
  obtain⟨x9,hc_1,h⟩:=bs h
  refine Qc z z z (args:=[Ai a0.Height,Ai 9000]) (r:=Ab x9) (calv z z fnok_182 z) (f182_ok hc_1) z (Qe 2 z ?_)
  rcases b2 x9 with hb_1 | hb_1
  ·have h:=cq hb_1 h
   refine Qk 11 hb_1 z (Qe 2 z ?_)
   obtain⟨x14,hc_2,h⟩:=bs h
   refine Qc z z z (args:=[Ai a0.Aspect,Ai 7]) (r:=Ab x14) (calv z z fnok_182 z) (f182_ok hc_2) z (Qe 2 z ?_)
   rcases b2 x14 with hb_2 | hb_2
   ·have h:=cq hb_2 h
    refine Qk 16 hb_2 z (Qe 5 z ?_)
    rcases b2 (decide (a0.Area≥1)) with hb_3 | hb_3
    ·have h:=cq hb_3 h
     exact Qk 21 hb_3 z (Qd z (Xi (decide (a0.Area≤4096)) (An h (E0 z))))
    have h:=cw hb_3 h
    exact Qk 21 hb_3 z (Qd z (Xi false (An h (E0 z))))
   have h:=cw hb_2 h
   exact Qk 16 hb_2 z (Qd z (Xi false (An h (E0 z))))
  have h:=cw hb_1 h
  exact Qk 11 hb_1 z (Qd z (Xi false (An h (E0 z))))
 have h:=cw hb h
 exact Qk 6 hb z (Qd z (Xi false (An h (E0 z))))
theorem f75_ok {K:Nat} {a0:Basin} {r:Int} (h:f75 K a0=some r):CallOK Tryz.prog 75 [.agg (Basin.cl a0)] [] (Ai r) []:=by
 refine Co Tryz.func75 z z (nl z) ?_
 unfold f75 at h
 refine Tp z (Ts (Ts ?_))
 obtain⟨v41,hj_5,h⟩:=bs h
 refine Tri.joinv v41 (fun(y:Bool)=>⟨[(1,.ipt (Basin.cl a0) 0),(41,Ab y)],[]⟩) ?_ ?_
 ·refine Tc (b:=v41) z (fun hb=>?_) (fun hb=>?_)
  ·have h:=cq hb h
   refine Tp z (Te ?_)
   exact Ri h z
  have h:=cw hb h
  refine Tk (Ts (Tp z ?_))
  obtain⟨j,hj,h⟩:=jo h
  refine Tri.rngL h (fun p=>⟨[(1,.ipt (Basin.cl a0) 0),(3,Ai p.1)],[]⟩) (fun y=>j y=some r) (fun(y:Unit)=>⟨[(1,.ipt (Basin.cl a0) 0)],[]⟩) (E0 z) ?_ ?_ ?_
  ·rintro⟨⟩ h
   subst hj
   refine Ts (Tp z ?_)
   obtain⟨j_1,hj_1,h⟩:=jo h
   refine Tri.rngL h (fun p=>⟨[(1,.ipt (Basin.cl a0) 0),(4,Ai p.1)],[]⟩) (fun y=>j_1 y=some r) (fun(y:Unit)=>⟨[],[]⟩) (E0 z) ?_ ?_ ?_
   ·rintro⟨⟩ h
    subst hj_1
    refine Tp z (Te ?_)
    exact Ri h z
   ·rintro v4 ⟨⟩ hi_1 h
    refine Ts (Tr (Qe 3 z (Q1 z z z (Ax.ln (cl:=Arr2_3.cl) z slc_23 z) (Qd z (Tc (b:=(decide (v4 < (a0.Pairs.length:Int)))) z (fun hb_1=>?_) (fun hb_1=>?_))))))
    ·exact(lt_f hi_1 hb_1).elim
    exact Tri.exit (Xi () (An h (E0 z)))
   rintro nx_1 x_1 v4 ⟨⟩ _ hi_1 hw_1 hx_1 h
   refine Ts (Tr (Qe 3 z (Q1 z z z (Ax.ln (cl:=Arr2_3.cl) z slc_23 z) (Qd z (Tc (b:=(decide (v4 < (a0.Pairs.length:Int)))) z (fun hb_2=>?_) (fun hb_2=>?_))))))
   ·refine Tk (Ts (Tri.block (Tr (Qe 3 z (Q1 z z z (Ax.ix (cl:=Arr2_3.cl) z slc_23 z z hx_1) (Qe 1 z (Qn z z z (v:=.ptr 5 0) (x:=some (.box (Arr2_3.cl (⟨0,0⟩:Arr2_3)))) (Al_ z z zer_97 z ⟨Sub.refl _,Sub.refl _,u0⟩) z z z z z (Qs z z (x:=some (.box (Arr2_3.cl x_1))) (As z siz_97 z z z z z z z) (Rx (Ts (Ts ?_)))))))))))
    obtain⟨v129,hj_3,h⟩:=bs h
    refine Tri.joinv v129 (fun(y:Bool)=>⟨[(1,.ipt (Basin.cl a0) 0),(4,Ai v4),(5,.ptr 5 0),(129,Ab y)],[(5,some (.box (Arr2_3.cl x_1)))]⟩) ?_ ?_
    ·refine Tc (b:=v129) z (fun hb_3=>?_) (fun hb_3=>?_)
     ·have h:=cq hb_3 h
      refine Tp z (Te ?_)
      exact Ri h z
     have h:=cw hb_3 h
     refine Tk (Tp z ?_)
     obtain⟨j_2,hj_2,h⟩:=jo h
     refine Tri.rngN h (fun p=>⟨[(1,.ipt (Basin.cl a0) 0),(4,Ai v4),(5,.ptr 5 0),(6,Ai p.1)],[(5,some (.box (Arr2_3.cl x_1)))]⟩) (fun y=>j_2 y=some r) (fun(y:Unit)=>⟨[(1,.ipt (Basin.cl a0) 0),(4,Ai v4)],[]⟩) (Ee [5] z u0) ?_ ?_ ?_
     ·rintro⟨⟩ h
      subst hj_2
      exact Tq z (Xi (v4+1,()) (An (An z h) (Es0 [4] z ⟨.imm (Sub.of_eq (show Ai (v4+1)=Ai (W (v4+1)) from congrArg Ai hw_1.symm)) z,u0⟩)))
     ·rintro v6 ⟨⟩ hi_2 _ h
      refine Ts (Tp z (Tc (b:=(decide (v6 < v4))) z (fun hb_4=>?_) (fun hb_4=>?_)))
      ·exact(lt_f hi_2 hb_4).elim
      exact Tri.exit (Xi () (An h (E0 z)))
     rintro nx_2 v6 ⟨⟩ _ hi_2 hw_2 h
     refine Ts (Tp z (Tc (b:=(decide (v6 < v4))) z (fun hb_5=>?_) (fun hb_5=>?_)))
     ·refine Tk (Ts (Tri.block (Tr (Qe 3 z ?_))))
      obtain⟨y,hy,h⟩:=bs h
      refine Q1 z z z (Ax.ix (cl:=Arr2_3.cl) z slc_23 z z hy) (Qe 1 z (Qn z z z (v:=.ptr 7 0) (x:=some (.box (Arr2_3.cl (⟨0,0⟩:Arr2_3)))) (Al_ z z zer_97 z ⟨Sub.refl _,Sub.refl _,u0⟩) z z z z z (Qs z z (x:=some (.box (Arr2_3.cl y))) (As z siz_97 z z z z z z z) (Rx (Ts (Tri.join1 ⟨[(1,.ipt (Basin.cl a0) 0),(4,Ai v4),(5,.ptr 5 0),(6,Ai v6),(165,Ab (bif (y.a0==x_1.a0) then ((y.a1==x_1.a1)||((y.a0==x_1.a1)&&(y.a1==x_1.a0))) else ((y.a0==x_1.a1)&&(y.a1==x_1.a0))))],[(5,some (.box (Arr2_3.cl x_1)))]⟩ ?_ ?_))))))
      ·refine Tc (b:=(bif (y.a0==x_1.a0) then ((y.a1==x_1.a1)||((y.a0==x_1.a1)&&(y.a1==x_1.a0))) else ((y.a0==x_1.a1)&&(y.a1==x_1.a0)))) z (fun hb_6=>?_) (fun hb_6=>?_)
       ·have h:=cq hb_6 h
        refine Tp z (Te ?_)
        exact Ri h z
       have h:=cw hb_6 h
       exact Tk (Tq z (Xi (v6+1,()) (An (An z h) (Es [5] [6] z u0 ⟨.imm (Sub.of_eq (show Ai (v6+1)=Ai (W (v6+1)) from congrArg Ai hw_2.symm)) z,u0⟩))))
      refine Tri.region (Q1 z z z (Ax.index_ptr (k:=.i64) (n:=0) z arr_97 z z z (by decide) (by decide)) (Qe 1 z (Q1 z z z (Ax.index_ptr (k:=.i64) (n:=0) z arr_97 z z z (by decide) (by decide)) (Qe 3 z ?_))))
      rcases b2 (y.a0==x_1.a0) with hb_7 | hb_7
      ·refine Qk 145 hb_7 z (Q1 z z z (Ax.index_ptr (k:=.i64) (n:=1) z arr_97 z z z (by decide) (by decide)) (Qe 1 z (Q1 z z z (Ax.index_ptr (k:=.i64) (n:=1) z arr_97 z z z (by decide) (by decide)) (Qe 4 z ?_))))
       rcases b2 (y.a1==x_1.a1) with hb_8 | hb_8
       ·exact Qk 152 hb_8 z (Qd z ((Es [5] [165] z u0 ⟨.imm (Sub.of_eq (show Ab (bif (y.a0==x_1.a0) then ((y.a1==x_1.a1)||((y.a0==x_1.a1)&&(y.a1==x_1.a0))) else ((y.a0==x_1.a1)&&(y.a1==x_1.a0)))=Ab true by simp only [cond_true,cond_false,Bool.true_or,Bool.false_or,Bool.true_and,Bool.false_and,Bool.or_true,Bool.or_false,Bool.and_true,Bool.and_false,hb,hb_2,hb_3,hb_5,hb_7,hb_8])) z,u0⟩)))
       refine Qk 152 hb_8 z (Q1 z z z (Ax.index_ptr (k:=.i64) (n:=0) z arr_97 z z z (by decide) (by decide)) (Qe 1 z (Q1 z z z (Ax.index_ptr (k:=.i64) (n:=1) z arr_97 z z z (by decide) (by decide)) (Qe 3 z ?_))))
       rcases b2 (y.a0==x_1.a1) with hb_9 | hb_9
       ·exact Qk 158 hb_9 z (Q1 z z z (Ax.index_ptr (k:=.i64) (n:=1) z arr_97 z z z (by decide) (by decide)) (Qe 1 z (Q1 z z z (Ax.index_ptr (k:=.i64) (n:=0) z arr_97 z z z (by decide) (by decide)) (Qd z ((Es [5] [165] z u0 ⟨.imm (Sub.of_eq (show Ab (bif (y.a0==x_1.a0) then ((y.a1==x_1.a1)||((y.a0==x_1.a1)&&(y.a1==x_1.a0))) else ((y.a0==x_1.a1)&&(y.a1==x_1.a0)))=Ab (y.a1==x_1.a0) by simp only [cond_true,cond_false,Bool.true_or,Bool.false_or,Bool.true_and,Bool.false_and,Bool.or_true,Bool.or_false,Bool.and_true,Bool.and_false,hb,hb_2,hb_3,hb_5,hb_7,hb_8,hb_9])) z,u0⟩))))))
       exact Qk 158 hb_9 z (Qd z ((Es [5] [165] z u0 ⟨.imm (Sub.of_eq (show Ab (bif (y.a0==x_1.a0) then ((y.a1==x_1.a1)||((y.a0==x_1.a1)&&(y.a1==x_1.a0))) else ((y.a0==x_1.a1)&&(y.a1==x_1.a0)))=Ab false by simp only [cond_true,cond_false,Bool.true_or,Bool.false_or,Bool.true_and,Bool.false_and,Bool.or_true,Bool.or_false,Bool.and_true,Bool.and_false,hb,hb_2,hb_3,hb_5,hb_7,hb_8,hb_9])) z,u0⟩)))
      refine Qk 145 hb_7 z (Qe 7 z (Q1 z z z (Ax.index_ptr (k:=.i64) (n:=0) z arr_97 z z z (by decide) (by decide)) (Qe 1 z (Q1 z z z (Ax.index_ptr (k:=.i64) (n:=1) z arr_97 z z z (by decide) (by decide)) (Qe 3 z ?_)))))
      rcases b2 (y.a0==x_1.a1) with hb_10 | hb_10
      ·exact Qk 158 hb_10 z (Q1 z z z (Ax.index_ptr (k:=.i64) (n:=1) z arr_97 z z z (by decide) (by decide)) (Qe 1 z (Q1 z z z (Ax.index_ptr (k:=.i64) (n:=0) z arr_97 z z z (by decide) (by decide)) (Qd z ((Es [5] [165] z u0 ⟨.imm (Sub.of_eq (show Ab (bif (y.a0==x_1.a0) then ((y.a1==x_1.a1)||((y.a0==x_1.a1)&&(y.a1==x_1.a0))) else ((y.a0==x_1.a1)&&(y.a1==x_1.a0)))=Ab (y.a1==x_1.a0) by simp only [cond_true,cond_false,Bool.true_or,Bool.false_or,Bool.true_and,Bool.false_and,Bool.or_true,Bool.or_false,Bool.and_true,Bool.and_false,hb,hb_2,hb_3,hb_5,hb_7,hb_10])) z,u0⟩))))))
      exact Qk 158 hb_10 z (Qd z ((Es [5] [165] z u0 ⟨.imm (Sub.of_eq (show Ab (bif (y.a0==x_1.a0) then ((y.a1==x_1.a1)||((y.a0==x_1.a1)&&(y.a1==x_1.a0))) else ((y.a0==x_1.a1)&&(y.a1==x_1.a0)))=Ab false by simp only [cond_true,cond_false,Bool.true_or,Bool.false_or,Bool.true_and,Bool.false_and,Bool.or_true,Bool.or_false,Bool.and_true,Bool.and_false,hb,hb_2,hb_3,hb_5,hb_7,hb_10])) z,u0⟩)))
     exact(lt_t hi_2 hb_5).elim
    have h:=hj_3
    refine Td [[],[0],[],[2],[2,3],[2,3,4],[0,1,2,3,4,5],[0,1,2,3,4,5,6],[0,1,2,3,4,5,6,7],[0,1,2,3,4,5,6,7,8],[0,1,2,3,4,5,6,7,8,9],[0,1,2,3,4,5,6,7,8],[0,1,2,3,4,5,6,7,8,11],[0,1,2,3,4,5,6,7,8,11,12],[0,1,2,3,4,5,6,7,8,11,12,13],[0,1,2,3,4,5,6,7,8,9,10,11,12,13,14],[0,1,2,3,4,5,6,7,8,9,10,11,12,13,14,15],[0,1,2,3,4,5,6,7,8,9,10,11,12,13,14,15,16],[0,1,2,3,4,5,6,7,8,9,10,11,12,13,14,15,16,17],[0,1,2,3,4,5,6,7,8,9,10,11,12,13,14,15,16,17,18],[0,1,2,3,4,5,6,7,8,9,10,11,12,13,14,15,16,17,18,19],[0,1,2,3,4,5,6,7,8,9,10,11,12,13,14,15,16,17,18],[0,1,2,3,4,5,6,7,8,9,10,11,12,13,14,15,16,17,18,21],[0,1,2,3,4,5,6,7,8,9,10,11,12,13,14,15,16,17,18,19,20,21,22],[0,1,2,3,4,5,6,7,8,9,10,11,12,13,14,15,16,17,18,19,20,21,22,23],[0,1,2,3,4,5,6,7,8,9,10,11,12,13,14,15,16,17,18,19,20,21,22,23,24],[0,1,2,3,4,5,6,7,8,9,10,11,12,13,14,15,16,17,18,19,20,21,22,23,24,25],[0,1,2,3,4,5,6,7,8,9,10,11,12,13,14,15,16,17,18,19,20,21,22,23,24,25,26],[0,1,2,3,4,5,6,7,8,9,10,11,12,13,14,15,16,17,18,19,20,21,22,23,24,25],[0,1,2,3,4,5,6,7,8,9,10,11,12,13,14,15,16,17,18,19,20,21,22,23,24,25,28],[0,1,2,3,4,5,6,7,8,9,10,11,12,13,14,15,16,17,18,19,20,21,22,23,24,25,26,27,28,29],[0,1,2,3,4,5,6,7,8,9,10,11,12,13,14,15,16,17,18,19,20,21,22,23,24,25,26,27,28,29,30],[0,1,2,3,4,5,6,7,8,9,10,11,12,13,14,15,16,17,18,19,20,21,22,23,24,25,26,27,28,29,30,31],[0,1,2,3,4,5,6,7,8,9,10,11,12,13,14,15,16,17,18,19,20,21,22,23,24,25],[0,1,2,3,4,5,6,7,8,9,10,11,12,13,14,15,16,17,18,19,20,21,22,23,24,25,33],[0,1,2,3,4,5,6,7,8,9,10,11,12,13,14,15,16,17,18,19,20,21,22,23,24,25],[0,1,2,3,4,5,6,7,8,9,10,11,12,13,14,15,16,17,18,19,20,21,22,23,24,25,35],[0,1,2,3,4,5,6,7,8,9,10,11,12,13,14,15,16,17,18,19,20,21,22,23,24,25,33,34,35,36],[0,1,2,3,4,5,6,7,8,9,10,11,12,13,14,15,16,17,18,19,20,21,22,23,24,25,33,34,35,36,37],[0,1,2,3,4,5,6,7,8,9,10,11,12,13,14,15,16,17,18,19,20,21,22,23,24,25,33,34,35,36,37,38],[0,1,2,3,4,5,6,7,8,9,10,11,12,13,14,15,16,17,18,19,20,21,22,23,24,25,26,27,28,29,30,31,32,33,34,35,36,37,38,39],[0,1,2,3,4,5,6,7,8,9,10,11,12,13,14,15,16,17,18,19,20,21,22,23,24,25,26,27,28,29,30,31,32,33,34,35,36,37,38,39,40]] hmix (by kernel_rfl) (Q1 z z z (Ax.index_ptr (k:=.i64) (n:=0) z arr_97 z z z (by decide) (by decide)) (Qe 3 z (Q1 z z z (Ax.ln (cl:=Cell.cl) z slc_22 z) (Qe 1 z ?_))))
    obtain⟨x94,hc,h⟩:=bs h
    refine Qc z z z (args:=[Ai x_1.a0,Ai (W ((a0.Cells.length:Int) - 1))]) (r:=Ab x94) (calv z z fnok_182 z) (f182_ok hc) z (Qe 2 z ?_)
    rcases b2 (!x94) with hb_11 | hb_11
    ·have h:=cq hb_11 h
     refine Qk 96 hb_11 z (Qe 33 z (Rx ⟨by kernel_rfl,freshL_of [] (by kernel_rfl) (by kernel_rfl),?_⟩))
     exact Xi true (An h (Ee [5] z u0))
    have h:=cw hb_11 h
    refine Qk 96 hb_11 z (Q1 z z z (Ax.index_ptr (k:=.i64) (n:=1) z arr_97 z z z (by decide) (by decide)) (Qe 3 z (Q1 z z z (Ax.ln (cl:=Cell.cl) z slc_22 z) (Qe 1 z ?_))))
    obtain⟨x103,hc_1,h⟩:=bs h
    refine Qc z z z (args:=[Ai x_1.a1,Ai (W ((a0.Cells.length:Int) - 1))]) (r:=Ab x103) (calv z z fnok_182 z) (f182_ok hc_1) z (Qe 3 z ?_)
    rcases b2 (!x103) with hb_12 | hb_12
    ·have h:=cq hb_12 h
     refine Qk 106 hb_12 z (Qe 23 z (Rx ⟨by kernel_rfl,freshL_of [] (by kernel_rfl) (by kernel_rfl),?_⟩))
     exact Xi true (An h (Ee [5] z u0))
    have h:=cw hb_12 h
    refine Qk 106 hb_12 z (Q1 z z z (Ax.index_ptr (k:=.i64) (n:=0) z arr_97 z z z (by decide) (by decide)) (Qe 1 z (Q1 z z z (Ax.index_ptr (k:=.i64) (n:=1) z arr_97 z z z (by decide) (by decide)) (Qe 4 z ?_))))
    rcases b2 (x_1.a0==x_1.a1) with hb_13 | hb_13
    ·have h:=cq hb_13 h
     refine Qk 113 hb_13 z (Qe 16 z (Rx ⟨by kernel_rfl,freshL_of [] (by kernel_rfl) (by kernel_rfl),?_⟩))
     exact Xi true (An h (Ee [5] z u0))
    have h:=cw hb_13 h
    refine Qk 113 hb_13 z (Qe 2 z (Q1 z z z (Ax.index_ptr (k:=.i64) (n:=0) z arr_97 z z z (by decide) (by decide)) (Qe 1 z ?_)))
    obtain⟨y_1,hy_1,h⟩:=bs h
    refine Q1 z z z (Ax.ix (cl:=Cell.cl) z slc_22 z z hy_1) (Qe 4 z (Q1 z z z (Ax.index_ptr (k:=.i64) (n:=1) z arr_97 z z z (by decide) (by decide)) (Qe 1 z ?_)))
    obtain⟨y_2,hy_2,h⟩:=bs h
    refine Q1 z z z (Ax.ix (cl:=Cell.cl) z slc_22 z z hy_2) (Qe 4 z (Rx ⟨by kernel_rfl,freshL_of [] (by kernel_rfl) (by kernel_rfl),?_⟩))
    exact Xi (decide (y_1.Height > y_2.Height)) (An h (Ee [5] z u0))
   exact(lt_t hi_1 hb_2).elim
  ·rintro v3 ⟨⟩ hi h
   refine Ts (Tr (Qe 3 z (Q1 z z z (Ax.ln (cl:=Cell.cl) z slc_22 z) (Qd z (Tc (b:=(decide (v3 < (a0.Cells.length:Int)))) z (fun hb_14=>?_) (fun hb_14=>?_))))))
   ·exact(lt_f hi hb_14).elim
   exact Tri.exit (Xi () (An h (E0 z)))
  rintro nx x v3 ⟨⟩ _ hi hw hx h
  refine Ts (Tr (Qe 3 z (Q1 z z z (Ax.ln (cl:=Cell.cl) z slc_22 z) (Qd z (Tc (b:=(decide (v3 < (a0.Cells.length:Int)))) z (fun hb_15=>?_) (fun hb_15=>?_))))))
  ·refine Tk (Ts (Tri.block (Ts ?_)))
   obtain⟨v75,hj_4,h⟩:=bs h
   refine Tri.joinv v75 (fun(y:Bool)=>⟨[(1,.ipt (Basin.cl a0) 0),(3,Ai v3),(75,Ab y)],[]⟩) ?_ ?_
   ·refine Tc (b:=v75) z (fun hb_16=>?_) (fun hb_16=>?_)
    ·have h:=cq hb_16 h
     refine Tp z (Te ?_)
     exact Ri h z
    have h:=cw hb_16 h
    exact Tk (Tq z (Xi (v3+1,()) (An (An z h) (Es0 [3] z ⟨.imm (Sub.of_eq (show Ai (v3+1)=Ai (W (v3+1)) from congrArg Ai hw.symm)) z,u0⟩))))
   have h:=hj_4
   refine Td [[],[0],[],[0,1,2],[0,1,2,3],[0,1,2,3,4],[0,1,2,3,4,5],[0,1,2,3,4,5,6],[0,1,2,3,4,5,6,7],[0,1,2,3,4,5,6,7,8],[0,1,2,3,4,5,6,7,8,9],[0,1,2,3,4,5,6,7,8,9,10],[0,1,2,3,4,5,6,7,8,9,10,11],[0,1,2,3,4,5,6,7,8,9,10],[0,1,2,3,4,5,6,7,8,9,10,13],[0,1,2,3,4,5,6,7,8,9,10,11,12,13,14],[0,1,2,3,4,5,6,7,8,9,10,11,12,13,14,15],[0,1,2,3,4,5,6,7,8,9,10,11,12,13,14,15,16],[0,1,2,3,4,5,6,7,8,9,10],[0,1,2,3,4,5,6,7,8,9,10,18],[0,1,2,3,4,5,6,7,8,9,10],[0,1,2,3,4,5,6,7,8,9,10,18,19,20],[0,1,2,3,4,5,6,7,8,9,10,18,19,20,21],[0,1,2,3,4,5,6,7,8,9,10,18,19,20,21,22],[0,1,2,3,4,5,6,7,8,9,10,11,12,13,14,15,16,17,18,19,20,21,22,23],[0,1,2,3,4,5,6,7,8,9,10,11,12,13,14,15,16,17,18,19,20,21,22,23,24],[0,1,2,3,4,5,6,7,8,9,10,11,12,13,14,15,16,17,18,19,20,21,22,23,24,25]] hmix (by kernel_rfl) (Qe 3 z (Q1 z z z (Ax.ix (cl:=Cell.cl) z slc_22 z z hx) (Qe 1 z ?_)))
   obtain⟨x54,hc_2,h⟩:=bs h
   refine Qc z z z (args:=[.agg (Cell.cl x)]) (r:=Ab x54) (calv z z fnok_178 z) (f178_ok hc_2) z (Qe 2 z ?_)
   rcases b2 (!x54) with hb_17 | hb_17
   ·have h:=cq hb_17 h
    refine Qk 56 hb_17 z (Qe 19 z (Rx ⟨by kernel_rfl,freshL_of [] (by kernel_rfl) (by kernel_rfl),?_⟩))
    exact Xi true (An h (E0 z))
   have h:=cw hb_17 h
   refine Qk 56 hb_17 z (Qe 3 z ?_)
   rcases b2 (decide (v3 > 0)) with hb_18 | hb_18
   ·have h:=cq hb_18 h
    refine Qk 59 hb_18 z (Qe 4 z ?_)
    obtain⟨y_3,hy_3,h⟩:=bs h
    refine Q1 z z z (Ax.ix (cl:=Cell.cl) z slc_22 z z hy_3) (Qe 5 z (Q1 z z z (Ax.ix (cl:=Cell.cl) z slc_22 z z hx) (Qe 5 z (Rx ⟨by kernel_rfl,freshL_of [] (by kernel_rfl) (by kernel_rfl),?_⟩))))
    exact Xi (decide (y_3.No≥x.No)) (An h (E0 z))
   have h:=cw hb_18 h
   refine Qk 59 hb_18 z (Qe 16 z (Rx ⟨by kernel_rfl,freshL_of [] (by kernel_rfl) (by kernel_rfl),?_⟩))
   exact Xi false (An h (E0 z))
  exact(lt_t hi hb_15).elim
 have h:=hj_5
 refine Tri.region (Qe 2 z (Q1 z z z (Ax.ln (cl:=Cell.cl) z slc_22 z) (Qe 2 z ?_)))
 rcases b2 (decide ((a0.Cells.length:Int) < 1)) with hb_19 | hb_19
 ·have h:=cq hb_19 h
  exact Qk 12 hb_19 z (Qd z (Xi true (An h (E0 z))))
 have h:=cw hb_19 h
 refine Qk 12 hb_19 z (Qe 2 z (Q1 z z z (Ax.ln (cl:=Cell.cl) z slc_22 z) (Qe 3 z ?_)))
 rcases b2 (decide ((a0.Cells.length:Int) > 12)) with hb_20 | hb_20
 ·have h:=cq hb_20 h
  exact Qk 18 hb_20 z (Qd z (Xi true (An h (E0 z))))
 have h:=cw hb_20 h
 refine Qk 18 hb_20 z (Qe 2 z (Q1 z z z (Ax.ln (cl:=Arr2_3.cl) z slc_23 z) (Qe 3 z ?_)))
 rcases b2 (decide ((a0.Pairs.length:Int) > 24)) with hb_21 | hb_21
 ·have h:=cq hb_21 h
  exact Qk 24 hb_21 z (Qd z (Xi true (An h (E0 z))))
 have h:=cw hb_21 h
 refine Qk 24 hb_21 z (Qe 2 z ?_)
 obtain⟨x27,hc_3,h⟩:=bs h
 refine Qc z z z (args:=[Ai a0.Gain,Ai 65536]) (r:=Ab x27) (calv z z fnok_182 z) (f182_ok hc_3) z (Qe 3 z ?_)
 rcases b2 (!x27) with hb_22 | hb_22
 ·have h:=cq hb_22 h
  exact Qk 30 hb_22 z (Qd z (Xi true (An h (E0 z))))
 have h:=cw hb_22 h
 refine Qk 30 hb_22 z (Qe 2 z ?_)
 obtain⟨x33,hc_4,h⟩:=bs h
 refine Qc z z z (args:=[Ai a0.Slack,Ai 65536]) (r:=Ab x33) (calv z z fnok_182 z) (f182_ok hc_4) z (Qe 3 z ?_)
 rcases b2 (!x33) with hb_23 | hb_23
 ·have h:=cq hb_23 h
  exact Qk 36 hb_23 z (Qd z (Xi true (An h (E0 z))))
 have h:=cw hb_23 h
 refine Qk 36 hb_23 z (Qe 2 z ?_)
 obtain⟨x39,hc_5,h⟩:=bs h
 exact Qc z z z (args:=[Ai a0.Deep,Ai 65536]) (r:=Ab x39) (calv z z fnok_182 z) (f182_ok hc_5) z (Qd z (Xi (!x39) (An h (E0 z))))
theorem f116_ok {K:Nat} {a0:Basin} {a1:Int} {r:Int} (h:f116 K a0 a1=some r):CallOK Tryz.prog 116 [.agg (Basin.cl a0),Ai a1] [] (Ai r) []:=by
 refine Co Tryz.func116 z z (nl z) ?_
 unfold f116 at h
 refine Tp z (Ts (Tp z ?_))
 obtain⟨j,hj,h⟩:=jo h
 refine Tri.rngL h (fun p=>⟨[(1,Ai a1),(2,.ipt (Basin.cl a0) 0),(5,Ai p.1)],[]⟩) (fun y=>j y=some r) (fun(y:Unit)=>⟨[],[]⟩) (E0 z) ?_ ?_ ?_
 ·rintro⟨⟩ h
  subst hj
  refine Tp z (Te ?_)
  exact Ri h z
 ·rintro v5 ⟨⟩ hi h
  refine Ts (Tr (Qe 3 z (Q1 z z z (Ax.ln (cl:=Cell.cl) z slc_22 z) (Qd z (Tc (b:=(decide (v5 < (a0.Cells.length:Int)))) z (fun hb=>?_) (fun hb=>?_))))))
  ·exact(lt_f hi hb).elim
  exact Tri.exit (Xi () (An h (E0 z)))
 rintro nx x v5 ⟨⟩ _ hi hw hx h
 refine Ts (Tr (Qe 3 z (Q1 z z z (Ax.ln (cl:=Cell.cl) z slc_22 z) (Qd z (Tc (b:=(decide (v5 < (a0.Cells.length:Int)))) z (fun hb_1=>?_) (fun hb_1=>?_))))))
 ·refine Tk (Ts (Tri.block (Tr (Qe 3 z (Q1 z z z (Ax.ix (cl:=Cell.cl) z slc_22 z z hx) (Qd z (Tc (b:=(x.No==a1)) z (fun hb_2=>?_) (fun hb_2=>?_))))))))
  ·have h:=cq hb_2 h
   refine Tp z (Te ?_)
   exact Ri h z
  have h:=cw hb_2 h
  exact Tk (Tq z (Xi (v5+1,()) (An (An z h) (Es0 [5] z ⟨.imm (Sub.of_eq (show Ai (v5+1)=Ai (W (v5+1)) from congrArg Ai hw.symm)) z,u0⟩))))
 exact(lt_t hi hb_1).elim
theorem f117_ok {K:Nat} {a0:Scene} {a1:Int} {r:Int} (h:f117 K a0 a1=some r):CallOK Tryz.prog 117 [.agg (Scene.cl a0),Ai a1] [] (Ai r) []:=by
 refine Co Tryz.func117 z z (nl z) ?_
 unfold f117 at h
 refine Tp z (Ts (Tp z ?_))
 obtain⟨j,hj,h⟩:=jo h
 refine Tri.rngL h (fun p=>⟨[(1,Ai a1),(2,.ipt (Scene.cl a0) 0),(5,Ai p.1)],[]⟩) (fun y=>j y=some r) (fun(y:Unit)=>⟨[],[]⟩) (E0 z) ?_ ?_ ?_
 ·rintro⟨⟩ h
  subst hj
  refine Tp z (Te ?_)
  exact Ri h z
 ·rintro v5 ⟨⟩ hi h
  refine Ts (Tr (Qe 3 z (Q1 z z z (Ax.ln (cl:=icl) z slc_26 z) (Qd z (Tc (b:=(decide (v5 < (a0.Days.length:Int)))) z (fun hb=>?_) (fun hb=>?_))))))
  ·exact(lt_f hi hb).elim
  exact Tri.exit (Xi () (An h (E0 z)))
 rintro nx x v5 ⟨⟩ _ hi hw hx h
 refine Ts (Tr (Qe 3 z (Q1 z z z (Ax.ln (cl:=icl) z slc_26 z) (Qd z (Tc (b:=(decide (v5 < (a0.Days.length:Int)))) z (fun hb_1=>?_) (fun hb_1=>?_))))))
 ·refine Tk (Ts (Tri.block (Tr (Qe 3 z (Q1 z z z (Ax.ix (cl:=icl) z slc_26 z z hx) (Qd z (Tc (b:=(x==a1)) z (fun hb_2=>?_) (fun hb_2=>?_))))))))
  ·have h:=cq hb_2 h
   refine Tp z (Te ?_)
   exact Ri h z
  have h:=cw hb_2 h
  exact Tk (Tq z (Xi (v5+1,()) (An (An z h) (Es0 [5] z ⟨.imm (Sub.of_eq (show Ai (v5+1)=Ai (W (v5+1)) from congrArg Ai hw.symm)) z,u0⟩))))
 exact(lt_t hi hb_1).elim
theorem f181_ok {K:Nat} {a0:Scene} {a1:Sight} {r:Bool} (h:f181 K a0 a1=some r):CallOK Tryz.prog 181 [.agg (Scene.cl a0),.agg (Sight.cl a1)] [] (Ab r) []:=by
 refine Co Tryz.func181 z z (nl z) ?_
 unfold f181 at h
 refine Tp z (Ts ?_)
 obtain⟨v4,hj,h⟩:=bs h
 refine Tri.joinv v4 (fun(y:Bool)=>⟨[(4,Ab y)],[]⟩) ?_ ?_
 ·refine Te ?_
  exact Rb h z
 have h:=hj
 refine Tri.region (Qe 2 z ?_)
 obtain⟨x7,hc,h⟩:=bs h
 refine Qc z z z (args:=[Ai a1.No,Ai 8191]) (r:=Ab x7) (calv z z fnok_182 z) (f182_ok hc) z (Qe 1 z ?_)
 rcases b2 x7 with hb | hb
 ·have h:=cq hb h
  refine Qk 8 hb z (Qe 4 z ?_)
  obtain⟨x13,hc_1,h⟩:=bs h
  refine Qc z z z (args:=[.agg (Basin.cl a0.Basin),Ai a1.Cell]) (r:=Ai x13) (calv z z fnok_116 z) (f116_ok hc_1) z (Qe 3 z ?_)
  rcases b2 (decide (x13≥0)) with hb_1 | hb_1
  ·have h:=cq hb_1 h
   refine Qk 16 hb_1 z (Qe 3 z ?_)
   obtain⟨x20,hc_2,h⟩:=bs h
   refine Qc z z z (args:=[.agg (Scene.cl a0),Ai a1.Day]) (r:=Ai x20) (calv z z fnok_117 z) (f117_ok hc_2) z (Qe 3 z ?_)
   rcases b2 (decide (x20≥0)) with hb_2 | hb_2
   ·have h:=cq hb_2 h
    refine Qk 23 hb_2 z (Qe 5 z ?_)
    rcases b2 (decide (a1.Lo≥0)) with hb_3 | hb_3
    ·have h:=cq hb_3 h
     refine Qk 28 hb_3 z (Qe 7 z ?_)
     rcases b2 (decide (a1.Lo≤a1.Hi)) with hb_4 | hb_4
     ·have h:=cq hb_4 h
      exact Qk 35 hb_4 z (Qd z (Xi (decide (a1.Hi≤65536)) (An h (E0 z))))
     have h:=cw hb_4 h
     exact Qk 35 hb_4 z (Qd z (Xi false (An h (E0 z))))
    have h:=cw hb_3 h
    exact Qk 28 hb_3 z (Qd z (Xi false (An h (E0 z))))
   have h:=cw hb_2 h
   exact Qk 23 hb_2 z (Qd z (Xi false (An h (E0 z))))
  have h:=cw hb_1 h
  exact Qk 16 hb_1 z (Qd z (Xi false (An h (E0 z))))
 have h:=cw hb h
 exact Qk 8 hb z (Qd z (Xi false (An h (E0 z))))
theorem f183_ok {K:Nat} {a0:Scene} {a1:Change} {r:Bool} (h:f183 K a0 a1=some r):CallOK Tryz.prog 183 [.agg (Scene.cl a0),.agg (Change.cl a1)] [] (Ab r) []:=by
 refine Co Tryz.func183 z z (nl z) ?_
 unfold f183 at h
 refine Tp z (Ts ?_)
 obtain⟨v4,hj,h⟩:=bs h
 refine Tri.joinv v4 (fun(y:Bool)=>⟨[(4,Ab y)],[]⟩) ?_ ?_
 ·refine Te ?_
  exact Rb h z
 have h:=hj
 refine Tri.region (Qe 4 z ?_)
 obtain⟨x9,hc,h⟩:=bs h
 refine Qc z z z (args:=[.agg (Basin.cl a0.Basin),Ai a1.Cell]) (r:=Ai x9) (calv z z fnok_116 z) (f116_ok hc) z (Qe 2 z ?_)
 rcases b2 (decide (x9≥0)) with hb | hb
 ·have h:=cq hb h
  refine Qk 11 hb z (Qe 3 z ?_)
  obtain⟨x15,hc_1,h⟩:=bs h
  refine Qc z z z (args:=[.agg (Scene.cl a0),Ai a1.From]) (r:=Ai x15) (calv z z fnok_117 z) (f117_ok hc_1) z (Qe 3 z ?_)
  rcases b2 (decide (x15≥0)) with hb_1 | hb_1
  ·have h:=cq hb_1 h
   refine Qk 18 hb_1 z (Qe 3 z ?_)
   obtain⟨x22,hc_2,h⟩:=bs h
   refine Qc z z z (args:=[.agg (Scene.cl a0),Ai a1.To]) (r:=Ai x22) (calv z z fnok_117 z) (f117_ok hc_2) z (Qe 3 z ?_)
   rcases b2 (decide (x22≥0)) with hb_2 | hb_2
   ·have h:=cq hb_2 h
    refine Qk 25 hb_2 z (Qe 7 z ?_)
    rcases b2 (decide (a1.From < a1.To)) with hb_3 | hb_3
    ·have h:=cq hb_3 h
     refine Qk 32 hb_3 z (Qe 5 z ?_)
     rcases b2 (decide (a1.Lo≥(-65536))) with hb_4 | hb_4
     ·have h:=cq hb_4 h
      refine Qk 37 hb_4 z (Qe 7 z ?_)
      rcases b2 (decide (a1.Lo≤a1.Hi)) with hb_5 | hb_5
      ·have h:=cq hb_5 h
       exact Qk 44 hb_5 z (Qd z (Xi (decide (a1.Hi≤65536)) (An h (E0 z))))
      have h:=cw hb_5 h
      exact Qk 44 hb_5 z (Qd z (Xi false (An h (E0 z))))
     have h:=cw hb_4 h
     exact Qk 37 hb_4 z (Qd z (Xi false (An h (E0 z))))
    have h:=cw hb_3 h
    exact Qk 32 hb_3 z (Qd z (Xi false (An h (E0 z))))
   have h:=cw hb_2 h
   exact Qk 25 hb_2 z (Qd z (Xi false (An h (E0 z))))
  have h:=cw hb_1 h
  exact Qk 18 hb_1 z (Qd z (Xi false (An h (E0 z))))
 have h:=cw hb h
 exact Qk 11 hb z (Qd z (Xi false (An h (E0 z))))
theorem f76_ok {K:Nat} {a0:Scene} {r:Int} (h:f76 K a0=some r):CallOK Tryz.prog 76 [.agg (Scene.cl a0)] [] (Ai r) []:=by
 refine Co Tryz.func76 z z (nl z) ?_
 unfold f76 at h
 refine Tp z (Ts (Tr (Qe 2 z ?_)))
 obtain⟨x8,hc,h⟩:=bs h
 refine Qc z z z (args:=[.agg (Basin.cl a0.Basin)]) (r:=Ai x8) (calv z z fnok_75 z) (f75_ok hc) z (Qd z (Tc (b:=(x8 != 0)) z (fun hb=>?_) (fun hb=>?_)))
 ·have h:=cq hb h
  refine Tp z (Te ?_)
  exact Ri h z
 have h:=cw hb h
 refine Tk (Ts (Ts (Tri.join1 ⟨[(1,.ipt (Scene.cl a0) 0),(19,Ab ((decide ((a0.Days.length:Int) < 1))||(decide ((a0.Days.length:Int) > 16))))],[]⟩ ?_ ?_)))
 ·refine Tc (b:=((decide ((a0.Days.length:Int) < 1))||(decide ((a0.Days.length:Int) > 16)))) z (fun hb_1=>?_) (fun hb_1=>?_)
  ·have h:=cq hb_1 h
   refine Tp z (Te ?_)
   exact Ri h z
  have h:=cw hb_1 h
  refine Tk (Ts (Tp z ?_))
  obtain⟨j,hj,h⟩:=jo h
  refine Tri.rngL h (fun p=>⟨[(1,.ipt (Scene.cl a0) 0),(3,Ai p.1)],[]⟩) (fun y=>j y=some r) (fun(y:Unit)=>⟨[(1,.ipt (Scene.cl a0) 0)],[]⟩) (E0 z) ?_ ?_ ?_
  ·rintro⟨⟩ h
   subst hj
   refine Ts (Ts (Tri.join1 ⟨[(1,.ipt (Scene.cl a0) 0),(61,Ab ((decide ((a0.Sights.length:Int) > 256))||(decide ((a0.Changes.length:Int) > 256))))],[]⟩ ?_ ?_))
   ·refine Tc (b:=((decide ((a0.Sights.length:Int) > 256))||(decide ((a0.Changes.length:Int) > 256)))) z (fun hb_2=>?_) (fun hb_2=>?_)
    ·have h:=cq hb_2 h
     refine Tp z (Te ?_)
     exact Ri h z
    have h:=cw hb_2 h
    refine Tk (Ts (Tp z ?_))
    obtain⟨j_1,hj_1,h⟩:=jo h
    refine Tri.rngL h (fun p=>⟨[(1,.ipt (Scene.cl a0) 0),(4,Ai p.1)],[]⟩) (fun y=>j_1 y=some r) (fun(y:Unit)=>⟨[(1,.ipt (Scene.cl a0) 0)],[]⟩) (E0 z) ?_ ?_ ?_
    ·rintro⟨⟩ h
     subst hj_1
     refine Ts (Tp z ?_)
     obtain⟨j_2,hj_2,h⟩:=jo h
     refine Tri.rngL h (fun p=>⟨[(1,.ipt (Scene.cl a0) 0),(5,Ai p.1)],[]⟩) (fun y=>j_2 y=some r) (fun(y:Unit)=>⟨[],[]⟩) (E0 z) ?_ ?_ ?_
     ·rintro⟨⟩ h
      subst hj_2
      refine Tp z (Te ?_)
      exact Ri h z
     ·rintro v5 ⟨⟩ hi_2 h
      refine Ts (Tr (Qe 3 z (Q1 z z z (Ax.ln (cl:=Change.cl) z slc_28 z) (Qd z (Tc (b:=(decide (v5 < (a0.Changes.length:Int)))) z (fun hb_3=>?_) (fun hb_3=>?_))))))
      ·exact(lt_f hi_2 hb_3).elim
      exact Tri.exit (Xi () (An h (E0 z)))
     rintro nx_2 x_2 v5 ⟨⟩ _ hi_2 hw_2 hx_2 h
     refine Ts (Tr (Qe 3 z (Q1 z z z (Ax.ln (cl:=Change.cl) z slc_28 z) (Qd z (Tc (b:=(decide (v5 < (a0.Changes.length:Int)))) z (fun hb_4=>?_) (fun hb_4=>?_))))))
     ·refine Tk (Ts (Tri.block (Ts (Td [[],[],[1],[],[1,2,3],[1,2,3,4],[0,1,2,3,4,5],[0,1,2,3,4,5,6]] hmix (by kernel_rfl) (Qe 4 z (Q1 z z z (Ax.ix (cl:=Change.cl) z slc_28 z z hx_2) (Qe 1 z ?_)))))))
      obtain⟨x90,hc_1,h⟩:=bs h
      refine Qc z z z (args:=[.agg (Scene.cl a0),.agg (Change.cl x_2)]) (r:=Ab x90) (calv z z fnok_183 z) (f183_ok hc_1) z (Qe 1 z (Rx ⟨by kernel_rfl,freshL_of [] (by kernel_rfl) (by kernel_rfl),?_⟩))
      refine Tc (b:=(!x90)) z (fun hb_5=>?_) (fun hb_5=>?_)
      ·have h:=cq hb_5 h
       refine Tp z (Te ?_)
       exact Ri h z
      have h:=cw hb_5 h
      exact Tk (Tq z (Xi (v5+1,()) (An (An z h) (Es0 [5] z ⟨.imm (Sub.of_eq (show Ai (v5+1)=Ai (W (v5+1)) from congrArg Ai hw_2.symm)) z,u0⟩))))
     exact(lt_t hi_2 hb_4).elim
    ·rintro v4 ⟨⟩ hi_1 h
     refine Ts (Tr (Qe 3 z (Q1 z z z (Ax.ln (cl:=Sight.cl) z slc_27 z) (Qd z (Tc (b:=(decide (v4 < (a0.Sights.length:Int)))) z (fun hb_6=>?_) (fun hb_6=>?_))))))
     ·exact(lt_f hi_1 hb_6).elim
     exact Tri.exit (Xi () (An h (E0 z)))
    rintro nx_1 x_1 v4 ⟨⟩ _ hi_1 hw_1 hx_1 h
    refine Ts (Tr (Qe 3 z (Q1 z z z (Ax.ln (cl:=Sight.cl) z slc_27 z) (Qd z (Tc (b:=(decide (v4 < (a0.Sights.length:Int)))) z (fun hb_7=>?_) (fun hb_7=>?_))))))
    ·refine Tk (Ts (Tri.block (Ts (Td [[],[],[1],[],[1,2,3],[1,2,3,4],[0,1,2,3,4,5],[0,1,2,3,4,5,6]] hmix (by kernel_rfl) (Qe 4 z (Q1 z z z (Ax.ix (cl:=Sight.cl) z slc_27 z z hx_1) (Qe 1 z ?_)))))))
     obtain⟨x75,hc_2,h⟩:=bs h
     refine Qc z z z (args:=[.agg (Scene.cl a0),.agg (Sight.cl x_1)]) (r:=Ab x75) (calv z z fnok_181 z) (f181_ok hc_2) z (Qe 1 z (Rx ⟨by kernel_rfl,freshL_of [] (by kernel_rfl) (by kernel_rfl),?_⟩))
     refine Tc (b:=(!x75)) z (fun hb_8=>?_) (fun hb_8=>?_)
     ·have h:=cq hb_8 h
      refine Tp z (Te ?_)
      exact Ri h z
     have h:=cw hb_8 h
     exact Tk (Tq z (Xi (v4+1,()) (An (An z h) (Es0 [4] z ⟨.imm (Sub.of_eq (show Ai (v4+1)=Ai (W (v4+1)) from congrArg Ai hw_1.symm)) z,u0⟩))))
    exact(lt_t hi_1 hb_7).elim
   refine Tri.region (Qe 2 z (Q1 z z z (Ax.ln (cl:=Sight.cl) z slc_27 z) (Qe 2 z ?_)))
   rcases b2 (decide ((a0.Sights.length:Int) > 256)) with hb_9 | hb_9
   ·exact Qk 56 hb_9 z (Qd z ((Es0 [61] z ⟨.imm (Sub.of_eq (show Ab ((decide ((a0.Sights.length:Int) > 256))||(decide ((a0.Changes.length:Int) > 256)))=Ab true by simp only [cond_true,cond_false,Bool.true_or,Bool.false_or,Bool.true_and,Bool.false_and,Bool.or_true,Bool.or_false,Bool.and_true,Bool.and_false,hb,hb_1,hb_9])) z,u0⟩)))
   exact Qk 56 hb_9 z (Qe 2 z (Q1 z z z (Ax.ln (cl:=Change.cl) z slc_28 z) (Qd z ((Es0 [61] z ⟨.imm (Sub.of_eq (show Ab ((decide ((a0.Sights.length:Int) > 256))||(decide ((a0.Changes.length:Int) > 256)))=Ab (decide ((a0.Changes.length:Int) > 256)) by simp only [cond_true,cond_false,Bool.true_or,Bool.false_or,Bool.true_and,Bool.false_and,Bool.or_true,Bool.or_false,Bool.and_true,Bool.and_false,hb,hb_1,hb_9])) z,u0⟩)))))
  ·rintro v3 ⟨⟩ hi h
   refine Ts (Tr (Qe 3 z (Q1 z z z (Ax.ln (cl:=icl) z slc_26 z) (Qd z (Tc (b:=(decide (v3 < (a0.Days.length:Int)))) z (fun hb_10=>?_) (fun hb_10=>?_))))))
   ·exact(lt_f hi hb_10).elim
   exact Tri.exit (Xi () (An h (E0 z)))
  rintro nx x v3 ⟨⟩ _ hi hw hx h
  refine Ts (Tr (Qe 3 z (Q1 z z z (Ax.ln (cl:=icl) z slc_26 z) (Qd z (Tc (b:=(decide (v3 < (a0.Days.length:Int)))) z (fun hb_11=>?_) (fun hb_11=>?_))))))
  ·refine Tk (Ts (Tri.block (Ts ?_)))
   obtain⟨v51,hj_3,h⟩:=bs h
   refine Tri.joinv v51 (fun(y:Bool)=>⟨[(1,.ipt (Scene.cl a0) 0),(3,Ai v3),(51,Ab y)],[]⟩) ?_ ?_
   ·refine Tc (b:=v51) z (fun hb_12=>?_) (fun hb_12=>?_)
    ·have h:=cq hb_12 h
     refine Tp z (Te ?_)
     exact Ri h z
    have h:=cw hb_12 h
    exact Tk (Tq z (Xi (v3+1,()) (An (An z h) (Es0 [3] z ⟨.imm (Sub.of_eq (show Ai (v3+1)=Ai (W (v3+1)) from congrArg Ai hw.symm)) z,u0⟩))))
   have h:=hj_3
   refine Td [[],[0],[],[0,1,2],[0,1,2,3],[0,1,2,3,4],[0,1,2,3,4,5],[0,1,2,3,4,5,6],[0,1,2,3,4,5,6,7],[0,1,2,3,4,5,6,7,8],[0,1,2,3,4,5,6,7,8,9],[0,1,2,3,4,5,6,7,8,9,10],[0,1,2,3,4,5,6,7,8,9,10,11],[0,1,2,3,4,5,6,7,8,9,10],[0,1,2,3,4,5,6,7,8,9,10,13],[0,1,2,3,4,5,6,7,8,9,10,11,12,13,14],[0,1,2,3,4,5,6,7,8,9,10,11,12,13,14,15],[0,1,2,3,4,5,6,7,8,9,10],[0,1,2,3,4,5,6,7,8,9,10,17],[0,1,2,3,4,5,6,7,8,9,10],[0,1,2,3,4,5,6,7,8,9,10,17,18,19],[0,1,2,3,4,5,6,7,8,9,10,17,18,19,20],[0,1,2,3,4,5,6,7,8,9,10,11,12,13,14,15,16,17,18,19,20,21],[0,1,2,3,4,5,6,7,8,9,10,11,12,13,14,15,16,17,18,19,20,21,22],[0,1,2,3,4,5,6,7,8,9,10,11,12,13,14,15,16,17,18,19,20,21,22,23]] hmix (by kernel_rfl) (Qe 3 z (Q1 z z z (Ax.ix (cl:=icl) z slc_26 z z hx) (Qe 1 z ?_)))
   obtain⟨x32,hc_3,h⟩:=bs h
   refine Qc z z z (args:=[Ai x,Ai 1048576]) (r:=Ab x32) (calv z z fnok_182 z) (f182_ok hc_3) z (Qe 2 z ?_)
   rcases b2 (!x32) with hb_13 | hb_13
   ·have h:=cq hb_13 h
    refine Qk 34 hb_13 z (Qe 17 z (Rx ⟨by kernel_rfl,freshL_of [] (by kernel_rfl) (by kernel_rfl),?_⟩))
    exact Xi true (An h (E0 z))
   have h:=cw hb_13 h
   refine Qk 34 hb_13 z (Qe 3 z ?_)
   rcases b2 (decide (v3 > 0)) with hb_14 | hb_14
   ·have h:=cq hb_14 h
    refine Qk 37 hb_14 z (Qe 4 z ?_)
    obtain⟨y,hy,h⟩:=bs h
    refine Q1 z z z (Ax.ix (cl:=icl) z slc_26 z z hy) (Qe 4 z (Q1 z z z (Ax.ix (cl:=icl) z slc_26 z z hx) (Qe 4 z (Rx ⟨by kernel_rfl,freshL_of [] (by kernel_rfl) (by kernel_rfl),?_⟩))))
    exact Xi (decide (y≥x)) (An h (E0 z))
   have h:=cw hb_14 h
   refine Qk 37 hb_14 z (Qe 14 z (Rx ⟨by kernel_rfl,freshL_of [] (by kernel_rfl) (by kernel_rfl),?_⟩))
   exact Xi false (An h (E0 z))
  exact(lt_t hi hb_11).elim
 refine Tri.region (Qe 2 z (Q1 z z z (Ax.ln (cl:=icl) z slc_26 z) (Qe 2 z ?_)))
 rcases b2 (decide ((a0.Days.length:Int) < 1)) with hb_15 | hb_15
 ·exact Qk 14 hb_15 z (Qd z ((Es0 [19] z ⟨.imm (Sub.of_eq (show Ab ((decide ((a0.Days.length:Int) < 1))||(decide ((a0.Days.length:Int) > 16)))=Ab true by simp only [cond_true,cond_false,Bool.true_or,Bool.false_or,Bool.true_and,Bool.false_and,Bool.or_true,Bool.or_false,Bool.and_true,Bool.and_false,hb,hb_15])) z,u0⟩)))
 exact Qk 14 hb_15 z (Qe 2 z (Q1 z z z (Ax.ln (cl:=icl) z slc_26 z) (Qd z ((Es0 [19] z ⟨.imm (Sub.of_eq (show Ab ((decide ((a0.Days.length:Int) < 1))||(decide ((a0.Days.length:Int) > 16)))=Ab (decide ((a0.Days.length:Int) > 16)) by simp only [cond_true,cond_false,Bool.true_or,Bool.false_or,Bool.true_and,Bool.false_and,Bool.or_true,Bool.or_false,Bool.and_true,Bool.and_false,hb,hb_15])) z,u0⟩)))))
theorem f106_ok {K:Nat} {a0:Scene} {r:Bool} (h:f106 K a0=some r):CallOK Tryz.prog 106 [.agg (Scene.cl a0)] [] (Ab r) []:=by
 refine Co Tryz.func106 z z (nl z) ?_
 unfold f106 at h
 refine Tp z (Ts (Tri.join1 ⟨[(2,Ab ((decide ((W ((a0.Basin.Cells.length:Int)*(a0.Days.length:Int)))≤15))&&((decide ((a0.Basin.Pairs.length:Int)≤8))&&((decide ((a0.Sights.length:Int)≤10))&&(decide ((a0.Changes.length:Int)≤10))))))],[]⟩ ?_ ?_))
 ·refine Te ?_
  exact Rb h z
 refine Tri.region (Qe 3 z (Q1 z z z (Ax.ln (cl:=Cell.cl) z slc_22 z) (Qe 2 z (Q1 z z z (Ax.ln (cl:=icl) z slc_26 z) (Qe 3 z ?_)))))
 rcases b2 (decide ((W ((a0.Basin.Cells.length:Int)*(a0.Days.length:Int)))≤15)) with hb | hb
 ·refine Qk 12 hb z (Qe 3 z (Q1 z z z (Ax.ln (cl:=Arr2_3.cl) z slc_23 z) (Qe 3 z ?_)))
  rcases b2 (decide ((a0.Basin.Pairs.length:Int)≤8)) with hb_1 | hb_1
  ·refine Qk 19 hb_1 z (Qe 2 z (Q1 z z z (Ax.ln (cl:=Sight.cl) z slc_27 z) (Qe 3 z ?_)))
   rcases b2 (decide ((a0.Sights.length:Int)≤10)) with hb_2 | hb_2
   ·exact Qk 25 hb_2 z (Qe 2 z (Q1 z z z (Ax.ln (cl:=Change.cl) z slc_28 z) (Qd z ((Es0 [2] z ⟨.imm (Sub.of_eq (show Ab ((decide ((W ((a0.Basin.Cells.length:Int)*(a0.Days.length:Int)))≤15))&&((decide ((a0.Basin.Pairs.length:Int)≤8))&&((decide ((a0.Sights.length:Int)≤10))&&(decide ((a0.Changes.length:Int)≤10)))))=Ab (decide ((a0.Changes.length:Int)≤10)) by simp only [cond_true,cond_false,Bool.true_or,Bool.false_or,Bool.true_and,Bool.false_and,Bool.or_true,Bool.or_false,Bool.and_true,Bool.and_false,hb,hb_1,hb_2])) z,u0⟩)))))
   exact Qk 25 hb_2 z (Qd z ((Es0 [2] z ⟨.imm (Sub.of_eq (show Ab ((decide ((W ((a0.Basin.Cells.length:Int)*(a0.Days.length:Int)))≤15))&&((decide ((a0.Basin.Pairs.length:Int)≤8))&&((decide ((a0.Sights.length:Int)≤10))&&(decide ((a0.Changes.length:Int)≤10)))))=Ab false by simp only [cond_true,cond_false,Bool.true_or,Bool.false_or,Bool.true_and,Bool.false_and,Bool.or_true,Bool.or_false,Bool.and_true,Bool.and_false,hb,hb_1,hb_2])) z,u0⟩)))
  exact Qk 19 hb_1 z (Qd z ((Es0 [2] z ⟨.imm (Sub.of_eq (show Ab ((decide ((W ((a0.Basin.Cells.length:Int)*(a0.Days.length:Int)))≤15))&&((decide ((a0.Basin.Pairs.length:Int)≤8))&&((decide ((a0.Sights.length:Int)≤10))&&(decide ((a0.Changes.length:Int)≤10)))))=Ab false by simp only [cond_true,cond_false,Bool.true_or,Bool.false_or,Bool.true_and,Bool.false_and,Bool.or_true,Bool.or_false,Bool.and_true,Bool.and_false,hb,hb_1])) z,u0⟩)))
 exact Qk 12 hb z (Qd z ((Es0 [2] z ⟨.imm (Sub.of_eq (show Ab ((decide ((W ((a0.Basin.Cells.length:Int)*(a0.Days.length:Int)))≤15))&&((decide ((a0.Basin.Pairs.length:Int)≤8))&&((decide ((a0.Sights.length:Int)≤10))&&(decide ((a0.Changes.length:Int)≤10)))))=Ab false by simp only [cond_true,cond_false,Bool.true_or,Bool.false_or,Bool.true_and,Bool.false_and,Bool.or_true,Bool.or_false,Bool.and_true,Bool.and_false,hb])) z,u0⟩)))
theorem f36_ok {K:Nat} {a0:Scene} {r:Bool} (h:f36 K a0=some r):CallOK Tryz.prog 36 [.agg (Scene.cl a0)] [] (Ab r) []:=by
 refine Co Tryz.func36 z z (nl z) ?_
 unfold f36 at h
 refine Tp z (Ts ?_)
 obtain⟨v2,hj,h⟩:=bs h
 refine Tri.joinv v2 (fun(y:Bool)=>⟨[(2,Ab y)],[]⟩) ?_ ?_
 ·refine Te ?_
  exact Rb h z
 have h:=hj
 refine Tri.region (Qe 1 z ?_)
 obtain⟨x4,hc,h⟩:=bs h
 refine Qc z z z (args:=[.agg (Scene.cl a0)]) (r:=Ab x4) (calv z z fnok_106 z) (f106_ok hc) z (Qe 1 z ?_)
 rcases b2 x4 with hb | hb
 ·have h:=cq hb h
  refine Qk 5 hb z (Qe 1 z ?_)
  obtain⟨x7,hc_1,h⟩:=bs h
  refine Qc z z z (args:=[.agg (Scene.cl a0)]) (r:=Ai x7) (calv z z fnok_66 z) (f66_ok hc_1) z (Qe 3 z ?_)
  rcases b2 (x7==0) with hb_1 | hb_1
  ·have h:=cq hb_1 h
   refine Qk 10 hb_1 z (Qe 1 z ?_)
   obtain⟨x12,hc_2,h⟩:=bs h
   exact Qc z z z (args:=[.agg (Scene.cl a0)]) (r:=Ai x12) (calv z z fnok_76 z) (f76_ok hc_2) z (Qd z (Xi (x12==0) (An h (E0 z))))
  have h:=cw hb_1 h
  exact Qk 10 hb_1 z (Qd z (Xi false (An h (E0 z))))
 have h:=cw hb h
 exact Qk 5 hb z (Qd z (Xi false (An h (E0 z))))
theorem f44_ok {K:Nat} {a0:List Sight} {r:List Sight} (h:f44 K a0=some r):CallOK Tryz.prog 44 [.hnd 20270000] [(20270000,.arr 64 5 (a0.map Sight.cl))] (.tup []) [(20270000,.arr 64 5 (r.map Sight.cl))]:=by
 refine Co Tryz.func44 z z (nl z) ?_
 unfold f44 at h
 refine Tr (Qe 1 z (Q1 z z z (Ax.lnh (cl:=Sight.cl) z slc_27 z z) (Qd z ?_)))
 obtain⟨vok0,hj,h⟩:=bs h
 refine Tri.whlv hj (fun p=>⟨[(0,.hnd 20270000),(2,Ai p.2.1),(3,Ai p.2.2)],[(20270000,some (.arr 64 5 (p.1.map Sight.cl)))]⟩) (fun(y:List Sight)=>⟨[],[(20270000,some (.arr 64 5 (y.map Sight.cl)))]⟩) (Ee [20270000] z ⟨imf Sight_im,u0⟩) ?_ ?_
 ·refine RetQ.eq2 (fun r=>.tup []) (fun r=>[(20270000,.arr 64 5 (r.map Sight.cl))]) (Option.some.inj h) ?_
  exact RetQ.mk (vs:=[]) (.inl z) z [] [(20270000,20270000,.arr 64 5 (vok0.map Sight.cl))] z z ⟨⟨_,z,.arr (im_flat Sight_im vok0)⟩,u0⟩ (.tupV u0)
 rintro nx ⟨vo0,v2,v3⟩ h
 refine Ts (Tp z (Tc (b:=(decide (v2 < v3))) z (fun hb=>?_) (fun hb=>?_)))
 ·have h:=cq hb h
  refine Tk (Ts (Tri.block (Td [[],[],[],[],[],[],[4,5],[4,5,6],[],[],[8,9],[8,9,10],[0,1,4,5,6,7,8,9,10,11],[0,1,4,5,6,7,8,9,10,11,12],[0,1,2,3,4,5,6,7,8,9,10,11,12,13],[0,1,2,3,4,5,6,7,8,9,10,11,12,13,14]] hmix (by kernel_rfl) (Qe 6 z ?_))))
  obtain⟨y,hy,h⟩:=bs h
  refine Q1 z z z (Ax.ixh (cl:=Sight.cl) z slc_27 z z z hy) (Q1 z z z (v:=.agg (Sight.cl y)) (Ax.la_arr (cl:=Sight.cl) z siz_64 z z hy z z) (Qe 2 z ?_))
  obtain⟨y_1,hy_1,h⟩:=bs h
  refine Q1 z z z (Ax.ixh (cl:=Sight.cl) z slc_27 z z z hy_1) (Q1 z z z (v:=.agg (Sight.cl y_1)) (Ax.la_arr (cl:=Sight.cl) z siz_64 z z hy_1 z z) (Q1 z z z (Ax.ixh (cl:=Sight.cl) z slc_27 z z z hy_1) (Qs z z (x:=some (.arr 64 5 ((vo0.set (Int.toNat v2) y).map Sight.cl))) (Ax.st_arr (cl:=Sight.cl) (q:=y) z siz_64 z z hy_1 z z z z z z) ?_)))
  obtain⟨y_2,hy_2,h⟩:=bs h
  refine Q1 z z z (Ax.ixh (cl:=Sight.cl) z slc_27 z z z hy_2) (Qs z z (x:=some (.arr 64 5 (((vo0.set (Int.toNat v2) y).set (Int.toNat v3) y_1).map Sight.cl))) (Ax.st_arr (cl:=Sight.cl) (q:=y_1) z siz_64 z z hy_2 z z z z z z) (Rx ⟨by kernel_rfl,freshL_of [] (by kernel_rfl) (by kernel_rfl),?_⟩))
  exact Tq z (Xi (((vo0.set (Int.toNat v2) y).set (Int.toNat v3) y_1),(W (v2+1)),(W (v3 - 1))) (An h (Ee [20270000] z ⟨imf Sight_im,u0⟩)))
 have h:=cw hb h
 exact Tri.exit (Xi vo0 (An h (Ee [20270000] z ⟨imf Sight_im,u0⟩)))
theorem f45_ok {K:Nat} {a0:List Change} {r:List Change} (h:f45 K a0=some r):CallOK Tryz.prog 45 [.hnd 20280000] [(20280000,.arr 67 5 (a0.map Change.cl))] (.tup []) [(20280000,.arr 67 5 (r.map Change.cl))]:=by
 refine Co Tryz.func45 z z (nl z) ?_
 unfold f45 at h
 refine Tr (Qe 1 z (Q1 z z z (Ax.lnh (cl:=Change.cl) z slc_28 z z) (Qd z ?_)))
 obtain⟨vok0,hj,h⟩:=bs h
 refine Tri.whlv hj (fun p=>⟨[(0,.hnd 20280000),(2,Ai p.2.1),(3,Ai p.2.2)],[(20280000,some (.arr 67 5 (p.1.map Change.cl)))]⟩) (fun(y:List Change)=>⟨[],[(20280000,some (.arr 67 5 (y.map Change.cl)))]⟩) (Ee [20280000] z ⟨imf Change_im,u0⟩) ?_ ?_
 ·refine RetQ.eq2 (fun r=>.tup []) (fun r=>[(20280000,.arr 67 5 (r.map Change.cl))]) (Option.some.inj h) ?_
  exact RetQ.mk (vs:=[]) (.inl z) z [] [(20280000,20280000,.arr 67 5 (vok0.map Change.cl))] z z ⟨⟨_,z,.arr (im_flat Change_im vok0)⟩,u0⟩ (.tupV u0)
 rintro nx ⟨vo0,v2,v3⟩ h
 refine Ts (Tp z (Tc (b:=(decide (v2 < v3))) z (fun hb=>?_) (fun hb=>?_)))
 ·have h:=cq hb h
  refine Tk (Ts (Tri.block (Td [[],[],[],[],[],[],[4,5],[4,5,6],[],[],[8,9],[8,9,10],[0,1,4,5,6,7,8,9,10,11],[0,1,4,5,6,7,8,9,10,11,12],[0,1,2,3,4,5,6,7,8,9,10,11,12,13],[0,1,2,3,4,5,6,7,8,9,10,11,12,13,14]] hmix (by kernel_rfl) (Qe 6 z ?_))))
  obtain⟨y,hy,h⟩:=bs h
  refine Q1 z z z (Ax.ixh (cl:=Change.cl) z slc_28 z z z hy) (Q1 z z z (v:=.agg (Change.cl y)) (Ax.la_arr (cl:=Change.cl) z siz_67 z z hy z z) (Qe 2 z ?_))
  obtain⟨y_1,hy_1,h⟩:=bs h
  refine Q1 z z z (Ax.ixh (cl:=Change.cl) z slc_28 z z z hy_1) (Q1 z z z (v:=.agg (Change.cl y_1)) (Ax.la_arr (cl:=Change.cl) z siz_67 z z hy_1 z z) (Q1 z z z (Ax.ixh (cl:=Change.cl) z slc_28 z z z hy_1) (Qs z z (x:=some (.arr 67 5 ((vo0.set (Int.toNat v2) y).map Change.cl))) (Ax.st_arr (cl:=Change.cl) (q:=y) z siz_67 z z hy_1 z z z z z z) ?_)))
  obtain⟨y_2,hy_2,h⟩:=bs h
  refine Q1 z z z (Ax.ixh (cl:=Change.cl) z slc_28 z z z hy_2) (Qs z z (x:=some (.arr 67 5 (((vo0.set (Int.toNat v2) y).set (Int.toNat v3) y_1).map Change.cl))) (Ax.st_arr (cl:=Change.cl) (q:=y_1) z siz_67 z z hy_2 z z z z z z) (Rx ⟨by kernel_rfl,freshL_of [] (by kernel_rfl) (by kernel_rfl),?_⟩))
  exact Tq z (Xi (((vo0.set (Int.toNat v2) y).set (Int.toNat v3) y_1),(W (v2+1)),(W (v3 - 1))) (An h (Ee [20280000] z ⟨imf Change_im,u0⟩)))
 have h:=cw hb h
 exact Tri.exit (Xi vo0 (An h (Ee [20280000] z ⟨imf Change_im,u0⟩)))
theorem f6_ok {K:Nat} {a0:Scene} {a1:List Int} {a2:Int} {a3:Int} {r:Bool} (h:f6 K a0 a1 a2 a3=some r):CallOK Tryz.prog 6 [.agg (Scene.cl a0),.lst 1 (a1.map icl),Ai a2,Ai a3] [] (Ab r) []:=by
 refine Co Tryz.func6 z z (nl z) ?_
 unfold f6 at h
 refine Tp z (Ts (Tr ?_))
 obtain⟨x26,hc,h⟩:=bs h
 refine Qc z z z (args:=[]) (r:=Ab x26) (calv z z fnok_21 z) (f21_ok hc) z (Qd z (Tc (b:=(!x26)) z (fun hb=>?_) (fun hb=>?_)))
 ·have h:=cq hb h
  refine Tp z (Te ?_)
  exact Rb h z
 have h:=cw hb h
 refine Tk (Ts (Tr (Qe 1 z ?_)))
 obtain⟨x29,hc_1,h⟩:=bs h
 refine Qc z z z (args:=[.agg (Scene.cl a0)]) (r:=Ab x29) (calv z z fnok_36 z) (f36_ok hc_1) z (Qd z (Tc (b:=(!x29)) z (fun hb_1=>?_) (fun hb_1=>?_)))
 ·have h:=cq hb_1 h
  refine Tp z (Te ?_)
  exact Rb h z
 have h:=cw hb_1 h
 refine Tk (Tr (Qe 1 z (Qn z z z (v:=.ptr 9 0) (x:=some (.box [.lst 4 (([]:List Cell).map Cell.cl),.lst 2 (([]:List Arr2_3).map Arr2_3.cl),Ai 0,Ai 0,Ai 0,.lst 1 (([]:List Int).map icl),.sc (.slice none 0 0),.sc (.slice none 0 0)])) (Al_ z z zer_30 z ⟨Sub.nil _,Sub.nil _,Sub.refl _,Sub.refl _,Sub.refl _,Sub.nil _,Sub.refl _,Sub.refl _,u0⟩) z z z z z (Qs z z (x:=some (.box (Scene.cl a0))) (As z siz_30 z z z z z z z) (Rx (Ts (Td [[],[0],[0,1],[],[3],[0,1,2,3,4],[0,1,2],[0,1,2,3,4,5,6],[0,1,2,3,4,5,6,7],[0,1,2,3,4,5,6,7,8]] hmix (by kernel_rfl) (Qe 2 z ?_))))))))
 obtain⟨x34,hc_2,h⟩:=bs h
 refine Qo [] [(20270000,.arr 64 5 (x34.map Sight.cl))] [20270000] z z z (args:=[.lst 5 (a0.Sights.map Sight.cl)]) (r:=.hnd 20270000) (calv z z fnok_42 z) (f42_fr hc_2) u0 z z z z z (Qe 2 z ?_)
 obtain⟨x37,hc_3,h⟩:=bs h
 refine Qo [] [(20280000,.arr 67 5 (x37.map Change.cl))] [20280000] z z z (args:=[.lst 5 (a0.Changes.map Change.cl)]) (r:=.hnd 20280000) (calv z z fnok_43 z) (f43_fr hc_3) u0 z z z z z (Qe 1 z (Qs z z (x:=some (.box [.lst 4 (a0.Basin.Cells.map Cell.cl),.lst 2 (a0.Basin.Pairs.map Arr2_3.cl),Ai a0.Basin.Gain,Ai a0.Basin.Slack,Ai a0.Basin.Deep,.lst 1 (a0.Days.map icl),.hnd 20270000,.lst 5 (a0.Changes.map Change.cl)])) (As z siz_27 z z z z z z z) (Qe 1 z (Qs z z (x:=some (.box [.lst 4 (a0.Basin.Cells.map Cell.cl),.lst 2 (a0.Basin.Pairs.map Arr2_3.cl),Ai a0.Basin.Gain,Ai a0.Basin.Slack,Ai a0.Basin.Deep,.lst 1 (a0.Days.map icl),.hnd 20270000,.hnd 20280000])) (As z siz_28 z z z z z z z) (Rx ⟨by kernel_rfl,freshL_of [20270000,20280000] (by kernel_rfl) (by kernel_rfl),?_⟩)))))
 refine Tr (Qe 2 z ?_)
 obtain⟨x42,hc_4,h⟩:=bs h
 refine Qo [(20270000,.arr 64 5 (x34.map Sight.cl))] [(20270000,.arr 64 5 (x42.map Sight.cl))] [] z z z (args:=[.hnd 20270000]) (r:=.tup []) (calv z z fnok_44 z) (f44_ok hc_4) ⟨z,u0⟩ z z z z z (Rx (Tr (Qe 2 z ?_)))
 obtain⟨x45,hc_5,h⟩:=bs h
 refine Qo [(20280000,.arr 67 5 (x37.map Change.cl))] [(20280000,.arr 67 5 (x45.map Change.cl))] [] z z z (args:=[.hnd 20280000]) (r:=.tup []) (calv z z fnok_45 z) (f45_ok hc_5) ⟨z,u0⟩ z z z z z (Rx (Tr (Qe 1 z ?_)))
 obtain⟨⟨x48_0,x48_1⟩,hc_6,h⟩:=bs h
 refine Qc z z z (args:=[.agg (Scene.cl a0)]) (r:=.tup [.lst 1 (x48_0.map cl26),Ai x48_1]) (calv z z fnok_29 z) (f29_ok hc_6) z (Qd z (Ts (Tn (Ent.norm [20270000,20280000] [(9,9,.box (Scene.cl (⟨a0.Basin,a0.Days,x42,x45⟩:Scene)))] [(1,.lst 1 (a1.map icl)),(2,Ai a2),(3,Ai a3),(4,.ipt (Scene.cl a0) 0),(9,.ptr 9 0),(10,.lst 1 (x48_0.map cl26)),(11,Ai x48_1)] z ⟨⟨_,z,.boxV ⟨.rfl' z,.rfl' z,.rfl' z,.rfl' z,.rfl' z,.rfl' z,.frz (.hnd mh z (im_flat Sight_im x42)) z,.frz (.hnd (mt mh) z (im_flat Change_im x45)) z,u0⟩⟩,u0⟩ ⟨.rfl' z,.rfl' z,.rfl' z,.rfl' z,.ptr mh,.rfl' z,.rfl' z,u0⟩) (Tri.region (Qe 1 z ?_)))))
 obtain⟨⟨x53_0,x53_1⟩,hc_7,h⟩:=bs h
 refine Qc z z z (args:=[.agg (Scene.cl (⟨a0.Basin,a0.Days,x42,x45⟩:Scene))]) (r:=.tup [.lst 1 (x53_0.map cl26),Ai x53_1]) (calv z z fnok_29 z) (f29_ok hc_7) z (Qd z (Tr (Qe 1 z ?_)))
 obtain⟨⟨x58_0,x58_1⟩,hc_8,h⟩:=bs h
 refine Qc z z z (args:=[.agg (Scene.cl a0)]) (r:=.tup [.lst 1 (x58_0.map cl26),Ai x58_1]) (calv z z fnok_31 z) (f31_ok hc_8) z (Qd z (Tr (Qe 1 z ?_)))
 obtain⟨⟨x63_0,x63_1⟩,hc_9,h⟩:=bs h
 refine Qc z z z (args:=[.agg (Scene.cl (⟨a0.Basin,a0.Days,x42,x45⟩:Scene))]) (r:=.tup [.lst 1 (x63_0.map cl26),Ai x63_1]) (calv z z fnok_31 z) (f31_ok hc_9) z (Qd z (Tr (Qe 4 z ?_)))
 obtain⟨⟨x71_0,x71_1⟩,hc_10,h⟩:=bs h
 refine Qc z z z (args:=[.agg (Scene.cl a0),.lst 1 (a1.map icl),Ai a2,Ai a3]) (r:=.tup [.agg (Span.cl x71_0),Ai x71_1]) (calv z z fnok_40 z) (f40_ok hc_10) z (Qe 3 z (Qn z z z (v:=.ptr 18 0) (x:=some (.box (Span.cl (⟨0,0⟩:Span)))) (Al_ z z zer_49 z ⟨Sub.refl _,Sub.refl _,u0⟩) z z z z z (Qs z z (x:=some (.box (Span.cl x71_0))) (As z siz_49 z z z z z z z) (Qd z (Tr (Qe 4 z ?_))))))
 obtain⟨⟨x79_0,x79_1⟩,hc_11,h⟩:=bs h
 refine Qc z z z (args:=[.agg (Scene.cl (⟨a0.Basin,a0.Days,x42,x45⟩:Scene)),.lst 1 (a1.map icl),Ai a2,Ai a3]) (r:=.tup [.agg (Span.cl x79_0),Ai x79_1]) (calv z z fnok_40 z) (f40_ok hc_11) z (Qe 3 z (Qn z z z (v:=.ptr 20 0) (x:=some (.box (Span.cl (⟨0,0⟩:Span)))) (Al_ z z zer_49 z ⟨Sub.refl _,Sub.refl _,u0⟩) z z z z z (Qs z z (x:=some (.box (Span.cl x79_0))) (As z siz_49 z z z z z z z) (Qd z (Tr (Qe 3 z ?_))))))
 obtain⟨⟨x86_0,x86_1⟩,hc_12,h⟩:=bs h
 refine Qc z z z (args:=[.agg (Scene.cl a0),.lst 1 (a1.map icl),Ai a2]) (r:=.tup [.agg (Span.cl x86_0),Ai x86_1]) (calv z z fnok_39 z) (f39_ok hc_12) z (Qe 3 z (Qn z z z (v:=.ptr 22 0) (x:=some (.box (Span.cl (⟨0,0⟩:Span)))) (Al_ z z zer_49 z ⟨Sub.refl _,Sub.refl _,u0⟩) z z z z z (Qs z z (x:=some (.box (Span.cl x86_0))) (As z siz_49 z z z z z z z) (Qd z (Tr (Qe 3 z ?_))))))
 obtain⟨⟨x93_0,x93_1⟩,hc_13,h⟩:=bs h
 refine Qc z z z (args:=[.agg (Scene.cl (⟨a0.Basin,a0.Days,x42,x45⟩:Scene)),.lst 1 (a1.map icl),Ai a2]) (r:=.tup [.agg (Span.cl x93_0),Ai x93_1]) (calv z z fnok_39 z) (f39_ok hc_13) z (Qe 3 z (Qn z z z (v:=.ptr 24 0) (x:=some (.box (Span.cl (⟨0,0⟩:Span)))) (Al_ z z zer_49 z ⟨Sub.refl _,Sub.refl _,u0⟩) z z z z z (Qs z z (x:=some (.box (Span.cl x93_0))) (As z siz_49 z z z z z z z) (Qd z (Ts ?_)))))
 obtain⟨v8,hj,h⟩:=bs h
 refine Tri.joinv v8 (fun(y:Bool)=>⟨[(8,Ab y)],[]⟩) ?_ ?_
 ·refine Te ?_
  exact Rb h z
 have h:=hj
 refine Tri.region (Qe 2 z ?_)
 obtain⟨x98,hc_14,h⟩:=bs h
 refine Qc z z z (args:=[.lst 1 (x48_0.map cl26),.lst 1 (x53_0.map cl26)]) (r:=Ab x98) (calv z z fnok_35 z) (f35_ok hc_14) z (Qe 1 z ?_)
 rcases b2 x98 with hb_2 | hb_2
 ·have h:=cq hb_2 h
  refine Qk 99 hb_2 z (Qe 5 z ?_)
  rcases b2 (x48_1==x53_1) with hb_3 | hb_3
  ·have h:=cq hb_3 h
   refine Qk 104 hb_3 z (Qe 2 z ?_)
   obtain⟨x107,hc_15,h⟩:=bs h
   refine Qc z z z (args:=[.lst 1 (x58_0.map cl26),.lst 1 (x63_0.map cl26)]) (r:=Ab x107) (calv z z fnok_35 z) (f35_ok hc_15) z (Qe 2 z ?_)
   rcases b2 x107 with hb_4 | hb_4
   ·have h:=cq hb_4 h
    refine Qk 109 hb_4 z (Qe 5 z ?_)
    rcases b2 (x58_1==x63_1) with hb_5 | hb_5
    ·have h:=cq hb_5 h
     refine Qk 114 hb_5 z (Qe 2 z (Q1 z z z (v:=Ab (decide (x71_0=x79_0))) (Ax.eqs (xs:=[.int .i64 x71_0.Lo,.int .i64 x71_0.Hi]) (ys:=[.int .i64 x79_0.Lo,.int .i64 x79_0.Hi]) (fsp_49 x71_0 x79_0) z z z (eqs_49 x71_0 x79_0)) (Qe 2 z ?_)))
     rcases b2 (decide (x71_0=x79_0)) with hb_6 | hb_6
     ·have h:=cq hb_6 h
      refine Qk 119 hb_6 z (Qe 5 z ?_)
      rcases b2 (x71_1==x79_1) with hb_7 | hb_7
      ·have h:=cq hb_7 h
       refine Qk 124 hb_7 z (Qe 2 z (Q1 z z z (v:=Ab (decide (x86_0=x93_0))) (Ax.eqs (xs:=[.int .i64 x86_0.Lo,.int .i64 x86_0.Hi]) (ys:=[.int .i64 x93_0.Lo,.int .i64 x93_0.Hi]) (fsp_49 x86_0 x93_0) z z z (eqs_49 x86_0 x93_0)) (Qe 2 z ?_)))
       rcases b2 (decide (x86_0=x93_0)) with hb_8 | hb_8
       ·have h:=cq hb_8 h
        exact Qk 129 hb_8 z (Qd z (Xi (x86_1==x93_1) (An h (E0 z))))
       have h:=cw hb_8 h
       exact Qk 129 hb_8 z (Qd z (Xi false (An h (E0 z))))
      have h:=cw hb_7 h
      exact Qk 124 hb_7 z (Qd z (Xi false (An h (E0 z))))
     have h:=cw hb_6 h
     exact Qk 119 hb_6 z (Qd z (Xi false (An h (E0 z))))
    have h:=cw hb_5 h
    exact Qk 114 hb_5 z (Qd z (Xi false (An h (E0 z))))
   have h:=cw hb_4 h
   exact Qk 109 hb_4 z (Qd z (Xi false (An h (E0 z))))
  have h:=cw hb_3 h
  exact Qk 104 hb_3 z (Qd z (Xi false (An h (E0 z))))
 have h:=cw hb_2 h
 exact Qk 99 hb_2 z (Qd z (Xi false (An h (E0 z))))
end Go.Proofs.YthlchdnbokhclaaGreat.Ql

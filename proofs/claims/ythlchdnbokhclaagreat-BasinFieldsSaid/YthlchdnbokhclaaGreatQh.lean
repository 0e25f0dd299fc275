import Derived.Test.YthlchdnbokhclaaGreatQt
import Derived.Test.YthlchdnbokhclaaGreatQg1
import Derived.Test.YthlchdnbokhclaaGreatQg3
import Derived.Test.YthlchdnbokhclaaGreatQg2
set_option linter.all false
namespace Go.Proofs.YthlchdnbokhclaaGreat.Ql
open Go Go.Proofs
set_option maxRecDepth 100000
set_option maxHeartbeats 0
def f182 (K:Nat) (a0:Int) (a1:Int):Option (Bool):=
  some ((decide (a0≥0))&&(decide (a0≤a1)))
def f178 (K:Nat) (a0:Cell):Option (Bool):=
  Option.bind (
    (f182 K a0.No 4095).bind fun x5=>
    bif x5 then
      (f182 K a0.Height 9000).bind fun x9=>
      bif x9 then
        (f182 K a0.Aspect 7).bind fun x14=>
        bif x14 then
          bif (decide (a0.Area≥1)) then
            some (decide (a0.Area≤4096))
          else
            some false
        else
          some false
      else
        some false
    else
      some false) fun(v2:Bool)=>
  some v2
def f75 (K:Nat) (a0:Basin):Option (Int):=
  Option.bind (
    bif (decide ((a0.Cells.length:Int) < 1)) then
      some true
    else
      bif (decide ((a0.Cells.length:Int) > 12)) then
        some true
      else
        bif (decide ((a0.Pairs.length:Int) > 24)) then
          some true
        else
          (f182 K a0.Gain 65536).bind fun x27=>
          bif (!x27) then
            some true
          else
            (f182 K a0.Slack 65536).bind fun x33=>
            bif (!x33) then
              some true
            else
              (f182 K a0.Deep 65536).bind fun x39=>
              some (!x39)) fun(v41:Bool)=>
  bif v41 then
    some 50
  else
    Jo (α:=Unit→Option (Int)) (fun(_:Unit)=>
      Jo (α:=Unit→Option (Int)) (fun(_:Unit)=>
        some 0) fun(j_1:Unit→Option (Int))=>
      rngL a0.Pairs () (fun(v4:Int) (_:Unit)=>
          j_1 ()) fun nx_1 x_1 v4 (_:Unit)=>
        Option.bind (
          (f182 K x_1.a0 (W ((a0.Cells.length:Int) - 1))).bind fun x94=>
          bif (!x94) then
            some true
          else
            (f182 K x_1.a1 (W ((a0.Cells.length:Int) - 1))).bind fun x103=>
            bif (!x103) then
              some true
            else
              bif (x_1.a0==x_1.a1) then
                some true
              else
                (ix a0.Cells x_1.a0).bind fun y_1=>
                (ix a0.Cells x_1.a1).bind fun y_2=>
                some (decide (y_1.Height > y_2.Height))) fun(v129:Bool)=>
        bif v129 then
          some 50
        else
          Jo (α:=Unit→Option (Int)) (fun(_:Unit)=>
            nx_1 (v4+1) ()) fun(j_2:Unit→Option (Int))=>
          rngN 0 v4 () (fun(v6:Int) (_:Unit)=>
              j_2 ()) fun nx_2 v6 (_:Unit)=>
            (ix a0.Pairs v6).bind fun y=>
            bif (bif (y.a0==x_1.a0) then ((y.a1==x_1.a1)||((y.a0==x_1.a1)&&(y.a1==x_1.a0))) else ((y.a0==x_1.a1)&&(y.a1==x_1.a0))) then
              some 50
            else
              nx_2 (v6+1) ()) fun(j:Unit→Option (Int))=>
    rngL a0.Cells () (fun(v3:Int) (_:Unit)=>
        j ()) fun nx x v3 (_:Unit)=>
      Option.bind (
        (f178 K x).bind fun x54=>
        bif (!x54) then
          some true
        else
          bif (decide (v3 > 0)) then
            (ix a0.Cells (W (v3 - 1))).bind fun y_3=>
            some (decide (y_3.No≥x.No))
          else
            some false) fun(v75:Bool)=>
      bif v75 then
        some 50
      else
        nx (v3+1) ()
def f116 (K:Nat) (a0:Basin) (a1:Int):Option (Int):=
  Jo (α:=Unit→Option (Int)) (fun(_:Unit)=>
    some (-1)) fun(j:Unit→Option (Int))=>
  rngL a0.Cells () (fun(v5:Int) (_:Unit)=>
      j ()) fun nx x v5 (_:Unit)=>
    bif (x.No==a1) then
      some v5
    else
      nx (v5+1) ()
def f117 (K:Nat) (a0:Scene) (a1:Int):Option (Int):=
  Jo (α:=Unit→Option (Int)) (fun(_:Unit)=>
    some (-1)) fun(j:Unit→Option (Int))=>
  rngL a0.Days () (fun(v5:Int) (_:Unit)=>
      j ()) fun nx x v5 (_:Unit)=>
    bif (x==a1) then
      some v5
    else
      nx (v5+1) ()
def f181 (K:Nat) (a0:Scene) (a1:Sight):Option (Bool):=
  Option.bind (
    (f182 K a1.No 8191).bind fun x7=>
    bif x7 then
      (f116 K a0.Basin a1.Cell).bind fun x13=>
      bif (decide (x13≥0)) then
        (f117 K a0 a1.Day).bind fun x20=>
        bif (decide (x20≥0)) then
          bif (decide (a1.Lo≥0)) then
            bif (decide (a1.Lo≤a1.Hi)) then
              some (decide (a1.Hi≤65536))
            else
              some false
          else
            some false
        else
          some false
      else
        some false
    else
      some false) fun(v4:Bool)=>
  some v4
def f183 (K:Nat) (a0:Scene) (a1:Change):Option (Bool):=
  Option.bind (
    (f116 K a0.Basin a1.Cell).bind fun x9=>
    bif (decide (x9≥0)) then
      (f117 K a0 a1.From).bind fun x15=>
      bif (decide (x15≥0)) then
        (f117 K a0 a1.To).bind fun x22=>
        bif (decide (x22≥0)) then
          bif (decide (a1.From < a1.To)) then
            bif (decide (a1.Lo≥(-65536))) then
              bif (decide (a1.Lo≤a1.Hi)) then
                some (decide (a1.Hi≤65536))
              else
                some false
            else
              some false
          else
            some false
        else
          some false
      else
        some false
    else
      some false) fun(v4:Bool)=>
  some v4
def f76 (K:Nat) (a0:Scene):Option (Int):=
  (f75 K a0.Basin).bind fun x8=>
  bif (x8 != 0) then
    some 50
  else
    bif ((decide ((a0.Days.length:Int) < 1))||(decide ((a0.Days.length:Int) > 16))) then
      some 1
    else
      Jo (α:=Unit→Option (Int)) (fun(_:Unit)=>
        bif ((decide ((a0.Sights.length:Int) > 256))||(decide ((a0.Changes.length:Int) > 256))) then
          some 2
        else
          Jo (α:=Unit→Option (Int)) (fun(_:Unit)=>
            Jo (α:=Unit→Option (Int)) (fun(_:Unit)=>
              some 0) fun(j_2:Unit→Option (Int))=>
            rngL a0.Changes () (fun(v5:Int) (_:Unit)=>
                j_2 ()) fun nx_2 x_2 v5 (_:Unit)=>
              (f183 K a0 x_2).bind fun x90=>
              bif (!x90) then
                some 52
              else
                nx_2 (v5+1) ()) fun(j_1:Unit→Option (Int))=>
          rngL a0.Sights () (fun(v4:Int) (_:Unit)=>
              j_1 ()) fun nx_1 x_1 v4 (_:Unit)=>
            (f181 K a0 x_1).bind fun x75=>
            bif (!x75) then
              some 51
            else
              nx_1 (v4+1) ()) fun(j:Unit→Option (Int))=>
      rngL a0.Days () (fun(v3:Int) (_:Unit)=>
          j ()) fun nx x v3 (_:Unit)=>
        Option.bind (
          (f182 K x 1048576).bind fun x32=>
          bif (!x32) then
            some true
          else
            bif (decide (v3 > 0)) then
              (ix a0.Days (W (v3 - 1))).bind fun y=>
              some (decide (y≥x))
            else
              some false) fun(v51:Bool)=>
        bif v51 then
          some 1
        else
          nx (v3+1) ()
def f180 (K:Nat) (a0:Basin) (a1:Arr2_3):Option (Int):=
  (ix a0.Cells a1.a1).bind fun y=>
  (ix a0.Cells a1.a0).bind fun y_1=>
  some (W (a0.Slack+(W (Int.tdiv (W (a0.Gain*(W (y.Height - y_1.Height)))) 100))))
def f205 (K:Nat) (a0:Scene) (a1:Int) (a2:Int):Option (Int):=
  some (W ((W (1+(W (a2*(a0.Basin.Cells.length:Int)))))+a1))
def f106 (K:Nat) (a0:Scene):Option (Bool):=
  some ((decide ((W ((a0.Basin.Cells.length:Int)*(a0.Days.length:Int)))≤15))&&((decide ((a0.Basin.Pairs.length:Int)≤8))&&((decide ((a0.Sights.length:Int)≤10))&&(decide ((a0.Changes.length:Int)≤10)))))
def f36 (K:Nat) (a0:Scene):Option (Bool):=
  Option.bind (
    (f106 K a0).bind fun x4=>
    bif x4 then
      (f66 K a0).bind fun x7=>
      bif (x7==0) then
        (f76 K a0).bind fun x12=>
        some (x12==0)
      else
        some false
    else
      some false) fun(v2:Bool)=>
  some v2
def f210 (K:Nat) (a0:Cell) (a1:Int):Option (Bool):=
  some (a0.No==a1)
def f94 (K:Nat) (a0:Scene) (a1:Int) (a2:Int):Option (Int × Int × Bool):=
  (f209 K a0.Basin.Cells (fun y0=>f210 K y0 a1)).bind fun x13=>
  (f194 K a0.Days a2).bind fun x17=>
  some (x13,x17,((decide (x13≥0))&&(decide (x17≥0))))
def f123 (K:Nat) (a0:List (List Int)) (a1:List Int→Option Bool):Option (Int):=
  Jo (α:=Unit→Option (Int)) (fun(_:Unit)=>
    some (-1)) fun(j:Unit→Option (Int))=>
  rngL a0 () (fun(v8:Int) (_:Unit)=>
      j ()) fun nx x v8 (_:Unit)=>
    (a1 x).bind fun x16=>
    bif x16 then
      some v8
    else
      nx (v8+1) ()
def f47 (K:Nat) (a0:List (List Int)) (a1:List Int→Option Bool):Option (Bool):=
  (f123 K a0 a1).bind fun x7=>
  some (decide (x7≥0))
def f234 (K:Nat) (a0:List Int) (a1:Scene):Option (Bool):=
  some ((a0.length:Int) != (a1.Basin.Cells.length:Int))
def f119 (K:Nat) (a0:Scene) (a1:List (List Int)):Option (Bool):=
  Option.bind (
    bif ((a1.length:Int)==(a0.Days.length:Int)) then
      (f47 K a1 (fun y0=>f234 K y0 a0)).bind fun x14=>
      some (!x14)
    else
      some false) fun(v4:Bool)=>
  some v4
def f37 (K:Nat) (a0:Scene) (a1:List (List Int)):Option (Bool):=
  (f119 K a0 a1).bind fun x31=>
  bif (!x31) then
    some false
  else
    Jo (α:=Unit→Option (Bool)) (fun(_:Unit)=>
      Jo (α:=Unit→Option (Bool)) (fun(_:Unit)=>
        Jo (α:=Unit→Option (Bool)) (fun(_:Unit)=>
          some true) fun(j_2:Unit→Option (Bool))=>
        rngL a0.Changes () (fun(v180:Int) (_:Unit)=>
            j_2 ()) fun nx_2 x_2 v180 (_:Unit)=>
          (f94 K a0 x_2.Cell x_2.From).bind fun(x190_0,x190_1,x190_2)=>
          (f94 K a0 x_2.Cell x_2.To).bind fun(x200_0,x200_1,x200_2)=>
          Option.bind (
            bif (!x190_2) then
              some true
            else
              bif (!x200_2) then
                some true
              else
                (ix a1 x200_1).bind fun y=>
                (ix y x190_0).bind fun y_1=>
                (ix a1 x190_1).bind fun y_2=>
                (ix y_2 x190_0).bind fun y_3=>
                bif (decide ((W (y_1 - y_3)) < x_2.Lo)) then
                  some true
                else
                  some (decide ((W (y_1 - y_3)) > x_2.Hi))) fun(v249:Bool)=>
          bif v249 then
            some false
          else
            nx_2 (v180+1) ()) fun(j_1:Unit→Option (Bool))=>
      rngL a0.Sights () (fun(v136:Int) (_:Unit)=>
          j_1 ()) fun nx_1 x_1 v136 (_:Unit)=>
        (f94 K a0 x_1.Cell x_1.Day).bind fun(x146_0,x146_1,x146_2)=>
        Option.bind (
          bif (!x146_2) then
            some true
          else
            (ix a1 x146_1).bind fun y_4=>
            (ix y_4 x146_0).bind fun y_5=>
            bif (decide (y_5 < x_1.Lo)) then
              some true
            else
              some (decide (y_5 > x_1.Hi))) fun(v175:Bool)=>
        bif v175 then
          some false
        else
          nx_1 (v136+1) ()) fun(j:Unit→Option (Bool))=>
    rngL a1 () (fun(v37:Int) (_:Unit)=>
        j ()) fun nx x v37 (_:Unit)=>
      Jo (α:=Unit→Option (Bool)) (fun(_:Unit)=>
        Jo (α:=Unit→Option (Bool)) (fun(_:Unit)=>
          nx (v37+1) ()) fun(j_4:Unit→Option (Bool))=>
        rngL a0.Basin.Pairs () (fun(v59:Int) (_:Unit)=>
            j_4 ()) fun nx_4 x_4 v59 (_:Unit)=>
          Jo (α:=Unit→Option (Bool)) (fun(_:Unit)=>
            nx_4 (v59+1) ()) fun(j_5:Unit→Option (Bool))=>
          (ix a0.Basin.Cells x_4.a0).bind fun y_6=>
          (ix a0.Basin.Cells x_4.a1).bind fun y_7=>
          bif ((decide ((Int.tmod (W ((W (y_6.Aspect - y_7.Aspect))+8)) 8) > 1))&&(decide ((Int.tmod (W ((W (y_6.Aspect - y_7.Aspect))+8)) 8) < 7))) then
            j_5 ()
          else
            (ix x x_4.a1).bind fun y_8=>
            (ix x x_4.a0).bind fun y_9=>
            bif ((decide ((W (y_8 - y_9)) > (W (a0.Basin.Slack+(W (Int.tdiv (W (a0.Basin.Gain*(W (y_7.Height - y_6.Height)))) 100))))))||(bif (decide (y_6.Height < y_7.Height)) then ((decide ((W (y_8 - y_9)) < 0))||(decide ((W (y_8 - y_9)) < (W (-a0.Basin.Slack))))) else (decide ((W (y_8 - y_9)) < (W (-a0.Basin.Slack)))))) then
              some false
            else
              j_5 ()) fun(j_3:Unit→Option (Bool))=>
      rngL x () (fun(v43:Int) (_:Unit)=>
          j_3 ()) fun nx_3 x_3 v43 (_:Unit)=>
        bif ((decide (x_3 < 0))||(decide (x_3 > a0.Basin.Deep))) then
          some false
        else
          nx_3 (v43+1) ()
def f38 (K:Nat) (a0:Int) (a1:Span):Option (Bool):=
  some ((decide (a1.Lo≤a0))&&(decide (a0≤a1.Hi)))
def f41 (K:Nat) (a0:Scene) (a1:List Int) (a2:Int) (a3:List (List Int)):Option (Int):=
  Option.bind (
    rngL a1 0 (fun(v16:Int) (v8:Int)=>
        some v8) fun nx x v16 (v8:Int)=>
      (f94 K a0 x a2).bind fun(x24_0,x24_1,x24_2)=>
      Option.bind (
        bif x24_2 then
          (ix a0.Basin.Cells x24_0).bind fun y=>
          (ix a3 x24_1).bind fun y_1=>
          (ix y_1 x24_0).bind fun y_2=>
          some (W (v8+(W (y.Area*y_2))))
        else
          some v8) fun(v8_2:Int)=>
      nx (v16+1) v8_2) fun(v8_1:Int)=>
  some v8_1
def f5 (K:Nat) (a0:Scene) (a1:List (List Int)) (a2:List (List Int)) (a3:List Int) (a4:Int) (a5:Int):Option (Bool):=
  (f21 K ).bind fun x28=>
  bif (!x28) then
    some false
  else
    (f36 K a0).bind fun x31=>
    bif (!x31) then
      some true
    else
      Option.bind (
        (f26 K a0 a1).bind fun x35=>
        (f37 K a0 a1).bind fun x39=>
        bif ((x35==0) != x39) then
          some true
        else
          (f26 K a0 a2).bind fun x44=>
          (f37 K a0 a2).bind fun x48=>
          some ((x44==0) != x48)) fun(v50:Bool)=>
      bif v50 then
        some false
      else
        (f37 K a0 a1).bind fun x53=>
        bif (!x53) then
          some true
        else
          (f37 K a0 a2).bind fun x57=>
          Jo (α:=Unit→Option (Bool)) (fun(_:Unit)=>
            Jo (α:=Unit→Option (Bool)) (fun(_:Unit)=>
              (f39 K a0 a3 a4).bind fun(x172_0,x172_1)=>
              bif (x172_1 != 0) then
                some (x172_1==1)
              else
                (f40 K a0 a3 a4 a5).bind fun(x184_0,x184_1)=>
                Option.bind (
                  (f41 K a0 a3 a4 a1).bind fun x191=>
                  (f38 K x191 x172_0).bind fun x193=>
                  bif (!x193) then
                    some true
                  else
                    bif (x184_1 != 0) then
                      some (x184_1 != 1)
                    else
                      some false) fun(v202:Bool)=>
                bif v202 then
                  some false
                else
                  Option.bind (
                    bif (x184_1 != 0) then
                      some true
                    else
                      (f41 K a0 a3 a4 a1).bind fun x210=>
                      (f41 K a0 a3 a5 a1).bind fun x215=>
                      (f38 K (W (x210 - x215)) x184_0).bind fun x218=>
                      some x218) fun(v12:Bool)=>
                  some v12) fun(j_1:Unit→Option (Bool))=>
            rngL a0.Days () (fun(v130:Int) (_:Unit)=>
                j_1 ()) fun nx x v130 (_:Unit)=>
              Jo (α:=Unit→Option (Bool)) (fun(_:Unit)=>
                nx (v130+1) ()) fun(j_2:Unit→Option (Bool))=>
              rngL a0.Basin.Cells () (fun(v139:Int) (_:Unit)=>
                  j_2 ()) fun nx_1 x_1 v139 (_:Unit)=>
                (f33 K a0 x_1.No x).bind fun(x149_0,x149_1)=>
                Option.bind (
                  bif (x149_1 != 0) then
                    some true
                  else
                    (ix a1 v130).bind fun y=>
                    (ix y v139).bind fun y_1=>
                    (f38 K y_1 x149_0).bind fun x163=>
                    some (!x163)) fun(v165:Bool)=>
                bif v165 then
                  some false
                else
                  nx_1 (v139+1) ()) fun(j:Unit→Option (Bool))=>
          bif x57 then
            Option.bind (
              rngL a1 (([]:List (List Int)),([]:List (List Int))) (fun(v60:Int) ((vo13,vo14):List (List Int) × List (List Int))=>
                  some (vo13,vo14)) fun nx_2 x_2 v60 ((vo13,vo14):List (List Int) × List (List Int))=>
                Option.bind (
                  rngL x_2 (([]:List Int),([]:List Int)) (fun(v68:Int) ((vo16,vo17):List Int × List Int)=>
                      some (vo16,vo17)) fun nx_3 x_3 v68 ((vo16,vo17):List Int × List Int)=>
                    (ix a2 v60).bind fun y_2=>
                    (ix y_2 v68).bind fun y_3=>
                    (app vo16 ([(if y_3 > x_3 then y_3 else x_3)]:List Int)).bind fun z88=>
                    (app vo17 ([(if y_3 < x_3 then y_3 else x_3)]:List Int)).bind fun z106=>
                    nx_3 (v68+1) (z88,z106)) fun((vo16_1,vo17_1):List Int × List Int)=>
                (app vo13 ([vo16_1]:List (List Int))).bind fun z111=>
                (app vo14 ([vo17_1]:List (List Int))).bind fun z115=>
                nx_2 (v60+1) (z111,z115)) fun((vo13_1,vo14_1):List (List Int) × List (List Int))=>
            Option.bind (
              (f26 K a0 vo13_1).bind fun x119=>
              bif (x119 != 0) then
                some true
              else
                (f26 K a0 vo14_1).bind fun x124=>
                some (x124 != 0)) fun(v126:Bool)=>
            bif v126 then
              some false
            else
              j ()
          else
            j ()
theorem f182_ok {K:Nat} {a0:Int} {a1:Int} {r:Bool} (h:f182 K a0 a1=some r):CallOK Tryz.prog 182 [Ai a0,Ai a1] [] (Ab r) []:=by
 refine Co Tryz.func182 z z (nl z) ?_
 unfold f182 at h
 refine Tp z (Ts (Tri.join1 ⟨[(4,Ab ((decide (a0≥0))&&(decide (a0≤a1))))],[]⟩ ?_ ?_))
 ·refine Te ?_
  exact Rb h z
 refine Tri.region (Qe 3 z ?_)
 rcases b2 (decide (a0≥0)) with hb | hb
 ·exact Qk 7 hb z (Qd z ((Es0 [4] z ⟨.imm (Sub.of_eq (show Ab ((decide (a0≥0))&&(decide (a0≤a1)))=Ab (decide (a0≤a1)) by simp only [cond_true,cond_false,Bool.true_or,Bool.false_or,Bool.true_and,Bool.false_and,Bool.or_true,Bool.or_false,Bool.and_true,Bool.and_false,hb])) z,u0⟩)))
 exact Qk 7 hb z (Qd z ((Es0 [4] z ⟨.imm (Sub.of_eq (show Ab ((decide (a0≥0))&&(decide (a0≤a1)))=Ab false by simp only [cond_true,cond_false,Bool.true_or,Bool.false_or,Bool.true_and,Bool.false_and,Bool.or_true,Bool.or_false,Bool.and_true,Bool.and_false,hb])) z,u0⟩)))
theorem f178_ok {K:Nat} {a0:Cell} {r:Bool} (h:f178 K a0=some r):CallOK Tryz.prog 178 [.agg (Cell.cl a0)] [] (Ab r) []:=by
 refine Co Tryz.func178 z z (nl z) ?_
 unfold f178 at h
 refine Tp z (Ts ?_)
 obtain⟨v2,hj,h⟩:=bs h
 refine Tri.joinv v2 (fun(y:Bool)=>⟨[(2,Ab y)],[]⟩) ?_ ?_
 ·refine Te ?_
  exact Rb h z
 have h:=hj
 refine Tri.region (Qe 2 z ?_)
 obtain⟨x5,hc,h⟩:=bs h
 refine Qc z z z (args:=[Ai a0.No,Ai 4095]) (r:=Ab x5) (calv z z fnok_182 z) (f182_ok hc) z (Qe 1 z ?_)
 rcases b2 x5 with hb | hb
 ·have h:=cq hb h
  refine Qk 6 hb z (Qe 2 z ?_)
  obtain⟨x9,hc_1,h⟩:=bs h
  refine Qc z z z (args:=[Ai a0.Height,Ai 9000]) (r:=Ab x9) (calv z z fnok_182 z) (f182_ok hc_1) z (Qe 2 z ?_)
  rcases b2 x9 with hb_1 | hb_1
  ·have h:=cq hb_1 h
   refine Qk 11 hb_1 z (Qe 2 z ?_)
   obtain⟨x14,hc_2,h⟩:=bs h
   refine Qc z z z (args:=[Ai a0.Aspect,Ai 7]) (r:=Ab x14) (calv z z fnok_182 z) (f182_ok hc_2) z (Qe 2 z ?_)
   rcases b2 x14 with hb_2 | hb_2
   ·have h:=cq hb_2 h
    refine Qk 16 hb_2 z (Qe 5 z ?_)
    rcases b2 (decide (a0.Area≥1)) with hb_3 | hb_3
    ·have h:=cq hb_3 h
     exact Qk 21 hb_3 z (Qd z (Xi (decide (a0.Area≤4096)) (An h (E0 z))))
    have h:=cw hb_3 h
    exact Qk 21 hb_3 z (Qd z (Xi false (An h (E0 z))))
   have h:=cw hb_2 h
   exact Qk 16 hb_2 z (Qd z (Xi false (An h (E0 z))))
  have h:=cw hb_1 h
  exact Qk 11 hb_1 z (Qd z (Xi false (An h (E0 z))))
 have h:=cw hb h
 exact Qk 6 hb z (Qd z (Xi false (An h (E0 z))))
theorem f75_ok {K:Nat} {a0:Basin} {r:Int} (h:f75 K a0=some r):CallOK Tryz.prog 75 [.agg (Basin.cl a0)] [] (Ai r) []:=by
 refine Co Tryz.func75 z z (nl z) ?_
 unfold f75 at h
 refine Tp z (Ts (Ts ?_))
 obtain⟨v41,hj_5,h⟩:=bs h
 refine Tri.joinv v41 (fun(y:Bool)=>⟨[(1,.ipt (Basin.cl a0) 0),(41,Ab y)],[]⟩) ?_ ?_
 ·refine Tc (b:=v41) z (fun hb=>?_) (fun hb=>?_)
  ·have h:=cq hb h
   refine Tp z (Te ?_)
   exact Ri h z
  have h:=cw hb h
  refine Tk (Ts (Tp z ?_))
  obtain⟨j,hj,h⟩:=jo h
  refine Tri.rngL h (fun p=>⟨[(1,.ipt (Basin.cl a0) 0),(3,Ai p.1)],[]⟩) (fun y=>j y=some r) (fun(y:Unit)=>⟨[(1,.ipt (Basin.cl a0) 0)],[]⟩) (E0 z) ?_ ?_ ?_
  ·rintro⟨⟩ h
   subst hj
   refine Ts (Tp z ?_)
   obtain⟨j_1,hj_1,h⟩:=jo h
   refine Tri.rngL h (fun p=>⟨[(1,.ipt (Basin.cl a0) 0),(4,Ai p.1)],[]⟩) (fun y=>j_1 y=some r) (fun(y:Unit)=>⟨[],[]⟩) (E0 z) ?_ ?_ ?_
   ·rintro⟨⟩ h
    subst hj_1
    refine Tp z (Te ?_)
    exact Ri h z
   ·rintro v4 ⟨⟩ hi_1 h
    refine Ts (Tr (Qe 3 z (Q1 z z z (Ax.ln (cl:=Arr2_3.cl) z slc_23 z) (Qd z (Tc (b:=(decide (v4 < (a0.Pairs.length:Int)))) z (fun hb_1=>?_) (fun hb_1=>?_))))))
    ·exact(lt_f hi_1 hb_1).elim
    exact Tri.exit (Xi () (An h (E0 z)))
   rintro nx_1 x_1 v4 ⟨⟩ _ hi_1 hw_1 hx_1 h
   refine Ts (Tr (Qe 3 z (Q1 z z z (Ax.ln (cl:=Arr2_3.cl) z slc_23 z) (Qd z (Tc (b:=(decide (v4 < (a0.Pairs.length:Int)))) z (fun hb_2=>?_) (fun hb_2=>?_))))))
   ·refine Tk (Ts (Tri.block (Tr (Qe 3 z (Q1 z z z (Ax.ix (cl:=Arr2_3.cl) z slc_23 z z hx_1) (Qe 1 z (Qn z z z (v:=.ptr 5 0) (x:=some (.box (Arr2_3.cl (⟨0,0⟩:Arr2_3)))) (Al_ z z zer_97 z ⟨Sub.refl _,Sub.refl _,u0⟩) z z z z z (Qs z z (x:=some (.box (Arr2_3.cl x_1))) (As z siz_97 z z z z z z z) (Rx (Ts (Ts ?_)))))))))))
    obtain⟨v129,hj_3,h⟩:=bs h
    refine Tri.joinv v129 (fun(y:Bool)=>⟨[(1,.ipt (Basin.cl a0) 0),(4,Ai v4),(5,.ptr 5 0),(129,Ab y)],[(5,some (.box (Arr2_3.cl x_1)))]⟩) ?_ ?_
    ·refine Tc (b:=v129) z (fun hb_3=>?_) (fun hb_3=>?_)
     ·have h:=cq hb_3 h
      refine Tp z (Te ?_)
      exact Ri h z
     have h:=cw hb_3 h
     refine Tk (Tp z ?_)
     obtain⟨j_2,hj_2,h⟩:=jo h
     refine Tri.rngN h (fun p=>⟨[(1,.ipt (Basin.cl a0) 0),(4,Ai v4),(5,.ptr 5 0),(6,Ai p.1)],[(5,some (.box (Arr2_3.cl x_1)))]⟩) (fun y=>j_2 y=some r) (fun(y:Unit)=>⟨[(1,.ipt (Basin.cl a0) 0),(4,Ai v4)],[]⟩) (Ee [5] z u0) ?_ ?_ ?_
     ·rintro⟨⟩ h
      subst hj_2
      exact Tq z (Xi (v4+1,()) (An (An z h) (Es0 [4] z ⟨.imm (Sub.of_eq (show Ai (v4+1)=Ai (W (v4+1)) from congrArg Ai hw_1.symm)) z,u0⟩)))
     ·rintro v6 ⟨⟩ hi_2 _ h
      refine Ts (Tp z (Tc (b:=(decide (v6 < v4))) z (fun hb_4=>?_) (fun hb_4=>?_)))
      ·exact(lt_f hi_2 hb_4).elim
      exact Tri.exit (Xi () (An h (E0 z)))
     rintro nx_2 v6 ⟨⟩ _ hi_2 hw_2 h
     refine Ts (Tp z (Tc (b:=(decide (v6 < v4))) z (fun hb_5=>?_) (fun hb_5=>?_)))
     ·refine Tk (Ts (Tri.block (Tr (Qe 3 z ?_))))
      obtain⟨y,hy,h⟩:=bs h
      refine Q1 z z z (Ax.ix (cl:=Arr2_3.cl) z slc_23 z z hy) (Qe 1 z (Qn z z z (v:=.ptr 7 0) (x:=some (.box (Arr2_3.cl (⟨0,0⟩:Arr2_3)))) (Al_ z z zer_97 z ⟨Sub.refl _,Sub.refl _,u0⟩) z z z z z (Qs z z (x:=some (.box (Arr2_3.cl y))) (As z siz_97 z z z z z z z) (Rx (Ts (Tri.join1 ⟨[(1,.ipt (Basin.cl a0) 0),(4,Ai v4),(5,.ptr 5 0),(6,Ai v6),(165,Ab (bif (y.a0==x_1.a0) then ((y.a1==x_1.a1)||((y.a0==x_1.a1)&&(y.a1==x_1.a0))) else ((y.a0==x_1.a1)&&(y.a1==x_1.a0))))],[(5,some (.box (Arr2_3.cl x_1)))]⟩ ?_ ?_))))))
      ·refine Tc (b:=(bif (y.a0==x_1.a0) then ((y.a1==x_1.a1)||((y.a0==x_1.a1)&&(y.a1==x_1.a0))) else ((y.a0==x_1.a1)&&(y.a1==x_1.a0)))) z (fun hb_6=>?_) (fun hb_6=>?_)
       ·have h:=cq hb_6 h
        refine Tp z (Te ?_)
        exact Ri h z
       have h:=cw hb_6 h
       exact Tk (Tq z (Xi (v6+1,()) (An (An z h) (Es [5] [6] z u0 ⟨.imm (Sub.of_eq (show Ai (v6+1)=Ai (W (v6+1)) from congrArg Ai hw_2.symm)) z,u0⟩))))
      refine Tri.region (Q1 z z z (Ax.index_ptr (k:=.i64) (n:=0) z arr_97 z z z (by decide) (by decide)) (Qe 1 z (Q1 z z z (Ax.index_ptr (k:=.i64) (n:=0) z arr_97 z z z (by decide) (by decide)) (Qe 3 z ?_))))
      rcases b2 (y.a0==x_1.a0) with hb_7 | hb_7
      ·refine Qk 145 hb_7 z (Q1 z z z (Ax.index_ptr (k:=.i64) (n:=1) z arr_97 z z z (by decide) (by decide)) (Qe 1 z (Q1 z z z (Ax.index_ptr (k:=.i64) (n:=1) z arr_97 z z z (by decide) (by decide)) (Qe 4 z ?_))))
       rcases b2 (y.a1==x_1.a1) with hb_8 | hb_8
       ·exact Qk 152 hb_8 z (Qd z ((Es [5] [165] z u0 ⟨.imm (Sub.of_eq (show Ab (bif (y.a0==x_1.a0) then ((y.a1==x_1.a1)||((y.a0==x_1.a1)&&(y.a1==x_1.a0))) else ((y.a0==x_1.a1)&&(y.a1==x_1.a0)))=Ab true by simp only [cond_true,cond_false,Bool.true_or,Bool.false_or,Bool.true_and,Bool.false_and,Bool.or_true,Bool.or_false,Bool.and_true,Bool.and_false,hb,hb_2,hb_3,hb_5,hb_7,hb_8])) z,u0⟩)))
       refine Qk 152 hb_8 z (Q1 z z z (Ax.index_ptr (k:=.i64) (n:=0) z arr_97 z z z (by decide) (by decide)) (Qe 1 z (Q1 z z z (Ax.index_ptr (k:=.i64) (n:=1) z arr_97 z z z (by decide) (by decide)) (Qe 3 z ?_))))
       rcases b2 (y.a0==x_1.a1) with hb_9 | hb_9
       ·exact Qk 158 hb_9 z (Q1 z z z (Ax.index_ptr (k:=.i64) (n:=1) z arr_97 z z z (by decide) (by decide)) (Qe 1 z (Q1 z z z (Ax.index_ptr (k:=.i64) (n:=0) z arr_97 z z z (by decide) (by decide)) (Qd z ((Es [5] [165] z u0 ⟨.imm (Sub.of_eq (show Ab (bif (y.a0==x_1.a0) then ((y.a1==x_1.a1)||((y.a0==x_1.a1)&&(y.a1==x_1.a0))) else ((y.a0==x_1.a1)&&(y.a1==x_1.a0)))=Ab (y.a1==x_1.a0) by simp only [cond_true,cond_false,Bool.true_or,Bool.false_or,Bool.true_and,Bool.false_and,Bool.or_true,Bool.or_false,Bool.and_true,Bool.and_false,hb,hb_2,hb_3,hb_5,hb_7,hb_8,hb_9])) z,u0⟩))))))
       exact Qk 158 hb_9 z (Qd z ((Es [5] [165] z u0 ⟨.imm (Sub.of_eq (show Ab (bif (y.a0==x_1.a0) then ((y.a1==x_1.a1)||((y.a0==x_1.a1)&&(y.a1==x_1.a0))) else ((y.a0==x_1.a1)&&(y.a1==x_1.a0)))=Ab false by simp only [cond_true,cond_false,Bool.true_or,Bool.false_or,Bool.true_and,Bool.false_and,Bool.or_true,Bool.or_false,Bool.and_true,Bool.and_false,hb,hb_2,hb_3,hb_5,hb_7,hb_8,hb_9])) z,u0⟩)))
      refine Qk 145 hb_7 z (Qe 7 z (Q1 z z z (Ax.index_ptr (k:=.i64) (n:=0) z arr_97 z z z (by decide) (by decide)) (Qe 1 z (Q1 z z z (Ax.index_ptr (k:=.i64) (n:=1) z arr_97 z z z (by decide) (by decide)) (Qe 3 z ?_)))))
      rcases b2 (y.a0==x_1.a1) with hb_10 | hb_10
      ·exact Qk 158 hb_10 z (Q1 z z z (Ax.index_ptr (k:=.i64) (n:=1) z arr_97 z z z (by decide) (by decide)) (Qe 1 z (Q1 z z z (Ax.index_ptr (k:=.i64) (n:=0) z arr_97 z z z (by decide) (by decide)) (Qd z ((Es [5] [165] z u0 ⟨.imm (Sub.of_eq (show Ab (bif (y.a0==x_1.a0) then ((y.a1==x_1.a1)||((y.a0==x_1.a1)&&(y.a1==x_1.a0))) else ((y.a0==x_1.a1)&&(y.a1==x_1.a0)))=Ab (y.a1==x_1.a0) by simp only [cond_true,cond_false,Bool.true_or,Bool.false_or,Bool.true_and,Bool.false_and,Bool.or_true,Bool.or_false,Bool.and_true,Bool.and_false,hb,hb_2,hb_3,hb_5,hb_7,hb_10])) z,u0⟩))))))
      exact Qk 158 hb_10 z (Qd z ((Es [5] [165] z u0 ⟨.imm (Sub.of_eq (show Ab (bif (y.a0==x_1.a0) then ((y.a1==x_1.a1)||((y.a0==x_1.a1)&&(y.a1==x_1.a0))) else ((y.a0==x_1.a1)&&(y.a1==x_1.a0)))=Ab false by simp only [cond_true,cond_false,Bool.true_or,Bool.false_or,Bool.true_and,Bool.false_and,Bool.or_true,Bool.or_false,Bool.and_true,Bool.and_false,hb,hb_2,hb_3,hb_5,hb_7,hb_10])) z,u0⟩)))
     exact(lt_t hi_2 hb_5).elim
    have h:=hj_3
    refine Td [[],[0],[],[2],[2,3],[2,3,4],[0,1,2,3,4,5],[0,1,2,3,4,5,6],[0,1,2,3,4,5,6,7],[0,1,2,3,4,5,6,7,8],[0,1,2,3,4,5,6,7,8,9],[0,1,2,3,4,5,6,7,8],[0,1,2,3,4,5,6,7,8,11],[0,1,2,3,4,5,6,7,8,11,12],[0,1,2,3,4,5,6,7,8,11,12,13],[0,1,2,3,4,5,6,7,8,9,10,11,12,13,14],[0,1,2,3,4,5,6,7,8,9,10,11,12,13,14,15],[0,1,2,3,4,5,6,7,8,9,10,11,12,13,14,15,16],[0,1,2,3,4,5,6,7,8,9,10,11,12,13,14,15,16,17],[0,1,2,3,4,5,6,7,8,9,10,11,12,13,14,15,16,17,18],[0,1,2,3,4,5,6,7,8,9,10,11,12,13,14,15,16,17,18,19],[0,1,2,3,4,5,6,7,8,9,10,11,12,13,14,15,16,17,18],[0,1,2,3,4,5,6,7,8,9,10,11,12,13,14,15,16,17,18,21],[0,1,2,3,4,5,6,7,8,9,10,11,12,13,14,15,16,17,18,19,20,21,22],[0,1,2,3,4,5,6,7,8,9,10,11,12,13,14,15,16,17,18,19,20,21,22,23],[0,1,2,3,4,5,6,7,8,9,10,11,12,13,14,15,16,17,18,19,20,21,22,23,24],[0,1,2,3,4,5,6,7,8,9,10,11,12,13,14,15,16,17,18,19,20,21,22,23,24,25],[0,1,2,3,4,5,6,7,8,9,10,11,12,13,14,15,16,17,18,19,20,21,22,23,24,25,26],[0,1,2,3,4,5,6,7,8,9,10,11,12,13,14,15,16,17,18,19,20,21,22,23,24,25],[0,1,2,3,4,5,6,7,8,9,10,11,12,13,14,15,16,17,18,19,20,21,22,23,24,25,28],[0,1,2,3,4,5,6,7,8,9,10,11,12,13,14,15,16,17,18,19,20,21,22,23,24,25,26,27,28,29],[0,1,2,3,4,5,6,7,8,9,10,11,12,13,14,15,16,17,18,19,20,21,22,23,24,25,26,27,28,29,30],[0,1,2,3,4,5,6,7,8,9,10,11,12,13,14,15,16,17,18,19,20,21,22,23,24,25,26,27,28,29,30,31],[0,1,2,3,4,5,6,7,8,9,10,11,12,13,14,15,16,17,18,19,20,21,22,23,24,25],[0,1,2,3,4,5,6,7,8,9,10,11,12,13,14,15,16,17,18,19,20,21,22,23,24,25,33],[0,1,2,3,4,5,6,7,8,9,10,11,12,13,14,15,16,17,18,19,20,21,22,23,24,25],[0,1,2,3,4,5,6,7,8,9,10,11,12,13,14,15,16,17,18,19,20,21,22,23,24,25,35],[0,1,2,3,4,5,6,7,8,9,10,11,12,13,14,15,16,17,18,19,20,21,22,23,24,25,33,34,35,36],[0,1,2,3,4,5,6,7,8,9,10,11,12,13,14,15,16,17,18,19,20,21,22,23,24,25,33,34,35,36,37],[0,1,2,3,4,5,6,7,8,9,10,11,12,13,14,15,16,17,18,19,20,21,22,23,24,25,33,34,35,36,37,38],[0,1,2,3,4,5,6,7,8,9,10,11,12,13,14,15,16,17,18,19,20,21,22,23,24,25,26,27,28,29,30,31,32,33,34,35,36,37,38,39],[0,1,2,3,4,5,6,7,8,9,10,11,12,13,14,15,16,17,18,19,20,21,22,23,24,25,26,27,28,29,30,31,32,33,34,35,36,37,38,39,40]] hmix (by kernel_rfl) (Q1 z z z (Ax.index_ptr (k:=.i64) (n:=0) z arr_97 z z z (by decide) (by decide)) (Qe 3 z (Q1 z z z (Ax.ln (cl:=Cell.cl) z slc_22 z) (Qe 1 z ?_))))
    obtain⟨x94,hc,h⟩:=bs h
    refine Qc z z z (args:=[Ai x_1.a0,Ai (W ((a0.Cells.length:Int) - 1))]) (r:=Ab x94) (calv z z fnok_182 z) (f182_ok hc) z (Qe 2 z ?_)
    rcases b2 (!x94) with hb_11 | hb_11
    ·have h:=cq hb_11 h
     refine Qk 96 hb_11 z (Qe 33 z (Rx ⟨by kernel_rfl,freshL_of [] (by kernel_rfl) (by kernel_rfl),?_⟩))
     exact Xi true (An h (Ee [5] z u0))
    have h:=cw hb_11 h
    refine Qk 96 hb_11 z (Q1 z z z (Ax.index_ptr (k:=.i64) (n:=1) z arr_97 z z z (by decide) (by decide)) (Qe 3 z (Q1 z z z (Ax.ln (cl:=Cell.cl) z slc_22 z) (Qe 1 z ?_))))
    obtain⟨x103,hc_1,h⟩:=bs h
    refine Qc z z z (args:=[Ai x_1.a1,Ai (W ((a0.Cells.length:Int) - 1))]) (r:=Ab x103) (calv z z fnok_182 z) (f182_ok hc_1) z (Qe 3 z ?_)
    rcases b2 (!x103) with hb_12 | hb_12
    ·have h:=cq hb_12 h
     refine Qk 106 hb_12 z (Qe 23 z (Rx ⟨by kernel_rfl,freshL_of [] (by kernel_rfl) (by kernel_rfl),?_⟩))
     exact Xi true (An h (Ee [5] z u0))
    have h:=cw hb_12 h
    refine Qk 106 hb_12 z (Q1 z z z (Ax.index_ptr (k:=.i64) (n:=0) z arr_97 z z z (by decide) (by decide)) (Qe 1 z (Q1 z z z (Ax.index_ptr (k:=.i64) (n:=1) z arr_97 z z z (by decide) (by decide)) (Qe 4 z ?_))))
    rcases b2 (x_1.a0==x_1.a1) with hb_13 | hb_13
    ·have h:=cq hb_13 h
     refine Qk 113 hb_13 z (Qe 16 z (Rx ⟨by kernel_rfl,freshL_of [] (by kernel_rfl) (by kernel_rfl),?_⟩))
     exact Xi true (An h (Ee [5] z u0))
    have h:=cw hb_13 h
    refine Qk 113 hb_13 z (Qe 2 z (Q1 z z z (Ax.index_ptr (k:=.i64) (n:=0) z arr_97 z z z (by decide) (by decide)) (Qe 1 z ?_)))
    obtain⟨y_1,hy_1,h⟩:=bs h
    refine Q1 z z z (Ax.ix (cl:=Cell.cl) z slc_22 z z hy_1) (Qe 4 z (Q1 z z z (Ax.index_ptr (k:=.i64) (n:=1) z arr_97 z z z (by decide) (by decide)) (Qe 1 z ?_)))
    obtain⟨y_2,hy_2,h⟩:=bs h
    refine Q1 z z z (Ax.ix (cl:=Cell.cl) z slc_22 z z hy_2) (Qe 4 z (Rx ⟨by kernel_rfl,freshL_of [] (by kernel_rfl) (by kernel_rfl),?_⟩))
    exact Xi (decide (y_1.Height > y_2.Height)) (An h (Ee [5] z u0))
   exact(lt_t hi_1 hb_2).elim
  ·rintro v3 ⟨⟩ hi h
   refine Ts (Tr (Qe 3 z (Q1 z z z (Ax.ln (cl:=Cell.cl) z slc_22 z) (Qd z (Tc (b:=(decide (v3 < (a0.Cells.length:Int)))) z (fun hb_14=>?_) (fun hb_14=>?_))))))
   ·exact(lt_f hi hb_14).elim
   exact Tri.exit (Xi () (An h (E0 z)))
  rintro nx x v3 ⟨⟩ _ hi hw hx h
  refine Ts (Tr (Qe 3 z (Q1 z z z (Ax.ln (cl:=Cell.cl) z slc_22 z) (Qd z (Tc (b:=(decide (v3 < (a0.Cells.length:Int)))) z (fun hb_15=>?_) (fun hb_15=>?_))))))
  ·refine Tk (Ts (Tri.block (Ts ?_)))
   obtain⟨v75,hj_4,h⟩:=bs h
   refine Tri.joinv v75 (fun(y:Bool)=>⟨[(1,.ipt (Basin.cl a0) 0),(3,Ai v3),(75,Ab y)],[]⟩) ?_ ?_
   ·refine Tc (b:=v75) z (fun hb_16=>?_) (fun hb_16=>?_)
    ·have h:=cq hb_16 h
     refine Tp z (Te ?_)
     exact Ri h z
    have h:=cw hb_16 h
    exact Tk (Tq z (Xi (v3+1,()) (An (An z h) (Es0 [3] z ⟨.imm (Sub.of_eq (show Ai (v3+1)=Ai (W (v3+1)) from congrArg Ai hw.symm)) z,u0⟩))))
   have h:=hj_4
   refine Td [[],[0],[],[0,1,2],[0,1,2,3],[0,1,2,3,4],[0,1,2,3,4,5],[0,1,2,3,4,5,6],[0,1,2,3,4,5,6,7],[0,1,2,3,4,5,6,7,8],[0,1,2,3,4,5,6,7,8,9],[0,1,2,3,4,5,6,7,8,9,10],[0,1,2,3,4,5,6,7,8,9,10,11],[0,1,2,3,4,5,6,7,8,9,10],[0,1,2,3,4,5,6,7,8,9,10,13],[0,1,2,3,4,5,6,7,8,9,10,11,12,13,14],[0,1,2,3,4,5,6,7,8,9,10,11,12,13,14,15],[0,1,2,3,4,5,6,7,8,9,10,11,12,13,14,15,16],[0,1,2,3,4,5,6,7,8,9,10],[0,1,2,3,4,5,6,7,8,9,10,18],[0,1,2,3,4,5,6,7,8,9,10],[0,1,2,3,4,5,6,7,8,9,10,18,19,20],[0,1,2,3,4,5,6,7,8,9,10,18,19,20,21],[0,1,2,3,4,5,6,7,8,9,10,18,19,20,21,22],[0,1,2,3,4,5,6,7,8,9,10,11,12,13,14,15,16,17,18,19,20,21,22,23],[0,1,2,3,4,5,6,7,8,9,10,11,12,13,14,15,16,17,18,19,20,21,22,23,24],[0,1,2,3,4,5,6,7,8,9,10,11,12,13,14,15,16,17,18,19,20,21,22,23,24,25]] hmix (by kernel_rfl) (Qe 3 z (Q1 z z z (Ax.ix (cl:=Cell.cl) z slc_22 z z hx) (Qe 1 z ?_)))
   obtain⟨x54,hc_2,h⟩:=bs h
   refine Qc z z z (args:=[.agg (Cell.cl x)]) (r:=Ab x54) (calv z z fnok_178 z) (f178_ok hc_2) z (Qe 2 z ?_)
   rcases b2 (!x54) with hb_17 | hb_17
   ·have h:=cq hb_17 h
    refine Qk 56 hb_17 z (Qe 19 z (Rx ⟨by kernel_rfl,freshL_of [] (by kernel_rfl) (by kernel_rfl),?_⟩))
    exact Xi true (An h (E0 z))
   have h:=cw hb_17 h
   refine Qk 56 hb_17 z (Qe 3 z ?_)
   rcases b2 (decide (v3 > 0)) with hb_18 | hb_18
   ·have h:=cq hb_18 h
    refine Qk 59 hb_18 z (Qe 4 z ?_)
    obtain⟨y_3,hy_3,h⟩:=bs h
    refine Q1 z z z (Ax.ix (cl:=Cell.cl) z slc_22 z z hy_3) (Qe 5 z (Q1 z z z (Ax.ix (cl:=Cell.cl) z slc_22 z z hx) (Qe 5 z (Rx ⟨by kernel_rfl,freshL_of [] (by kernel_rfl) (by kernel_rfl),?_⟩))))
    exact Xi (decide (y_3.No≥x.No)) (An h (E0 z))
   have h:=cw hb_18 h
   refine Qk 59 hb_18 z (Qe 16 z (Rx ⟨by kernel_rfl,freshL_of [] (by kernel_rfl) (by kernel_rfl),?_⟩))
   exact Xi false (An h (E0 z))
  exact(lt_t hi hb_15).elim
 have h:=hj_5
 refine Tri.region (Qe 2 z (Q1 z z z (Ax.ln (cl:=Cell.cl) z slc_22 z) (Qe 2 z ?_)))
 rcases b2 (decide ((a0.Cells.length:Int) < 1)) with hb_19 | hb_19
 ·have h:=cq hb_19 h
  exact Qk 12 hb_19 z (Qd z (Xi true (An h (E0 z))))
 have h:=cw hb_19 h
 refine Qk 12 hb_19 z (Qe 2 z (Q1 z z z (Ax.ln (cl:=Cell.cl) z slc_22 z) (Qe 3 z ?_)))
 rcases b2 (decide ((a0.Cells.length:Int) > 12)) with hb_20 | hb_20
 ·have h:=cq hb_20 h
  exact Qk 18 hb_20 z (Qd z (Xi true (An h (E0 z))))
 have h:=cw hb_20 h
 refine Qk 18 hb_20 z (Qe 2 z (Q1 z z z (Ax.ln (cl:=Arr2_3.cl) z slc_23 z) (Qe 3 z ?_)))
 rcases b2 (decide ((a0.Pairs.length:Int) > 24)) with hb_21 | hb_21
 ·have h:=cq hb_21 h
  exact Qk 24 hb_21 z (Qd z (Xi true (An h (E0 z))))
 have h:=cw hb_21 h
 refine Qk 24 hb_21 z (Qe 2 z ?_)
 obtain⟨x27,hc_3,h⟩:=bs h
 refine Qc z z z (args:=[Ai a0.Gain,Ai 65536]) (r:=Ab x27) (calv z z fnok_182 z) (f182_ok hc_3) z (Qe 3 z ?_)
 rcases b2 (!x27) with hb_22 | hb_22
 ·have h:=cq hb_22 h
  exact Qk 30 hb_22 z (Qd z (Xi true (An h (E0 z))))
 have h:=cw hb_22 h
 refine Qk 30 hb_22 z (Qe 2 z ?_)
 obtain⟨x33,hc_4,h⟩:=bs h
 refine Qc z z z (args:=[Ai a0.Slack,Ai 65536]) (r:=Ab x33) (calv z z fnok_182 z) (f182_ok hc_4) z (Qe 3 z ?_)
 rcases b2 (!x33) with hb_23 | hb_23
 ·have h:=cq hb_23 h
  exact Qk 36 hb_23 z (Qd z (Xi true (An h (E0 z))))
 have h:=cw hb_23 h
 refine Qk 36 hb_23 z (Qe 2 z ?_)
 obtain⟨x39,hc_5,h⟩:=bs h
 exact Qc z z z (args:=[Ai a0.Deep,Ai 65536]) (r:=Ab x39) (calv z z fnok_182 z) (f182_ok hc_5) z (Qd z (Xi (!x39) (An h (E0 z))))
theorem f116_ok {K:Nat} {a0:Basin} {a1:Int} {r:Int} (h:f116 K a0 a1=some r):CallOK Tryz.prog 116 [.agg (Basin.cl a0),Ai a1] [] (Ai r) []:=by
 refine Co Tryz.func116 z z (nl z) ?_
 unfold f116 at h
 refine Tp z (Ts (Tp z ?_))
 obtain⟨j,hj,h⟩:=jo h
 refine Tri.rngL h (fun p=>⟨[(1,Ai a1),(2,.ipt (Basin.cl a0) 0),(5,Ai p.1)],[]⟩) (fun y=>j y=some r) (fun(y:Unit)=>⟨[],[]⟩) (E0 z) ?_ ?_ ?_
 ·rintro⟨⟩ h
  subst hj
  refine Tp z (Te ?_)
  exact Ri h z
 ·rintro v5 ⟨⟩ hi h
  refine Ts (Tr (Qe 3 z (Q1 z z z (Ax.ln (cl:=Cell.cl) z slc_22 z) (Qd z (Tc (b:=(decide (v5 < (a0.Cells.length:Int)))) z (fun hb=>?_) (fun hb=>?_))))))
  ·exact(lt_f hi hb).elim
  exact Tri.exit (Xi () (An h (E0 z)))
 rintro nx x v5 ⟨⟩ _ hi hw hx h
 refine Ts (Tr (Qe 3 z (Q1 z z z (Ax.ln (cl:=Cell.cl) z slc_22 z) (Qd z (Tc (b:=(decide (v5 < (a0.Cells.length:Int)))) z (fun hb_1=>?_) (fun hb_1=>?_))))))
 ·refine Tk (Ts (Tri.block (Tr (Qe 3 z (Q1 z z z (Ax.ix (cl:=Cell.cl) z slc_22 z z hx) (Qd z (Tc (b:=(x.No==a1)) z (fun hb_2=>?_) (fun hb_2=>?_))))))))
  ·have h:=cq hb_2 h
   refine Tp z (Te ?_)
   exact Ri h z
  have h:=cw hb_2 h
  exact Tk (Tq z (Xi (v5+1,()) (An (An z h) (Es0 [5] z ⟨.imm (Sub.of_eq (show Ai (v5+1)=Ai (W (v5+1)) from congrArg Ai hw.symm)) z,u0⟩))))
 exact(lt_t hi hb_1).elim
theorem f117_ok {K:Nat} {a0:Scene} {a1:Int} {r:Int} (h:f117 K a0 a1=some r):CallOK Tryz.prog 117 [.agg (Scene.cl a0),Ai a1] [] (Ai r) []:=by
 refine Co Tryz.func117 z z (nl z) ?_
 unfold f117 at h
 refine Tp z (Ts (Tp z ?_))
 obtain⟨j,hj,h⟩:=jo h
 refine Tri.rngL h (fun p=>⟨[(1,Ai a1),(2,.ipt (Scene.cl a0) 0),(5,Ai p.1)],[]⟩) (fun y=>j y=some r) (fun(y:Unit)=>⟨[],[]⟩) (E0 z) ?_ ?_ ?_
 ·rintro⟨⟩ h
  subst hj
  refine Tp z (Te ?_)
  exact Ri h z
 ·rintro v5 ⟨⟩ hi h
  refine Ts (Tr (Qe 3 z (Q1 z z z (Ax.ln (cl:=icl) z slc_26 z) (Qd z (Tc (b:=(decide (v5 < (a0.Days.length:Int)))) z (fun hb=>?_) (fun hb=>?_))))))
  ·exact(lt_f hi hb).elim
  exact Tri.exit (Xi () (An h (E0 z)))
 rintro nx x v5 ⟨⟩ _ hi hw hx h
 refine Ts (Tr (Qe 3 z (Q1 z z z (Ax.ln (cl:=icl) z slc_26 z) (Qd z (Tc (b:=(decide (v5 < (a0.Days.length:Int)))) z (fun hb_1=>?_) (fun hb_1=>?_))))))
 ·refine Tk (Ts (Tri.block (Tr (Qe 3 z (Q1 z z z (Ax.ix (cl:=icl) z slc_26 z z hx) (Qd z (Tc (b:=(x==a1)) z (fun hb_2=>?_) (fun hb_2=>?_))))))))
  ·have h:=cq hb_2 h
   refine Tp z (Te ?_)
   exact Ri h z
  have h:=cw hb_2 h
  exact Tk (Tq z (Xi (v5+1,()) (An (An z h) (Es0 [5] z ⟨.imm (Sub.of_eq (show Ai (v5+1)=Ai (W (v5+1)) from congrArg Ai hw.symm)) z,u0⟩))))
 exact(lt_t hi hb_1).elim
theorem f181_ok {K:Nat} {a0:Scene} {a1:Sight} {r:Bool} (h:f181 K a0 a1=some r):CallOK Tryz.prog 181 [.agg (Scene.cl a0),.agg (Sight.cl a1)] [] (Ab r) []:=by
 refine Co Tryz.func181 z z (nl z) ?_
 unfold f181 at h
 refine Tp z (Ts ?_)
 obtain⟨v4,hj,h⟩:=bs h
 refine Tri.joinv v4 (fun(y:Bool)=>⟨[(4,Ab y)],[]⟩) ?_ ?_
 ·refine Te ?_
  exact Rb h z
 have h:=hj
 refine Tri.region (Qe 2 z ?_)
 obtain⟨x7,hc,h⟩:=bs h
 refine Qc z z z (args:=[Ai a1.No,Ai 8191]) (r:=Ab x7) (calv z z fnok_182 z) (f182_ok hc) z (Qe 1 z ?_)
 rcases b2 x7 with hb | hb
 ·have h:=cq hb h
  refine Qk 8 hb z (Qe 4 z ?_)
  obtain⟨x13,hc_1,h⟩:=bs h
  refine Qc z z z (args:=[.agg (Basin.cl a0.Basin),Ai a1.Cell]) (r:=Ai x13) (calv z z fnok_116 z) (f116_ok hc_1) z (Qe 3 z ?_)
  rcases b2 (decide (x13≥0)) with hb_1 | hb_1
  ·have h:=cq hb_1 h
   refine Qk 16 hb_1 z (Qe 3 z ?_)
   obtain⟨x20,hc_2,h⟩:=bs h
   refine Qc z z z (args:=[.agg (Scene.cl a0),Ai a1.Day]) (r:=Ai x20) (calv z z fnok_117 z) (f117_ok hc_2) z (Qe 3 z ?_)
   rcases b2 (decide (x20≥0)) with hb_2 | hb_2
   ·have h:=cq hb_2 h
    refine Qk 23 hb_2 z (Qe 5 z ?_)
    rcases b2 (decide (a1.Lo≥0)) with hb_3 | hb_3
    ·have h:=cq hb_3 h
     refine Qk 28 hb_3 z (Qe 7 z ?_)
     rcases b2 (decide (a1.Lo≤a1.Hi)) with hb_4 | hb_4
     ·have h:=cq hb_4 h
      exact Qk 35 hb_4 z (Qd z (Xi (decide (a1.Hi≤65536)) (An h (E0 z))))
     have h:=cw hb_4 h
     exact Qk 35 hb_4 z (Qd z (Xi false (An h (E0 z))))
    have h:=cw hb_3 h
    exact Qk 28 hb_3 z (Qd z (Xi false (An h (E0 z))))
   have h:=cw hb_2 h
   exact Qk 23 hb_2 z (Qd z (Xi false (An h (E0 z))))
  have h:=cw hb_1 h
  exact Qk 16 hb_1 z (Qd z (Xi false (An h (E0 z))))
 have h:=cw hb h
 exact Qk 8 hb z (Qd z (Xi false (An h (E0 z))))
theorem f183_ok {K:Nat} {a0:Scene} {a1:Change} {r:Bool} (h:f183 K a0 a1=some r):CallOK Tryz.prog 183 [.agg (Scene.cl a0),.agg (Change.cl a1)] [] (Ab r) []:=by
 refine Co Tryz.func183 z z (nl z) ?_
 unfold f183 at h
 refine Tp z (Ts ?_)
 obtain⟨v4,hj,h⟩:=bs h
 refine Tri.joinv v4 (fun(y:Bool)=>⟨[(4,Ab y)],[]⟩) ?_ ?_
 ·refine Te ?_
  exact Rb h z
 have h:=hj
 refine Tri.region (Qe 4 z ?_)
 obtain⟨x9,hc,h⟩:=bs h
 refine Qc z z z (args:=[.agg (Basin.cl a0.Basin),Ai a1.Cell]) (r:=Ai x9) (calv z z fnok_116 z) (f116_ok hc) z (Qe 2 z ?_)
 rcases b2 (decide (x9≥0)) with hb | hb
 ·have h:=cq hb h
  refine Qk 11 hb z (Qe 3 z ?_)
  obtain⟨x15,hc_1,h⟩:=bs h
  refine Qc z z z (args:=[.agg (Scene.cl a0),Ai a1.From]) (r:=Ai x15) (calv z z fnok_117 z) (f117_ok hc_1) z (Qe 3 z ?_)
  rcases b2 (decide (x15≥0)) with hb_1 | hb_1
  ·have h:=cq hb_1 h
   refine Qk 18 hb_1 z (Qe 3 z ?_)
   obtain⟨x22,hc_2,h⟩:=bs h
   refine Qc z z z (args:=[.agg (Scene.cl a0),Ai a1.To]) (r:=Ai x22) (calv z z fnok_117 z) (f117_ok hc_2) z (Qe 3 z ?_)
   rcases b2 (decide (x22≥0)) with hb_2 | hb_2
   ·have h:=cq hb_2 h
    refine Qk 25 hb_2 z (Qe 7 z ?_)
    rcases b2 (decide (a1.From < a1.To)) with hb_3 | hb_3
    ·have h:=cq hb_3 h
     refine Qk 32 hb_3 z (Qe 5 z ?_)
     rcases b2 (decide (a1.Lo≥(-65536))) with hb_4 | hb_4
     ·have h:=cq hb_4 h
      refine Qk 37 hb_4 z (Qe 7 z ?_)
      rcases b2 (decide (a1.Lo≤a1.Hi)) with hb_5 | hb_5
      ·have h:=cq hb_5 h
       exact Qk 44 hb_5 z (Qd z (Xi (decide (a1.Hi≤65536)) (An h (E0 z))))
      have h:=cw hb_5 h
      exact Qk 44 hb_5 z (Qd z (Xi false (An h (E0 z))))
     have h:=cw hb_4 h
     exact Qk 37 hb_4 z (Qd z (Xi false (An h (E0 z))))
    have h:=cw hb_3 h
    exact Qk 32 hb_3 z (Qd z (Xi false (An h (E0 z))))
   have h:=cw hb_2 h
   exact Qk 25 hb_2 z (Qd z (Xi false (An h (E0 z))))
  have h:=cw hb_1 h
  exact Qk 18 hb_1 z (Qd z (Xi false (An h (E0 z))))
 have h:=cw hb h
 exact Qk 11 hb z (Qd z (Xi false (An h (E0 z))))
theorem f76_ok {K:Nat} {a0:Scene} {r:Int} (h:f76 K a0=some r):CallOK Tryz.prog 76 [.agg (Scene.cl a0)] [] (Ai r) []:=by
 refine Co Tryz.func76 z z (nl z) ?_
 unfold f76 at h
 refine Tp z (Ts (Tr (Qe 2 z ?_)))
 obtain⟨x8,hc,h⟩:=bs h
 refine Qc z z z (args:=[.agg (Basin.cl a0.Basin)]) (r:=Ai x8) (calv z z fnok_75 z) (f75_ok hc) z (Qd z (Tc (b:=(x8 != 0)) z (fun hb=>?_) (fun hb=>?_)))
 ·have h:=cq hb h
  refine Tp z (Te ?_)
  exact Ri h z
 have h:=cw hb h
 refine Tk (Ts (Ts (Tri.join1 ⟨[(1,.ipt (Scene.cl a0) 0),(19,Ab ((decide ((a0.Days.length:Int) < 1))||(decide ((a0.Days.length:Int) > 16))))],[]⟩ ?_ ?_)))
 ·refine Tc (b:=((decide ((a0.Days.length:Int) < 1))||(decide ((a0.Days.length:Int) > 16)))) z (fun hb_1=>?_) (fun hb_1=>?_)
  ·have h:=cq hb_1 h
   refine Tp z (Te ?_)
   exact Ri h z
  have h:=cw hb_1 h
  refine Tk (Ts (Tp z ?_))
  obtain⟨j,hj,h⟩:=jo h
  refine Tri.rngL h (fun p=>⟨[(1,.ipt (Scene.cl a0) 0),(3,Ai p.1)],[]⟩) (fun y=>j y=some r) (fun(y:Unit)=>⟨[(1,.ipt (Scene.cl a0) 0)],[]⟩) (E0 z) ?_ ?_ ?_
  ·rintro⟨⟩ h
   subst hj
   refine Ts (Ts (Tri.join1 ⟨[(1,.ipt (Scene.cl a0) 0),(61,Ab ((decide ((a0.Sights.length:Int) > 256))||(decide ((a0.Changes.length:Int) > 256))))],[]⟩ ?_ ?_))
   ·refine Tc (b:=((decide ((a0.Sights.length:Int) > 256))||(decide ((a0.Changes.length:Int) > 256)))) z (fun hb_2=>?_) (fun hb_2=>?_)
    ·have h:=cq hb_2 h
     refine Tp z (Te ?_)
     exact Ri h z
    have h:=cw hb_2 h
    refine Tk (Ts (Tp z ?_))
    obtain⟨j_1,hj_1,h⟩:=jo h
    refine Tri.rngL h (fun p=>⟨[(1,.ipt (Scene.cl a0) 0),(4,Ai p.1)],[]⟩) (fun y=>j_1 y=some r) (fun(y:Unit)=>⟨[(1,.ipt (Scene.cl a0) 0)],[]⟩) (E0 z) ?_ ?_ ?_
    ·rintro⟨⟩ h
     subst hj_1
     refine Ts (Tp z ?_)
     obtain⟨j_2,hj_2,h⟩:=jo h
     refine Tri.rngL h (fun p=>⟨[(1,.ipt (Scene.cl a0) 0),(5,Ai p.1)],[]⟩) (fun y=>j_2 y=some r) (fun(y:Unit)=>⟨[],[]⟩) (E0 z) ?_ ?_ ?_
     ·rintro⟨⟩ h
      subst hj_2
      refine Tp z (Te ?_)
      exact Ri h z
     ·rintro v5 ⟨⟩ hi_2 h
      refine Ts (Tr (Qe 3 z (Q1 z z z (Ax.ln (cl:=Change.cl) z slc_28 z) (Qd z (Tc (b:=(decide (v5 < (a0.Changes.length:Int)))) z (fun hb_3=>?_) (fun hb_3=>?_))))))
      ·exact(lt_f hi_2 hb_3).elim
      exact Tri.exit (Xi () (An h (E0 z)))
     rintro nx_2 x_2 v5 ⟨⟩ _ hi_2 hw_2 hx_2 h
     refine Ts (Tr (Qe 3 z (Q1 z z z (Ax.ln (cl:=Change.cl) z slc_28 z) (Qd z (Tc (b:=(decide (v5 < (a0.Changes.length:Int)))) z (fun hb_4=>?_) (fun hb_4=>?_))))))
     ·refine Tk (Ts (Tri.block (Ts (Td [[],[],[1],[],[1,2,3],[1,2,3,4],[0,1,2,3,4,5],[0,1,2,3,4,5,6]] hmix (by kernel_rfl) (Qe 4 z (Q1 z z z (Ax.ix (cl:=Change.cl) z slc_28 z z hx_2) (Qe 1 z ?_)))))))
      obtain⟨x90,hc_1,h⟩:=bs h
      refine Qc z z z (args:=[.agg (Scene.cl a0),.agg (Change.cl x_2)]) (r:=Ab x90) (calv z z fnok_183 z) (f183_ok hc_1) z (Qe 1 z (Rx ⟨by kernel_rfl,freshL_of [] (by kernel_rfl) (by kernel_rfl),?_⟩))
      refine Tc (b:=(!x90)) z (fun hb_5=>?_) (fun hb_5=>?_)
      ·have h:=cq hb_5 h
       refine Tp z (Te ?_)
       exact Ri h z
      have h:=cw hb_5 h
      exact Tk (Tq z (Xi (v5+1,()) (An (An z h) (Es0 [5] z ⟨.imm (Sub.of_eq (show Ai (v5+1)=Ai (W (v5+1)) from congrArg Ai hw_2.symm)) z,u0⟩))))
     exact(lt_t hi_2 hb_4).elim
    ·rintro v4 ⟨⟩ hi_1 h
     refine Ts (Tr (Qe 3 z (Q1 z z z (Ax.ln (cl:=Sight.cl) z slc_27 z) (Qd z (Tc (b:=(decide (v4 < (a0.Sights.length:Int)))) z (fun hb_6=>?_) (fun hb_6=>?_))))))
     ·exact(lt_f hi_1 hb_6).elim
     exact Tri.exit (Xi () (An h (E0 z)))
    rintro nx_1 x_1 v4 ⟨⟩ _ hi_1 hw_1 hx_1 h
    refine Ts (Tr (Qe 3 z (Q1 z z z (Ax.ln (cl:=Sight.cl) z slc_27 z) (Qd z (Tc (b:=(decide (v4 < (a0.Sights.length:Int)))) z (fun hb_7=>?_) (fun hb_7=>?_))))))
    ·refine Tk (Ts (Tri.block (Ts (Td [[],[],[1],[],[1,2,3],[1,2,3,4],[0,1,2,3,4,5],[0,1,2,3,4,5,6]] hmix (by kernel_rfl) (Qe 4 z (Q1 z z z (Ax.ix (cl:=Sight.cl) z slc_27 z z hx_1) (Qe 1 z ?_)))))))
     obtain⟨x75,hc_2,h⟩:=bs h
     refine Qc z z z (args:=[.agg (Scene.cl a0),.agg (Sight.cl x_1)]) (r:=Ab x75) (calv z z fnok_181 z) (f181_ok hc_2) z (Qe 1 z (Rx ⟨by kernel_rfl,freshL_of [] (by kernel_rfl) (by kernel_rfl),?_⟩))
     refine Tc (b:=(!x75)) z (fun hb_8=>?_) (fun hb_8=>?_)
     ·have h:=cq hb_8 h
      refine Tp z (Te ?_)
      exact Ri h z
     have h:=cw hb_8 h
     exact Tk (Tq z (Xi (v4+1,()) (An (An z h) (Es0 [4] z ⟨.imm (Sub.of_eq (show Ai (v4+1)=Ai (W (v4+1)) from congrArg Ai hw_1.symm)) z,u0⟩))))
    exact(lt_t hi_1 hb_7).elim
   refine Tri.region (Qe 2 z (Q1 z z z (Ax.ln (cl:=Sight.cl) z slc_27 z) (Qe 2 z ?_)))
   rcases b2 (decide ((a0.Sights.length:Int) > 256)) with hb_9 | hb_9
   ·exact Qk 56 hb_9 z (Qd z ((Es0 [61] z ⟨.imm (Sub.of_eq (show Ab ((decide ((a0.Sights.length:Int) > 256))||(decide ((a0.Changes.length:Int) > 256)))=Ab true by simp only [cond_true,cond_false,Bool.true_or,Bool.false_or,Bool.true_and,Bool.false_and,Bool.or_true,Bool.or_false,Bool.and_true,Bool.and_false,hb,hb_1,hb_9])) z,u0⟩)))
   exact Qk 56 hb_9 z (Qe 2 z (Q1 z z z (Ax.ln (cl:=Change.cl) z slc_28 z) (Qd z ((Es0 [61] z ⟨.imm (Sub.of_eq (show Ab ((decide ((a0.Sights.length:Int) > 256))||(decide ((a0.Changes.length:Int) > 256)))=Ab (decide ((a0.Changes.length:Int) > 256)) by simp only [cond_true,cond_false,Bool.true_or,Bool.false_or,Bool.true_and,Bool.false_and,Bool.or_true,Bool.or_false,Bool.and_true,Bool.and_false,hb,hb_1,hb_9])) z,u0⟩)))))
  ·rintro v3 ⟨⟩ hi h
   refine Ts (Tr (Qe 3 z (Q1 z z z (Ax.ln (cl:=icl) z slc_26 z) (Qd z (Tc (b:=(decide (v3 < (a0.Days.length:Int)))) z (fun hb_10=>?_) (fun hb_10=>?_))))))
   ·exact(lt_f hi hb_10).elim
   exact Tri.exit (Xi () (An h (E0 z)))
  rintro nx x v3 ⟨⟩ _ hi hw hx h
  refine Ts (Tr (Qe 3 z (Q1 z z z (Ax.ln (cl:=icl) z slc_26 z) (Qd z (Tc (b:=(decide (v3 < (a0.Days.length:Int)))) z (fun hb_11=>?_) (fun hb_11=>?_))))))
  ·refine Tk (Ts (Tri.block (Ts ?_)))
   obtain⟨v51,hj_3,h⟩:=bs h
   refine Tri.joinv v51 (fun(y:Bool)=>⟨[(1,.ipt (Scene.cl a0) 0),(3,Ai v3),(51,Ab y)],[]⟩) ?_ ?_
   ·refine Tc (b:=v51) z (fun hb_12=>?_) (fun hb_12=>?_)
    ·have h:=cq hb_12 h
     refine Tp z (Te ?_)
     exact Ri h z
    have h:=cw hb_12 h
    exact Tk (Tq z (Xi (v3+1,()) (An (An z h) (Es0 [3] z ⟨.imm (Sub.of_eq (show Ai (v3+1)=Ai (W (v3+1)) from congrArg Ai hw.symm)) z,u0⟩))))
   have h:=hj_3
   refine Td [[],[0],[],[0,1,2],[0,1,2,3],[0,1,2,3,4],[0,1,2,3,4,5],[0,1,2,3,4,5,6],[0,1,2,3,4,5,6,7],[0,1,2,3,4,5,6,7,8],[0,1,2,3,4,5,6,7,8,9],[0,1,2,3,4,5,6,7,8,9,10],[0,1,2,3,4,5,6,7,8,9,10,11],[0,1,2,3,4,5,6,7,8,9,10],[0,1,2,3,4,5,6,7,8,9,10,13],[0,1,2,3,4,5,6,7,8,9,10,11,12,13,14],[0,1,2,3,4,5,6,7,8,9,10,11,12,13,14,15],[0,1,2,3,4,5,6,7,8,9,10],[0,1,2,3,4,5,6,7,8,9,10,17],[0,1,2,3,4,5,6,7,8,9,10],[0,1,2,3,4,5,6,7,8,9,10,17,18,19],[0,1,2,3,4,5,6,7,8,9,10,17,18,19,20],[0,1,2,3,4,5,6,7,8,9,10,11,12,13,14,15,16,17,18,19,20,21],[0,1,2,3,4,5,6,7,8,9,10,11,12,13,14,15,16,17,18,19,20,21,22],[0,1,2,3,4,5,6,7,8,9,10,11,12,13,14,15,16,17,18,19,20,21,22,23]] hmix (by kernel_rfl) (Qe 3 z (Q1 z z z (Ax.ix (cl:=icl) z slc_26 z z hx) (Qe 1 z ?_)))
   obtain⟨x32,hc_3,h⟩:=bs h
   refine Qc z z z (args:=[Ai x,Ai 1048576]) (r:=Ab x32) (calv z z fnok_182 z) (f182_ok hc_3) z (Qe 2 z ?_)
   rcases b2 (!x32) with hb_13 | hb_13
   ·have h:=cq hb_13 h
    refine Qk 34 hb_13 z (Qe 17 z (Rx ⟨by kernel_rfl,freshL_of [] (by kernel_rfl) (by kernel_rfl),?_⟩))
    exact Xi true (An h (E0 z))
   have h:=cw hb_13 h
   refine Qk 34 hb_13 z (Qe 3 z ?_)
   rcases b2 (decide (v3 > 0)) with hb_14 | hb_14
   ·have h:=cq hb_14 h
    refine Qk 37 hb_14 z (Qe 4 z ?_)
    obtain⟨y,hy,h⟩:=bs h
    refine Q1 z z z (Ax.ix (cl:=icl) z slc_26 z z hy) (Qe 4 z (Q1 z z z (Ax.ix (cl:=icl) z slc_26 z z hx) (Qe 4 z (Rx ⟨by kernel_rfl,freshL_of [] (by kernel_rfl) (by kernel_rfl),?_⟩))))
    exact Xi (decide (y≥x)) (An h (E0 z))
   have h:=cw hb_14 h
   refine Qk 37 hb_14 z (Qe 14 z (Rx ⟨by kernel_rfl,freshL_of [] (by kernel_rfl) (by kernel_rfl),?_⟩))
   exact Xi false (An h (E0 z))
  exact(lt_t hi hb_11).elim
 refine Tri.region (Qe 2 z (Q1 z z z (Ax.ln (cl:=icl) z slc_26 z) (Qe 2 z ?_)))
 rcases b2 (decide ((a0.Days.length:Int) < 1)) with hb_15 | hb_15
 ·exact Qk 14 hb_15 z (Qd z ((Es0 [19] z ⟨.imm (Sub.of_eq (show Ab ((decide ((a0.Days.length:Int) < 1))||(decide ((a0.Days.length:Int) > 16)))=Ab true by simp only [cond_true,cond_false,Bool.true_or,Bool.false_or,Bool.true_and,Bool.false_and,Bool.or_true,Bool.or_false,Bool.and_true,Bool.and_false,hb,hb_15])) z,u0⟩)))
 exact Qk 14 hb_15 z (Qe 2 z (Q1 z z z (Ax.ln (cl:=icl) z slc_26 z) (Qd z ((Es0 [19] z ⟨.imm (Sub.of_eq (show Ab ((decide ((a0.Days.length:Int) < 1))||(decide ((a0.Days.length:Int) > 16)))=Ab (decide ((a0.Days.length:Int) > 16)) by simp only [cond_true,cond_false,Bool.true_or,Bool.false_or,Bool.true_and,Bool.false_and,Bool.or_true,Bool.or_false,Bool.and_true,Bool.and_false,hb,hb_15])) z,u0⟩)))))
theorem f106_ok {K:Nat} {a0:Scene} {r:Bool} (h:f106 K a0=some r):CallOK Tryz.prog 106 [.agg (Scene.cl a0)] [] (Ab r) []:=by
 refine Co Tryz.func106 z z (nl z) ?_
 unfold f106 at h
 refine Tp z (Ts (Tri.join1 ⟨[(2,Ab ((decide ((W ((a0.Basin.Cells.length:Int)*(a0.Days.length:Int)))≤15))&&((decide ((a0.Basin.Pairs.length:Int)≤8))&&((decide ((a0.Sights.length:Int)≤10))&&(decide ((a0.Changes.length:Int)≤10))))))],[]⟩ ?_ ?_))
 ·refine Te ?_
  exact Rb h z
 refine Tri.region (Qe 3 z (Q1 z z z (Ax.ln (cl:=Cell.cl) z slc_22 z) (Qe 2 z (Q1 z z z (Ax.ln (cl:=icl) z slc_26 z) (Qe 3 z ?_)))))
 rcases b2 (decide ((W ((a0.Basin.Cells.length:Int)*(a0.Days.length:Int)))≤15)) with hb | hb
 ·refine Qk 12 hb z (Qe 3 z (Q1 z z z (Ax.ln (cl:=Arr2_3.cl) z slc_23 z) (Qe 3 z ?_)))
  rcases b2 (decide ((a0.Basin.Pairs.length:Int)≤8)) with hb_1 | hb_1
  ·refine Qk 19 hb_1 z (Qe 2 z (Q1 z z z (Ax.ln (cl:=Sight.cl) z slc_27 z) (Qe 3 z ?_)))
   rcases b2 (decide ((a0.Sights.length:Int)≤10)) with hb_2 | hb_2
   ·exact Qk 25 hb_2 z (Qe 2 z (Q1 z z z (Ax.ln (cl:=Change.cl) z slc_28 z) (Qd z ((Es0 [2] z ⟨.imm (Sub.of_eq (show Ab ((decide ((W ((a0.Basin.Cells.length:Int)*(a0.Days.length:Int)))≤15))&&((decide ((a0.Basin.Pairs.length:Int)≤8))&&((decide ((a0.Sights.length:Int)≤10))&&(decide ((a0.Changes.length:Int)≤10)))))=Ab (decide ((a0.Changes.length:Int)≤10)) by simp only [cond_true,cond_false,Bool.true_or,Bool.false_or,Bool.true_and,Bool.false_and,Bool.or_true,Bool.or_false,Bool.and_true,Bool.and_false,hb,hb_1,hb_2])) z,u0⟩)))))
   exact Qk 25 hb_2 z (Qd z ((Es0 [2] z ⟨.imm (Sub.of_eq (show Ab ((decide ((W ((a0.Basin.Cells.length:Int)*(a0.Days.length:Int)))≤15))&&((decide ((a0.Basin.Pairs.length:Int)≤8))&&((decide ((a0.Sights.length:Int)≤10))&&(decide ((a0.Changes.length:Int)≤10)))))=Ab false by simp only [cond_true,cond_false,Bool.true_or,Bool.false_or,Bool.true_and,Bool.false_and,Bool.or_true,Bool.or_false,Bool.and_true,Bool.and_false,hb,hb_1,hb_2])) z,u0⟩)))
  exact Qk 19 hb_1 z (Qd z ((Es0 [2] z ⟨.imm (Sub.of_eq (show Ab ((decide ((W ((a0.Basin.Cells.length:Int)*(a0.Days.length:Int)))≤15))&&((decide ((a0.Basin.Pairs.length:Int)≤8))&&((decide ((a0.Sights.length:Int)≤10))&&(decide ((a0.Changes.length:Int)≤10)))))=Ab false by simp only [cond_true,cond_false,Bool.true_or,Bool.false_or,Bool.true_and,Bool.false_and,Bool.or_true,Bool.or_false,Bool.and_true,Bool.and_false,hb,hb_1])) z,u0⟩)))
 exact Qk 12 hb z (Qd z ((Es0 [2] z ⟨.imm (Sub.of_eq (show Ab ((decide ((W ((a0.Basin.Cells.length:Int)*(a0.Days.length:Int)))≤15))&&((decide ((a0.Basin.Pairs.length:Int)≤8))&&((decide ((a0.Sights.length:Int)≤10))&&(decide ((a0.Changes.length:Int)≤10)))))=Ab false by simp only [cond_true,cond_false,Bool.true_or,Bool.false_or,Bool.true_and,Bool.false_and,Bool.or_true,Bool.or_false,Bool.and_true,Bool.and_false,hb])) z,u0⟩)))
theorem f36_ok {K:Nat} {a0:Scene} {r:Bool} (h:f36 K a0=some r):CallOK Tryz.prog 36 [.agg (Scene.cl a0)] [] (Ab r) []:=by
 refine Co Tryz.func36 z z (nl z) ?_
 unfold f36 at h
 refine Tp z (Ts ?_)
 obtain⟨v2,hj,h⟩:=bs h
 refine Tri.joinv v2 (fun(y:Bool)=>⟨[(2,Ab y)],[]⟩) ?_ ?_
 ·refine Te ?_
  exact Rb h z
 have h:=hj
 refine Tri.region (Qe 1 z ?_)
 obtain⟨x4,hc,h⟩:=bs h
 refine Qc z z z (args:=[.agg (Scene.cl a0)]) (r:=Ab x4) (calv z z fnok_106 z) (f106_ok hc) z (Qe 1 z ?_)
 rcases b2 x4 with hb | hb
 ·have h:=cq hb h
  refine Qk 5 hb z (Qe 1 z ?_)
  obtain⟨x7,hc_1,h⟩:=bs h
  refine Qc z z z (args:=[.agg (Scene.cl a0)]) (r:=Ai x7) (calv z z fnok_66 z) (f66_ok hc_1) z (Qe 3 z ?_)
  rcases b2 (x7==0) with hb_1 | hb_1
  ·have h:=cq hb_1 h
   refine Qk 10 hb_1 z (Qe 1 z ?_)
   obtain⟨x12,hc_2,h⟩:=bs h
   exact Qc z z z (args:=[.agg (Scene.cl a0)]) (r:=Ai x12) (calv z z fnok_76 z) (f76_ok hc_2) z (Qd z (Xi (x12==0) (An h (E0 z))))
  have h:=cw hb_1 h
  exact Qk 10 hb_1 z (Qd z (Xi false (An h (E0 z))))
 have h:=cw hb h
 exact Qk 5 hb z (Qd z (Xi false (An h (E0 z))))
theorem f210_ok {K:Nat} {a0:Cell} {a1:Int} {r:Bool} (h:f210 K a0 a1=some r):CallOK Tryz.prog 210 [.agg (Cell.cl a0),.ipt (icl a1) 0] [] (Ab r) []:=by
 refine Co Tryz.func210 z z (nl z) ?_
 unfold f210 at h
 refine Tp z (Tp z (Te ?_))
 exact Rb h z
theorem f94_ok {K:Nat} {a0:Scene} {a1:Int} {a2:Int} {r:Int × Int × Bool} (h:f94 K a0 a1 a2=some r):CallOK Tryz.prog 94 [.agg (Scene.cl a0),Ai a1,Ai a2] [] (.tup [Ai r.1,Ai r.2.1,Ab r.2.2]) []:=by
 refine Co Tryz.func94 z z (nl z) ?_
 unfold f94 at h
 refine Tp z (Tr (Qe 3 z (Q1 z z z (v:=.fn 210 [.ipt (icl a1) 0]) (Ax.func z z) ?_)))
 obtain⟨x13,hc,h⟩:=bs h
 refine Qc z z z (args:=[.lst 4 (a0.Basin.Cells.map Cell.cl),.fn 210 [.ipt (icl a1) 0]]) (r:=Ai x13) (calv z z fnok_209 z) (f209_ok fnok_210 z (fun _ _ hr=>f210_ok hr) hc) z (Qd z (Tr (Qe 3 z ?_)))
 obtain⟨x17,hc_1,h⟩:=bs h
 refine Qc z z z (args:=[.lst 1 (a0.Days.map icl),Ai a2]) (r:=Ai x17) (calv z z fnok_194 z) (f194_ok hc_1) z (Qd z (Ts (Tri.join1 ⟨[(6,Ai x13),(7,Ai x17),(8,Ab ((decide (x13≥0))&&(decide (x17≥0))))],[]⟩ ?_ ?_)))
 ·refine Te ?_
  refine Rr (fun r=>.tup [Ai r.1,Ai r.2.1,Ab r.2.2]) (fun r=>[]) [] h ?_ u0
  rfl
 refine Tri.region (Qe 5 z ?_)
 rcases b2 (decide (x13≥0)) with hb | hb
 ·exact Qk 22 hb z (Qd z ((Es0 [8] z ⟨.imm (Sub.of_eq (show Ab ((decide (x13≥0))&&(decide (x17≥0)))=Ab (decide (x17≥0)) by simp only [cond_true,cond_false,Bool.true_or,Bool.false_or,Bool.true_and,Bool.false_and,Bool.or_true,Bool.or_false,Bool.and_true,Bool.and_false,hb])) z,u0⟩)))
 exact Qk 22 hb z (Qd z ((Es0 [8] z ⟨.imm (Sub.of_eq (show Ab ((decide (x13≥0))&&(decide (x17≥0)))=Ab false by simp only [cond_true,cond_false,Bool.true_or,Bool.false_or,Bool.true_and,Bool.false_and,Bool.or_true,Bool.or_false,Bool.and_true,Bool.and_false,hb])) z,u0⟩)))
theorem f123_ok {K:Nat} {a0:List (List Int)} {a1:List Int→Option Bool} {g1:Nat} {caps1:List AV} {r:Int} (hg1:FnOK Tryz.prog g1) (ho1:(AV.fn g1 caps1).only []=true) (hp1:∀ x0 r,a1 x0=some r→CallOK Tryz.prog g1 ([.lst 1 (x0.map icl)]++caps1) [] (Ab r) []) (h:f123 K a0 a1=some r):CallOK Tryz.prog 123 [.lst 1 (a0.map cl26),.fn g1 caps1] [] (Ai r) []:=by
 refine Co Tryz.func123 z z (nl z) ?_
 unfold f123 at h
 refine Tp z (Ts (Tr (Qe 1 z (Q1 z z z (Ax.ln (cl:=cl26) z slc_44 z) (Qd z ?_)))))
 obtain⟨j,hj,h⟩:=jo h
 refine Tri.rngL h (fun p=>⟨[(0,.lst 1 (a0.map cl26)),(1,.fn g1 caps1),(7,Ai (a0.length:Int)),(8,Ai p.1)],[]⟩) (fun y=>j y=some r) (fun(y:Unit)=>⟨[],[]⟩) (Es0 [1] z ⟨.imm (Sub.refl _) ho1,u0⟩) ?_ ?_ ?_
 ·rintro⟨⟩ h
  subst hj
  refine Tp z (Te ?_)
  exact Ri h z
 ·rintro v8 ⟨⟩ hi h
  refine Tp z (Ts (Tc (b:=(decide (v8 < (a0.length:Int)))) z (fun hb=>?_) (fun hb=>?_)))
  ·exact(lt_f hi hb).elim
  exact Tri.exit (Xi () (An h (E0 z)))
 rintro nx x v8 ⟨⟩ _ hi hw hx h
 refine Tp z (Ts (Tc (b:=(decide (v8 < (a0.length:Int)))) z (fun hb_1=>?_) (fun hb_1=>?_)))
 ·refine Tk (Ts (Tri.block (Tp z (Tr (Qe 3 z (Q1 z z z (Ax.ix (cl:=cl26) z slc_44 z z hx) (Qe 1 z ?_)))))))
  obtain⟨x16,hc,h⟩:=bs h
  refine Qc z z z (args:=[.lst 1 (x.map icl)]++caps1) (r:=Ab x16) (calv z z hg1 z) (hp1 _ _ hc) z (Rx (Tc (b:=x16) z (fun hb_2=>?_) (fun hb_2=>?_)))
  ·have h:=cq hb_2 h
   refine Tp z (Te ?_)
   exact Ri h z
  have h:=cw hb_2 h
  exact Tk (Tq z (Xi (v8+1,()) (An (An z h) (Es0 [1,8] z ⟨.imm (Sub.refl _) ho1,.imm (Sub.of_eq (show Ai (v8+1)=Ai (W (v8+1)) from congrArg Ai hw.symm)) z,u0⟩))))
 exact(lt_t hi hb_1).elim
theorem f47_ok {K:Nat} {a0:List (List Int)} {a1:List Int→Option Bool} {g1:Nat} {caps1:List AV} {r:Bool} (hg1:FnOK Tryz.prog g1) (ho1:(AV.fn g1 caps1).only []=true) (hp1:∀ x0 r,a1 x0=some r→CallOK Tryz.prog g1 ([.lst 1 (x0.map icl)]++caps1) [] (Ab r) []) (h:f47 K a0 a1=some r):CallOK Tryz.prog 47 [.lst 1 (a0.map cl26),.fn g1 caps1] [] (Ab r) []:=by
 refine Co Tryz.func47 z z (nl z) ?_
 unfold f47 at h
 refine Tp z (Tr (Qe 2 z ?_))
 obtain⟨x7,hc,h⟩:=bs h
 refine Qc z z z (args:=[.lst 1 (a0.map cl26),.fn g1 caps1]) (r:=Ai x7) (calv z z fnok_123 z) (f123_ok hg1 ho1 hp1 hc) z (Qd z (Te ?_))
 exact Rb h z
theorem f234_ok {K:Nat} {a0:List Int} {a1:Scene} {r:Bool} (h:f234 K a0 a1=some r):CallOK Tryz.prog 234 [.lst 1 (a0.map icl),.ipt (Scene.cl a1) 0] [] (Ab r) []:=by
 refine Co Tryz.func234 z z (nl z) ?_
 unfold f234 at h
 refine Tp z (Tr (Qe 1 z (Q1 z z z (Ax.ln (cl:=icl) z slc_26 z) (Qe 3 z (Q1 z z z (Ax.ln (cl:=Cell.cl) z slc_22 z) (Qd z (Te ?_)))))))
 exact Rb h z
theorem f119_ok {K:Nat} {a0:Scene} {a1:List (List Int)} {r:Bool} (h:f119 K a0 a1=some r):CallOK Tryz.prog 119 [.agg (Scene.cl a0),.lst 1 (a1.map cl26)] [] (Ab r) []:=by
 refine Co Tryz.func119 z z (nl z) ?_
 unfold f119 at h
 refine Tp z (Ts ?_)
 obtain⟨v4,hj,h⟩:=bs h
 refine Tri.joinv v4 (fun(y:Bool)=>⟨[(4,Ab y)],[]⟩) ?_ ?_
 ·refine Te ?_
  exact Rb h z
 have h:=hj
 refine Tri.region (Qe 1 z (Q1 z z z (Ax.ln (cl:=cl26) z slc_44 z) (Qe 2 z (Q1 z z z (Ax.ln (cl:=icl) z slc_26 z) (Qe 2 z ?_)))))
 rcases b2 ((a1.length:Int)==(a0.Days.length:Int)) with hb | hb
 ·have h:=cq hb h
  refine Qk 11 hb z (Qe 1 z (Q1 z z z (v:=.fn 234 [.ipt (Scene.cl a0) 0]) (Ax.func z z) ?_))
  obtain⟨x14,hc,h⟩:=bs h
  exact Qc z z z (args:=[.lst 1 (a1.map cl26),.fn 234 [.ipt (Scene.cl a0) 0]]) (r:=Ab x14) (calv z z fnok_47 z) (f47_ok fnok_234 z (fun _ _ hr=>f234_ok hr) hc) z (Qd z (Xi (!x14) (An h (E0 z))))
 have h:=cw hb h
 exact Qk 11 hb z (Qd z (Xi false (An h (E0 z))))
theorem f37_ok {K:Nat} {a0:Scene} {a1:List (List Int)} {r:Bool} (h:f37 K a0 a1=some r):CallOK Tryz.prog 37 [.agg (Scene.cl a0),.lst 1 (a1.map cl26)] [] (Ab r) []:=by
 refine Co Tryz.func37 z z (nl z) ?_
 unfold f37 at h
 refine Tp z (Ts (Tr (Qe 2 z ?_)))
 obtain⟨x31,hc,h⟩:=bs h
 refine Qc z z z (args:=[.agg (Scene.cl a0),.lst 1 (a1.map cl26)]) (r:=Ab x31) (calv z z fnok_119 z) (f119_ok hc) z (Qd z (Tc (b:=(!x31)) z (fun hb=>?_) (fun hb=>?_)))
 ·have h:=cq hb h
  refine Tp z (Te ?_)
  exact Rb h z
 have h:=cw hb h
 refine Tk (Tr (Qe 2 z (Qn z z z (v:=.ptr 5 0) (x:=some (.box (Basin.cl (⟨([]:List Cell),([]:List Arr2_3),0,0,0⟩:Basin)))) (Al_ z z zer_25 z ⟨Sub.nil _,Sub.nil _,Sub.refl _,Sub.refl _,Sub.refl _,u0⟩) z z z z z (Qs z z (x:=some (.box (Basin.cl a0.Basin))) (As z siz_25 z z z z z z z) (Rx (Ts (Tr (Qe 1 z (Q1 z z z (Ax.ln (cl:=cl26) z slc_44 z) (Qd z ?_))))))))))
 obtain⟨j,hj,h⟩:=jo h
 refine Tri.rngL h (fun p=>⟨[(1,.lst 1 (a1.map cl26)),(2,.ipt (Scene.cl a0) 0),(5,.ptr 5 0),(35,.lst 1 (a1.map cl26)),(36,Ai (a1.length:Int)),(37,Ai p.1)],[(5,some (.box (Basin.cl a0.Basin)))]⟩) (fun y=>j y=some r) (fun(y:Unit)=>⟨[(1,.lst 1 (a1.map cl26)),(2,.ipt (Scene.cl a0) 0)],[]⟩) (Ee [5] z u0) ?_ ?_ ?_
 ·rintro⟨⟩ h
  subst hj
  refine Ts (Tr (Qe 2 z (Q1 z z z (Ax.ln (cl:=Sight.cl) z slc_27 z) (Qd z ?_))))
  obtain⟨j_1,hj_1,h⟩:=jo h
  refine Tri.rngL h (fun p=>⟨[(1,.lst 1 (a1.map cl26)),(2,.ipt (Scene.cl a0) 0),(134,.lst 5 (a0.Sights.map Sight.cl)),(135,Ai (a0.Sights.length:Int)),(136,Ai p.1)],[]⟩) (fun y=>j_1 y=some r) (fun(y:Unit)=>⟨[(1,.lst 1 (a1.map cl26)),(2,.ipt (Scene.cl a0) 0)],[]⟩) (E0 z) ?_ ?_ ?_
  ·rintro⟨⟩ h
   subst hj_1
   refine Ts (Tr (Qe 2 z (Q1 z z z (Ax.ln (cl:=Change.cl) z slc_28 z) (Qd z ?_))))
   obtain⟨j_2,hj_2,h⟩:=jo h
   refine Tri.rngL h (fun p=>⟨[(1,.lst 1 (a1.map cl26)),(2,.ipt (Scene.cl a0) 0),(178,.lst 5 (a0.Changes.map Change.cl)),(179,Ai (a0.Changes.length:Int)),(180,Ai p.1)],[]⟩) (fun y=>j_2 y=some r) (fun(y:Unit)=>⟨[],[]⟩) (E0 z) ?_ ?_ ?_
   ·rintro⟨⟩ h
    subst hj_2
    refine Tp z (Te ?_)
    exact Rb h z
   ·rintro v180 ⟨⟩ hi_2 h
    refine Tp z (Ts (Tc (b:=(decide (v180 < (a0.Changes.length:Int)))) z (fun hb_1=>?_) (fun hb_1=>?_)))
    ·exact(lt_f hi_2 hb_1).elim
    exact Tri.exit (Xi () (An h (E0 z)))
   rintro nx_2 x_2 v180 ⟨⟩ _ hi_2 hw_2 hx_2 h
   refine Tp z (Ts (Tc (b:=(decide (v180 < (a0.Changes.length:Int)))) z (fun hb_2=>?_) (fun hb_2=>?_)))
   ·refine Tk (Ts (Tri.block (Tr (Q1 z z z (Ax.ix (cl:=Change.cl) z slc_28 z z hx_2) (Qe 1 z (Qn z z z (v:=.ptr 22 0) (x:=some (.box (Change.cl (⟨0,0,0,0,0⟩:Change)))) (Al_ z z zer_67 z ⟨Sub.refl _,Sub.refl _,Sub.refl _,Sub.refl _,Sub.refl _,u0⟩) z z z z z (Qs z z (x:=some (.box (Change.cl x_2))) (As z siz_67 z z z z z z z) (Rx (Tr (Qe 5 z ?_))))))))))
    obtain⟨⟨x190_0,x190_1,x190_2⟩,hc_1,h⟩:=bs h
    refine Qc z z z (args:=[.agg (Scene.cl a0),Ai x_2.Cell,Ai x_2.From]) (r:=.tup [Ai x190_0,Ai x190_1,Ab x190_2]) (calv z z fnok_94 z) (f94_ok hc_1) z (Qd z (Tr (Qe 5 z ?_)))
    obtain⟨⟨x200_0,x200_1,x200_2⟩,hc_2,h⟩:=bs h
    refine Qc z z z (args:=[.agg (Scene.cl a0),Ai x_2.Cell,Ai x_2.To]) (r:=.tup [Ai x200_0,Ai x200_1,Ab x200_2]) (calv z z fnok_94 z) (f94_ok hc_2) z (Qd z (Ts ?_))
    obtain⟨v249,hj_3,h⟩:=bs h
    refine Tri.joinv v249 (fun(y:Bool)=>⟨[(1,.lst 1 (a1.map cl26)),(2,.ipt (Scene.cl a0) 0),(178,.lst 5 (a0.Changes.map Change.cl)),(179,Ai (a0.Changes.length:Int)),(180,Ai v180),(249,Ab y)],[]⟩) ?_ ?_
    ·refine Tc (b:=v249) z (fun hb_3=>?_) (fun hb_3=>?_)
     ·have h:=cq hb_3 h
      refine Tp z (Te ?_)
      exact Rb h z
     have h:=cw hb_3 h
     exact Tk (Tq z (Xi (v180+1,()) (An (An z h) (Es0 [180] z ⟨.imm (Sub.of_eq (show Ai (v180+1)=Ai (W (v180+1)) from congrArg Ai hw_2.symm)) z,u0⟩))))
    have h:=hj_3
    refine Td [] hmix (by kernel_rfl) (Qe 3 z ?_)
    rcases b2 (!x190_2) with hb_4 | hb_4
    ·have h:=cq hb_4 h
     refine Qk 206 hb_4 z (Qe 43 z (Rx ⟨by kernel_rfl,freshL_of [] (by kernel_rfl) (by kernel_rfl),?_⟩))
     exact Xi true (An h (E0 z))
    have h:=cw hb_4 h
    refine Qk 206 hb_4 z (Qe 4 z ?_)
    rcases b2 (!x200_2) with hb_5 | hb_5
    ·have h:=cq hb_5 h
     refine Qk 210 hb_5 z (Qe 39 z (Rx ⟨by kernel_rfl,freshL_of [] (by kernel_rfl) (by kernel_rfl),?_⟩))
     exact Xi true (An h (E0 z))
    have h:=cw hb_5 h
    refine Qk 210 hb_5 z (Qe 2 z ?_)
    obtain⟨y,hy,h⟩:=bs h
    refine Q1 z z z (Ax.ix (cl:=cl26) z slc_44 z z hy) (Qe 2 z ?_)
    obtain⟨y_1,hy_1,h⟩:=bs h
    refine Q1 z z z (Ax.ix (cl:=icl) z slc_26 z z hy_1) (Qe 3 z ?_)
    obtain⟨y_2,hy_2,h⟩:=bs h
    refine Q1 z z z (Ax.ix (cl:=cl26) z slc_44 z z hy_2) (Qe 2 z ?_)
    obtain⟨y_3,hy_3,h⟩:=bs h
    refine Q1 z z z (Ax.ix (cl:=icl) z slc_26 z z hy_3) (Qe 7 z ?_)
    rcases b2 (decide ((W (y_1 - y_3)) < x_2.Lo)) with hb_6 | hb_6
    ·have h:=cq hb_6 h
     refine Qk 230 hb_6 z (Qe 19 z (Rx ⟨by kernel_rfl,freshL_of [] (by kernel_rfl) (by kernel_rfl),?_⟩))
     exact Xi true (An h (E0 z))
    have h:=cw hb_6 h
    refine Qk 230 hb_6 z (Qe 2 z (Q1 z z z (Ax.ix (cl:=cl26) z slc_44 z z hy) (Qe 2 z (Q1 z z z (Ax.ix (cl:=icl) z slc_26 z z hy_1) (Qe 3 z (Q1 z z z (Ax.ix (cl:=cl26) z slc_44 z z hy_2) (Qe 2 z (Q1 z z z (Ax.ix (cl:=icl) z slc_26 z z hy_3) (Qe 6 z (Rx ⟨by kernel_rfl,freshL_of [] (by kernel_rfl) (by kernel_rfl),?_⟩))))))))))
    exact Xi (decide ((W (y_1 - y_3)) > x_2.Hi)) (An h (E0 z))
   exact(lt_t hi_2 hb_2).elim
  ·rintro v136 ⟨⟩ hi_1 h
   refine Tp z (Ts (Tc (b:=(decide (v136 < (a0.Sights.length:Int)))) z (fun hb_7=>?_) (fun hb_7=>?_)))
   ·exact(lt_f hi_1 hb_7).elim
   exact Tri.exit (Xi () (An h (E0 z)))
  rintro nx_1 x_1 v136 ⟨⟩ _ hi_1 hw_1 hx_1 h
  refine Tp z (Ts (Tc (b:=(decide (v136 < (a0.Sights.length:Int)))) z (fun hb_8=>?_) (fun hb_8=>?_)))
  ·refine Tk (Ts (Tri.block (Tr (Q1 z z z (Ax.ix (cl:=Sight.cl) z slc_27 z z hx_1) (Qe 1 z (Qn z z z (v:=.ptr 17 0) (x:=some (.box (Sight.cl (⟨0,0,0,0,0⟩:Sight)))) (Al_ z z zer_64 z ⟨Sub.refl _,Sub.refl _,Sub.refl _,Sub.refl _,Sub.refl _,u0⟩) z z z z z (Qs z z (x:=some (.box (Sight.cl x_1))) (As z siz_64 z z z z z z z) (Rx (Tr (Qe 5 z ?_))))))))))
   obtain⟨⟨x146_0,x146_1,x146_2⟩,hc_3,h⟩:=bs h
   refine Qc z z z (args:=[.agg (Scene.cl a0),Ai x_1.Cell,Ai x_1.Day]) (r:=.tup [Ai x146_0,Ai x146_1,Ab x146_2]) (calv z z fnok_94 z) (f94_ok hc_3) z (Qd z (Ts ?_))
   obtain⟨v175,hj_4,h⟩:=bs h
   refine Tri.joinv v175 (fun(y:Bool)=>⟨[(1,.lst 1 (a1.map cl26)),(2,.ipt (Scene.cl a0) 0),(134,.lst 5 (a0.Sights.map Sight.cl)),(135,Ai (a0.Sights.length:Int)),(136,Ai v136),(175,Ab y)],[]⟩) ?_ ?_
   ·refine Tc (b:=v175) z (fun hb_9=>?_) (fun hb_9=>?_)
    ·have h:=cq hb_9 h
     refine Tp z (Te ?_)
     exact Rb h z
    have h:=cw hb_9 h
    exact Tk (Tq z (Xi (v136+1,()) (An (An z h) (Es0 [136] z ⟨.imm (Sub.of_eq (show Ai (v136+1)=Ai (W (v136+1)) from congrArg Ai hw_1.symm)) z,u0⟩))))
   have h:=hj_4
   refine Td [] hmix (by kernel_rfl) (Qe 3 z ?_)
   rcases b2 (!x146_2) with hb_10 | hb_10
   ·have h:=cq hb_10 h
    refine Qk 152 hb_10 z (Qe 23 z (Rx ⟨by kernel_rfl,freshL_of [] (by kernel_rfl) (by kernel_rfl),?_⟩))
    exact Xi true (An h (E0 z))
   have h:=cw hb_10 h
   refine Qk 152 hb_10 z (Qe 2 z ?_)
   obtain⟨y_4,hy_4,h⟩:=bs h
   refine Q1 z z z (Ax.ix (cl:=cl26) z slc_44 z z hy_4) (Qe 2 z ?_)
   obtain⟨y_5,hy_5,h⟩:=bs h
   refine Q1 z z z (Ax.ix (cl:=icl) z slc_26 z z hy_5) (Qe 6 z ?_)
   rcases b2 (decide (y_5 < x_1.Lo)) with hb_11 | hb_11
   ·have h:=cq hb_11 h
    refine Qk 164 hb_11 z (Qe 11 z (Rx ⟨by kernel_rfl,freshL_of [] (by kernel_rfl) (by kernel_rfl),?_⟩))
    exact Xi true (An h (E0 z))
   have h:=cw hb_11 h
   refine Qk 164 hb_11 z (Qe 2 z (Q1 z z z (Ax.ix (cl:=cl26) z slc_44 z z hy_4) (Qe 2 z (Q1 z z z (Ax.ix (cl:=icl) z slc_26 z z hy_5) (Qe 5 z (Rx ⟨by kernel_rfl,freshL_of [] (by kernel_rfl) (by kernel_rfl),?_⟩))))))
   exact Xi (decide (y_5 > x_1.Hi)) (An h (E0 z))
  exact(lt_t hi_1 hb_8).elim
 ·rintro v37 ⟨⟩ hi h
  refine Tp z (Ts (Tc (b:=(decide (v37 < (a1.length:Int)))) z (fun hb_12=>?_) (fun hb_12=>?_)))
  ·exact(lt_f hi hb_12).elim
  exact Tri.exit (Xi () (An h (E0 z)))
 rintro nx x v37 ⟨⟩ _ hi hw hx h
 refine Tp z (Ts (Tc (b:=(decide (v37 < (a1.length:Int)))) z (fun hb_13=>?_) (fun hb_13=>?_)))
 ·refine Tk (Ts (Tri.block (Tr (Q1 z z z (Ax.ix (cl:=cl26) z slc_44 z z hx) (Qd z (Ts (Tr (Qe 1 z (Q1 z z z (Ax.ln (cl:=icl) z slc_26 z) (Qd z ?_))))))))))
  obtain⟨j_3,hj_5,h⟩:=jo h
  refine Tri.rngL h (fun p=>⟨[(1,.lst 1 (a1.map cl26)),(2,.ipt (Scene.cl a0) 0),(5,.ptr 5 0),(7,.lst 1 (x.map icl)),(35,.lst 1 (a1.map cl26)),(36,Ai (a1.length:Int)),(37,Ai v37),(41,.lst 1 (x.map icl)),(42,Ai (x.length:Int)),(43,Ai p.1)],[(5,some (.box (Basin.cl a0.Basin)))]⟩) (fun y=>j_3 y=some r) (fun(y:Unit)=>⟨[(1,.lst 1 (a1.map cl26)),(2,.ipt (Scene.cl a0) 0),(5,.ptr 5 0),(7,.lst 1 (x.map icl)),(35,.lst 1 (a1.map cl26)),(36,Ai (a1.length:Int)),(37,Ai v37)],[(5,some (.box (Basin.cl a0.Basin)))]⟩) (Ee [5] z u0) ?_ ?_ ?_
  ·rintro⟨⟩ h
   subst hj_5
   refine Tr (Qe 2 z (Q1 z z z (Ax.ln (cl:=Arr2_3.cl) z slc_23 z) (Qd z ?_)))
   obtain⟨j_4,hj_6,h⟩:=jo h
   refine Tri.rngL h (fun p=>⟨[(1,.lst 1 (a1.map cl26)),(2,.ipt (Scene.cl a0) 0),(5,.ptr 5 0),(7,.lst 1 (x.map icl)),(35,.lst 1 (a1.map cl26)),(36,Ai (a1.length:Int)),(37,Ai v37),(57,.lst 2 (a0.Basin.Pairs.map Arr2_3.cl)),(58,Ai (a0.Basin.Pairs.length:Int)),(59,Ai p.1)],[(5,some (.box (Basin.cl a0.Basin)))]⟩) (fun y=>j_4 y=some r) (fun(y:Unit)=>⟨[(1,.lst 1 (a1.map cl26)),(2,.ipt (Scene.cl a0) 0),(5,.ptr 5 0),(35,.lst 1 (a1.map cl26)),(36,Ai (a1.length:Int)),(37,Ai v37)],[(5,some (.box (Basin.cl a0.Basin)))]⟩) (Ee [5] z u0) ?_ ?_ ?_
   ·rintro⟨⟩ h
    subst hj_6
    exact Tq z (Xi (v37+1,()) (An (An z h) (Es [5] [37] z u0 ⟨.imm (Sub.of_eq (show Ai (v37+1)=Ai (W (v37+1)) from congrArg Ai hw.symm)) z,u0⟩)))
   ·rintro v59 ⟨⟩ hi_4 h
    refine Tp z (Ts (Tc (b:=(decide (v59 < (a0.Basin.Pairs.length:Int)))) z (fun hb_14=>?_) (fun hb_14=>?_)))
    ·exact(lt_f hi_4 hb_14).elim
    exact Tri.exit (Xi () (An h (Ee [5] z u0)))
   rintro nx_4 x_4 v59 ⟨⟩ _ hi_4 hw_4 hx_4 h
   refine Tp z (Ts (Tc (b:=(decide (v59 < (a0.Basin.Pairs.length:Int)))) z (fun hb_15=>?_) (fun hb_15=>?_)))
   ·refine Tk (Ts ?_)
    obtain⟨j_5,hj_7,h⟩:=jo h
    refine Tri.join (fun(y:Unit)=>⟨[(1,.lst 1 (a1.map cl26)),(2,.ipt (Scene.cl a0) 0),(5,.ptr 5 0),(7,.lst 1 (x.map icl)),(35,.lst 1 (a1.map cl26)),(36,Ai (a1.length:Int)),(37,Ai v37),(57,.lst 2 (a0.Basin.Pairs.map Arr2_3.cl)),(58,Ai (a0.Basin.Pairs.length:Int)),(59,Ai v59)],[(5,some (.box (Basin.cl a0.Basin)))]⟩) (fun y=>j_5 y=some r) ?_ ?_
    ·rintro⟨⟩ h
     subst hj_7
     exact Tq z (Xi (v59+1,()) (An (An z h) (Es [5] [59] z u0 ⟨.imm (Sub.of_eq (show Ai (v59+1)=Ai (W (v59+1)) from congrArg Ai hw_4.symm)) z,u0⟩)))
    refine Tri.block (Tr (Q1 z z z (Ax.ix (cl:=Arr2_3.cl) z slc_23 z z hx_4) (Qe 1 z (Qn z z z (v:=.ptr 11 0) (x:=some (.box (Arr2_3.cl (⟨0,0⟩:Arr2_3)))) (Al_ z z zer_97 z ⟨Sub.refl _,Sub.refl _,u0⟩) z z z z z (Qs z z (x:=some (.box (Arr2_3.cl x_4))) (As z siz_97 z z z z z z z) (Rx (Ts (Td [[],[0],[],[2],[0,1,2,3],[0,1,2,3,4],[],[6],[],[8],[6,7,8,9],[6,7,8,9,10],[],[],[0,1,2,3,4,5,12,13],[0,1,2,3,4,5,6,7,8,9,10,11,12,13,14]] hmix (by kernel_rfl) (Qe 2 z (Q1 z z z (Ax.index_ptr (k:=.i64) (n:=0) z arr_97 z z z (by decide) (by decide)) (Qe 1 z ?_)))))))))))
    obtain⟨y_6,hy_6,h⟩:=bs h
    refine Q1 z z z (Ax.ix (cl:=Cell.cl) z slc_22 z z hy_6) (Qe 3 z (Q1 z z z (Ax.index_ptr (k:=.i64) (n:=1) z arr_97 z z z (by decide) (by decide)) (Qe 1 z ?_)))
    obtain⟨y_7,hy_7,h⟩:=bs h
    refine Q1 z z z (Ax.ix (cl:=Cell.cl) z slc_22 z z hy_7) (Qe 1 z (Qn z z z (v:=.ptr 12 0) (x:=some (.box (Cell.cl (⟨0,0,0,0⟩:Cell)))) (Al_ z z zer_56 z ⟨Sub.refl _,Sub.refl _,Sub.refl _,Sub.refl _,u0⟩) z z z z z (Qn z z z (v:=.ptr 13 0) (x:=some (.box (Cell.cl (⟨0,0,0,0⟩:Cell)))) (Al_ z z zer_56 z ⟨Sub.refl _,Sub.refl _,Sub.refl _,Sub.refl _,u0⟩) z z z z z (Qs z z (x:=some (.box (Cell.cl y_6))) (As z siz_56 z z z z z z z) (Qs z z (x:=some (.box (Cell.cl y_7))) (As z siz_56 z z z z z z z) (Rx ⟨by kernel_rfl,freshL_of [12,13] (by kernel_rfl) (by kernel_rfl),?_⟩))))))
    refine Tr (Qe 6 z (Q1 z z z (v:=Ai (Int.tmod (W ((W (y_6.Aspect - y_7.Aspect))+8)) 8)) (Ax.div z z z (.inr z) (by decide)) (Qd z (Ts (Ts (Tri.join1 ⟨[(1,.lst 1 (a1.map cl26)),(2,.ipt (Scene.cl a0) 0),(5,.ptr 5 0),(7,.lst 1 (x.map icl)),(11,.ptr 11 0),(12,.ptr 12 0),(13,.ptr 13 0),(35,.lst 1 (a1.map cl26)),(36,Ai (a1.length:Int)),(37,Ai v37),(57,.lst 2 (a0.Basin.Pairs.map Arr2_3.cl)),(58,Ai (a0.Basin.Pairs.length:Int)),(59,Ai v59),(87,Ab ((decide ((Int.tmod (W ((W (y_6.Aspect - y_7.Aspect))+8)) 8) > 1))&&(decide ((Int.tmod (W ((W (y_6.Aspect - y_7.Aspect))+8)) 8) < 7))))],[(5,some (.box (Basin.cl a0.Basin))),(11,some (.box (Arr2_3.cl x_4))),(12,some (.box (Cell.cl y_6))),(13,some (.box (Cell.cl y_7)))]⟩ ?_ ?_))))))
    ·refine Tc (b:=((decide ((Int.tmod (W ((W (y_6.Aspect - y_7.Aspect))+8)) 8) > 1))&&(decide ((Int.tmod (W ((W (y_6.Aspect - y_7.Aspect))+8)) 8) < 7)))) z (fun hb_16=>?_) (fun hb_16=>?_)
     ·have h:=cq hb_16 h
      exact Tri.exit (Xi () (An h (Ee [5] z u0)))
     have h:=cw hb_16 h
     refine Tk (Ts (Td [] hmix (by kernel_rfl) (Qe 1 z (Q1 z z z (Ax.index_ptr (k:=.i64) (n:=1) z arr_97 z z z (by decide) (by decide)) (Qe 1 z ?_)))))
     obtain⟨y_8,hy_8,h⟩:=bs h
     refine Q1 z z z (Ax.ix (cl:=icl) z slc_26 z z hy_8) (Qe 2 z (Q1 z z z (Ax.index_ptr (k:=.i64) (n:=0) z arr_97 z z z (by decide) (by decide)) (Qe 1 z ?_)))
     obtain⟨y_9,hy_9,h⟩:=bs h
     refine Q1 z z z (Ax.ix (cl:=icl) z slc_26 z z hy_9) (Qe 3 z (Rx ⟨by kernel_rfl,freshL_of [] (by kernel_rfl) (by kernel_rfl),?_⟩))
     refine Ts (Tri.join1 ⟨[(1,.lst 1 (a1.map cl26)),(2,.ipt (Scene.cl a0) 0),(5,.ptr 5 0),(7,.lst 1 (x.map icl)),(35,.lst 1 (a1.map cl26)),(36,Ai (a1.length:Int)),(37,Ai v37),(57,.lst 2 (a0.Basin.Pairs.map Arr2_3.cl)),(58,Ai (a0.Basin.Pairs.length:Int)),(59,Ai v59),(130,Ab ((decide ((W (y_8 - y_9)) > (W (a0.Basin.Slack+(W (Int.tdiv (W (a0.Basin.Gain*(W (y_7.Height - y_6.Height)))) 100))))))||(bif (decide (y_6.Height < y_7.Height)) then ((decide ((W (y_8 - y_9)) < 0))||(decide ((W (y_8 - y_9)) < (W (-a0.Basin.Slack))))) else (decide ((W (y_8 - y_9)) < (W (-a0.Basin.Slack)))))))],[(5,some (.box (Basin.cl a0.Basin)))]⟩ ?_ ?_)
     ·refine Tc (b:=((decide ((W (y_8 - y_9)) > (W (a0.Basin.Slack+(W (Int.tdiv (W (a0.Basin.Gain*(W (y_7.Height - y_6.Height)))) 100))))))||(bif (decide (y_6.Height < y_7.Height)) then ((decide ((W (y_8 - y_9)) < 0))||(decide ((W (y_8 - y_9)) < (W (-a0.Basin.Slack))))) else (decide ((W (y_8 - y_9)) < (W (-a0.Basin.Slack))))))) z (fun hb_17=>?_) (fun hb_17=>?_)
      ·have h:=cq hb_17 h
       refine Tp z (Te ?_)
       exact Rb h z
      have h:=cw hb_17 h
      exact Tk (Xi () (An h (Ee [5] z u0)))
     refine Tri.region (Qe 11 z (Q1 z z z (v:=Ai (W (Int.tdiv (W (a0.Basin.Gain*(W (y_7.Height - y_6.Height)))) 100))) (Ax.div z z z (.inl z) (by decide)) (Qe 3 z ?_)))
     rcases b2 (decide ((W (y_8 - y_9)) > (W (a0.Basin.Slack+(W (Int.tdiv (W (a0.Basin.Gain*(W (y_7.Height - y_6.Height)))) 100)))))) with hb_18 | hb_18
     ·exact Qk 113 hb_18 z (Qd z ((Es [5] [130] z u0 ⟨.imm (Sub.of_eq (show Ab ((decide ((W (y_8 - y_9)) > (W (a0.Basin.Slack+(W (Int.tdiv (W (a0.Basin.Gain*(W (y_7.Height - y_6.Height)))) 100))))))||(bif (decide (y_6.Height < y_7.Height)) then ((decide ((W (y_8 - y_9)) < 0))||(decide ((W (y_8 - y_9)) < (W (-a0.Basin.Slack))))) else (decide ((W (y_8 - y_9)) < (W (-a0.Basin.Slack))))))=Ab true by simp only [cond_true,cond_false,Bool.true_or,Bool.false_or,Bool.true_and,Bool.false_and,Bool.or_true,Bool.or_false,Bool.and_true,Bool.and_false,hb,hb_13,hb_15,hb_16,hb_18])) z,u0⟩)))
     refine Qk 113 hb_18 z (Qe 6 z ?_)
     rcases b2 (decide (y_6.Height < y_7.Height)) with hb_19 | hb_19
     ·refine Qk 119 hb_19 z (Qe 5 z ?_)
      rcases b2 (decide ((W (y_8 - y_9)) < 0)) with hb_20 | hb_20
      ·exact Qk 124 hb_20 z (Qd z ((Es [5] [130] z u0 ⟨.imm (Sub.of_eq (show Ab ((decide ((W (y_8 - y_9)) > (W (a0.Basin.Slack+(W (Int.tdiv (W (a0.Basin.Gain*(W (y_7.Height - y_6.Height)))) 100))))))||(bif (decide (y_6.Height < y_7.Height)) then ((decide ((W (y_8 - y_9)) < 0))||(decide ((W (y_8 - y_9)) < (W (-a0.Basin.Slack))))) else (decide ((W (y_8 - y_9)) < (W (-a0.Basin.Slack))))))=Ab true by simp only [cond_true,cond_false,Bool.true_or,Bool.false_or,Bool.true_and,Bool.false_and,Bool.or_true,Bool.or_false,Bool.and_true,Bool.and_false,hb,hb_13,hb_15,hb_16,hb_18,hb_19,hb_20])) z,u0⟩)))
      exact Qk 124 hb_20 z (Qd z ((Es [5] [130] z u0 ⟨.imm (Sub.of_eq (show Ab ((decide ((W (y_8 - y_9)) > (W (a0.Basin.Slack+(W (Int.tdiv (W (a0.Basin.Gain*(W (y_7.Height - y_6.Height)))) 100))))))||(bif (decide (y_6.Height < y_7.Height)) then ((decide ((W (y_8 - y_9)) < 0))||(decide ((W (y_8 - y_9)) < (W (-a0.Basin.Slack))))) else (decide ((W (y_8 - y_9)) < (W (-a0.Basin.Slack))))))=Ab (decide ((W (y_8 - y_9)) < (W (-a0.Basin.Slack)))) by simp only [cond_true,cond_false,Bool.true_or,Bool.false_or,Bool.true_and,Bool.false_and,Bool.or_true,Bool.or_false,Bool.and_true,Bool.and_false,hb,hb_13,hb_15,hb_16,hb_18,hb_19,hb_20])) z,u0⟩)))
     exact Qk 119 hb_19 z (Qd z ((Es [5] [130] z u0 ⟨.imm (Sub.of_eq (show Ab ((decide ((W (y_8 - y_9)) > (W (a0.Basin.Slack+(W (Int.tdiv (W (a0.Basin.Gain*(W (y_7.Height - y_6.Height)))) 100))))))||(bif (decide (y_6.Height < y_7.Height)) then ((decide ((W (y_8 - y_9)) < 0))||(decide ((W (y_8 - y_9)) < (W (-a0.Basin.Slack))))) else (decide ((W (y_8 - y_9)) < (W (-a0.Basin.Slack))))))=Ab (decide ((W (y_8 - y_9)) < (W (-a0.Basin.Slack)))) by simp only [cond_true,cond_false,Bool.true_or,Bool.false_or,Bool.true_and,Bool.false_and,Bool.or_true,Bool.or_false,Bool.and_true,Bool.and_false,hb,hb_13,hb_15,hb_16,hb_18,hb_19])) z,u0⟩)))
    refine Tri.region (Qe 3 z ?_)
    rcases b2 (decide ((Int.tmod (W ((W (y_6.Aspect - y_7.Aspect))+8)) 8) > 1)) with hb_21 | hb_21
    ·exact Qk 84 hb_21 z (Qd z ((Es [5,11,12,13] [87] z u0 ⟨.imm (Sub.of_eq (show Ab ((decide ((Int.tmod (W ((W (y_6.Aspect - y_7.Aspect))+8)) 8) > 1))&&(decide ((Int.tmod (W ((W (y_6.Aspect - y_7.Aspect))+8)) 8) < 7)))=Ab (decide ((Int.tmod (W ((W (y_6.Aspect - y_7.Aspect))+8)) 8) < 7)) by simp only [cond_true,cond_false,Bool.true_or,Bool.false_or,Bool.true_and,Bool.false_and,Bool.or_true,Bool.or_false,Bool.and_true,Bool.and_false,hb,hb_13,hb_15,hb_21])) z,u0⟩)))
    exact Qk 84 hb_21 z (Qd z ((Es [5,11,12,13] [87] z u0 ⟨.imm (Sub.of_eq (show Ab ((decide ((Int.tmod (W ((W (y_6.Aspect - y_7.Aspect))+8)) 8) > 1))&&(decide ((Int.tmod (W ((W (y_6.Aspect - y_7.Aspect))+8)) 8) < 7)))=Ab false by simp only [cond_true,cond_false,Bool.true_or,Bool.false_or,Bool.true_and,Bool.false_and,Bool.or_true,Bool.or_false,Bool.and_true,Bool.and_false,hb,hb_13,hb_15,hb_21])) z,u0⟩)))
   exact(lt_t hi_4 hb_15).elim
  ·rintro v43 ⟨⟩ hi_3 h
   refine Tp z (Ts (Tc (b:=(decide (v43 < (x.length:Int)))) z (fun hb_22=>?_) (fun hb_22=>?_)))
   ·exact(lt_f hi_3 hb_22).elim
   exact Tri.exit (Xi () (An h (Ee [5] z u0)))
  rintro nx_3 x_3 v43 ⟨⟩ _ hi_3 hw_3 hx_3 h
  refine Tp z (Ts (Tc (b:=(decide (v43 < (x.length:Int)))) z (fun hb_23=>?_) (fun hb_23=>?_)))
  ·refine Tk (Ts (Tri.block (Tr (Q1 z z z (Ax.ix (cl:=icl) z slc_26 z z hx_3) (Qd z (Ts (Tri.join1 ⟨[(1,.lst 1 (a1.map cl26)),(2,.ipt (Scene.cl a0) 0),(5,.ptr 5 0),(7,.lst 1 (x.map icl)),(35,.lst 1 (a1.map cl26)),(36,Ai (a1.length:Int)),(37,Ai v37),(41,.lst 1 (x.map icl)),(42,Ai (x.length:Int)),(43,Ai v43),(54,Ab ((decide (x_3 < 0))||(decide (x_3 > a0.Basin.Deep))))],[(5,some (.box (Basin.cl a0.Basin)))]⟩ ?_ ?_)))))))
   ·refine Tc (b:=((decide (x_3 < 0))||(decide (x_3 > a0.Basin.Deep)))) z (fun hb_24=>?_) (fun hb_24=>?_)
    ·have h:=cq hb_24 h
     refine Tp z (Te ?_)
     exact Rb h z
    have h:=cw hb_24 h
    exact Tk (Tq z (Xi (v43+1,()) (An (An z h) (Es [5] [43] z u0 ⟨.imm (Sub.of_eq (show Ai (v43+1)=Ai (W (v43+1)) from congrArg Ai hw_3.symm)) z,u0⟩))))
   refine Tri.region (Qe 3 z ?_)
   rcases b2 (decide (x_3 < 0)) with hb_25 | hb_25
   ·exact Qk 49 hb_25 z (Qd z ((Es [5] [54] z u0 ⟨.imm (Sub.of_eq (show Ab ((decide (x_3 < 0))||(decide (x_3 > a0.Basin.Deep)))=Ab true by simp only [cond_true,cond_false,Bool.true_or,Bool.false_or,Bool.true_and,Bool.false_and,Bool.or_true,Bool.or_false,Bool.and_true,Bool.and_false,hb,hb_13,hb_23,hb_25])) z,u0⟩)))
   exact Qk 49 hb_25 z (Qd z ((Es [5] [54] z u0 ⟨.imm (Sub.of_eq (show Ab ((decide (x_3 < 0))||(decide (x_3 > a0.Basin.Deep)))=Ab (decide (x_3 > a0.Basin.Deep)) by simp only [cond_true,cond_false,Bool.true_or,Bool.false_or,Bool.true_and,Bool.false_and,Bool.or_true,Bool.or_false,Bool.and_true,Bool.and_false,hb,hb_13,hb_23,hb_25])) z,u0⟩)))
  exact(lt_t hi_3 hb_23).elim
 exact(lt_t hi hb_13).elim
theorem f38_ok {K:Nat} {a0:Int} {a1:Span} {r:Bool} (h:f38 K a0 a1=some r):CallOK Tryz.prog 38 [Ai a0,.agg (Span.cl a1)] [] (Ab r) []:=by
 refine Co Tryz.func38 z z (nl z) ?_
 unfold f38 at h
 refine Tp z (Ts (Tri.join1 ⟨[(4,Ab ((decide (a1.Lo≤a0))&&(decide (a0≤a1.Hi))))],[]⟩ ?_ ?_))
 ·refine Te ?_
  exact Rb h z
 refine Tri.region (Qe 5 z ?_)
 rcases b2 (decide (a1.Lo≤a0)) with hb | hb
 ·exact Qk 9 hb z (Qd z ((Es0 [4] z ⟨.imm (Sub.of_eq (show Ab ((decide (a1.Lo≤a0))&&(decide (a0≤a1.Hi)))=Ab (decide (a0≤a1.Hi)) by simp only [cond_true,cond_false,Bool.true_or,Bool.false_or,Bool.true_and,Bool.false_and,Bool.or_true,Bool.or_false,Bool.and_true,Bool.and_false,hb])) z,u0⟩)))
 exact Qk 9 hb z (Qd z ((Es0 [4] z ⟨.imm (Sub.of_eq (show Ab ((decide (a1.Lo≤a0))&&(decide (a0≤a1.Hi)))=Ab false by simp only [cond_true,cond_false,Bool.true_or,Bool.false_or,Bool.true_and,Bool.false_and,Bool.or_true,Bool.or_false,Bool.and_true,Bool.and_false,hb])) z,u0⟩)))
theorem f41_ok {K:Nat} {a0:Scene} {a1:List Int} {a2:Int} {a3:List (List Int)} {r:Int} (h:f41 K a0 a1 a2 a3=some r):CallOK Tryz.prog 41 [.agg (Scene.cl a0),.lst 1 (a1.map icl),Ai a2,.lst 1 (a3.map cl26)] [] (Ai r) []:=by
 refine Co Tryz.func41 z z (nl z) ?_
 unfold f41 at h
 refine Tp z (Ts (Tr (Qe 1 z (Q1 z z z (Ax.ln (cl:=icl) z slc_26 z) (Qd z ?_)))))
 obtain⟨v8_1,hj,h⟩:=bs h
 refine Tri.rngLv hj (fun p=>⟨[(2,Ai a2),(3,.lst 1 (a3.map cl26)),(4,.ipt (Scene.cl a0) 0),(8,Ai p.2),(14,.lst 1 (a1.map icl)),(15,Ai (a1.length:Int)),(16,Ai p.1)],[]⟩) (fun(y:Int)=>⟨[(8,Ai y)],[]⟩) (E0 z) ?_ ?_ ?_
 ·refine Tp z (Te ?_)
  exact Ri h z
 ·rintro v16 v8 hi h
  refine Tp z (Ts (Tc (b:=(decide (v16 < (a1.length:Int)))) z (fun hb=>?_) (fun hb=>?_)))
  ·exact(lt_f hi hb).elim
  exact Tri.exit (Xi v8 (An h (E0 z)))
 rintro nx x v16 v8 _ hi hw hx h
 refine Tp z (Ts (Tc (b:=(decide (v16 < (a1.length:Int)))) z (fun hb_1=>?_) (fun hb_1=>?_)))
 ·refine Tk (Ts (Tri.block (Tr (Q1 z z z (Ax.ix (cl:=icl) z slc_26 z z hx) (Qd z (Tr (Qe 3 z ?_)))))))
  obtain⟨⟨x24_0,x24_1,x24_2⟩,hc,h⟩:=bs h
  refine Qc z z z (args:=[.agg (Scene.cl a0),Ai x,Ai a2]) (r:=.tup [Ai x24_0,Ai x24_1,Ab x24_2]) (calv z z fnok_94 z) (f94_ok hc) z (Qd z (Tp z ?_))
  obtain⟨v8_2,hj_1,h⟩:=bs h
  refine Tri.joinv v8_2 (fun(y:Int)=>⟨[(2,Ai a2),(3,.lst 1 (a3.map cl26)),(4,.ipt (Scene.cl a0) 0),(8,Ai y),(14,.lst 1 (a1.map icl)),(15,Ai (a1.length:Int)),(16,Ai v16)],[]⟩) ?_ ?_
  ·exact Tq z (Xi (v16+1,v8_2) (An (An z h) (Es0 [16] z ⟨.imm (Sub.of_eq (show Ai (v16+1)=Ai (W (v16+1)) from congrArg Ai hw.symm)) z,u0⟩)))
  have h:=hj_1
  refine Tc (b:=x24_2) z (fun hb_2=>?_) (fun hb_2=>?_)
  ·have h:=cq hb_2 h
   refine Td [] hmix (by kernel_rfl) (Qe 5 z ?_)
   obtain⟨y,hy,h⟩:=bs h
   refine Q1 z z z (Ax.ix (cl:=Cell.cl) z slc_22 z z hy) (Qe 4 z ?_)
   obtain⟨y_1,hy_1,h⟩:=bs h
   refine Q1 z z z (Ax.ix (cl:=cl26) z slc_44 z z hy_1) (Qe 2 z ?_)
   obtain⟨y_2,hy_2,h⟩:=bs h
   refine Q1 z z z (Ax.ix (cl:=icl) z slc_26 z z hy_2) (Qe 4 z (Rx ⟨by kernel_rfl,freshL_of [] (by kernel_rfl) (by kernel_rfl),?_⟩))
   exact Xi (W (v8+(W (y.Area*y_2)))) (An h (E0 z))
  have h:=cw hb_2 h
  exact Tk (Xi v8 (An h (E0 z)))
 exact(lt_t hi hb_1).elim
theorem f5_ok {K:Nat} {a0:Scene} {a1:List (List Int)} {a2:List (List Int)} {a3:List Int} {a4:Int} {a5:Int} {r:Bool} (h:f5 K a0 a1 a2 a3 a4 a5=some r):CallOK Tryz.prog 5 [.agg (Scene.cl a0),.lst 1 (a1.map cl26),.lst 1 (a2.map cl26),.lst 1 (a3.map icl),Ai a4,Ai a5] [] (Ab r) []:=by
 refine Co Tryz.func5 z z (nl z) ?_
 unfold f5 at h
 refine Tp z (Ts (Tr ?_))
 obtain⟨x28,hc,h⟩:=bs h
 refine Qc z z z (args:=[]) (r:=Ab x28) (calv z z fnok_21 z) (f21_ok hc) z (Qd z (Tc (b:=(!x28)) z (fun hb=>?_) (fun hb=>?_)))
 ·have h:=cq hb h
  refine Tp z (Te ?_)
  exact Rb h z
 have h:=cw hb h
 refine Tk (Ts (Tr (Qe 1 z ?_)))
 obtain⟨x31,hc_1,h⟩:=bs h
 refine Qc z z z (args:=[.agg (Scene.cl a0)]) (r:=Ab x31) (calv z z fnok_36 z) (f36_ok hc_1) z (Qd z (Tc (b:=(!x31)) z (fun hb_1=>?_) (fun hb_1=>?_)))
 ·have h:=cq hb_1 h
  refine Tp z (Te ?_)
  exact Rb h z
 have h:=cw hb_1 h
 refine Tk (Ts (Ts ?_))
 obtain⟨v50,hj_9,h⟩:=bs h
 refine Tri.joinv v50 (fun(y:Bool)=>⟨[(1,.lst 1 (a1.map cl26)),(2,.lst 1 (a2.map cl26)),(3,.lst 1 (a3.map icl)),(4,Ai a4),(5,Ai a5),(6,.ipt (Scene.cl a0) 0),(50,Ab y)],[]⟩) ?_ ?_
 ·refine Tc (b:=v50) z (fun hb_2=>?_) (fun hb_2=>?_)
  ·have h:=cq hb_2 h
   refine Tp z (Te ?_)
   exact Rb h z
  have h:=cw hb_2 h
  refine Tk (Ts (Tr (Qe 2 z ?_)))
  obtain⟨x53,hc_2,h⟩:=bs h
  refine Qc z z z (args:=[.agg (Scene.cl a0),.lst 1 (a1.map cl26)]) (r:=Ab x53) (calv z z fnok_37 z) (f37_ok hc_2) z (Qd z (Tc (b:=(!x53)) z (fun hb_3=>?_) (fun hb_3=>?_)))
  ·have h:=cq hb_3 h
   refine Tp z (Te ?_)
   exact Rb h z
  have h:=cw hb_3 h
  refine Tk (Ts (Tr (Qe 2 z ?_)))
  obtain⟨x57,hc_3,h⟩:=bs h
  refine Qc z z z (args:=[.agg (Scene.cl a0),.lst 1 (a2.map cl26)]) (r:=Ab x57) (calv z z fnok_37 z) (f37_ok hc_3) z (Rx ?_)
  obtain⟨j,hj,h⟩:=jo h
  refine Tri.join (fun(y:Unit)=>⟨[(1,.lst 1 (a1.map cl26)),(3,.lst 1 (a3.map icl)),(4,Ai a4),(5,Ai a5),(6,.ipt (Scene.cl a0) 0)],[]⟩) (fun y=>j y=some r) ?_ ?_
  ·rintro⟨⟩ h
   subst hj
   refine Ts (Tr (Qe 2 z (Q1 z z z (Ax.ln (cl:=icl) z slc_26 z) (Qd z ?_))))
   obtain⟨j_1,hj_1,h⟩:=jo h
   refine Tri.rngL h (fun p=>⟨[(1,.lst 1 (a1.map cl26)),(3,.lst 1 (a3.map icl)),(4,Ai a4),(5,Ai a5),(6,.ipt (Scene.cl a0) 0),(128,.lst 1 (a0.Days.map icl)),(129,Ai (a0.Days.length:Int)),(130,Ai p.1)],[]⟩) (fun y=>j_1 y=some r) (fun(y:Unit)=>⟨[(1,.lst 1 (a1.map cl26)),(3,.lst 1 (a3.map icl)),(4,Ai a4),(5,Ai a5),(6,.ipt (Scene.cl a0) 0)],[]⟩) (E0 z) ?_ ?_ ?_
   ·rintro⟨⟩ h
    subst hj_1
    refine Tr (Qe 3 z ?_)
    obtain⟨⟨x172_0,x172_1⟩,hc_4,h⟩:=bs h
    refine Qc z z z (args:=[.agg (Scene.cl a0),.lst 1 (a3.map icl),Ai a4]) (r:=.tup [.agg (Span.cl x172_0),Ai x172_1]) (calv z z fnok_39 z) (f39_ok hc_4) z (Qe 3 z (Qn z z z (v:=.ptr 25 0) (x:=some (.box (Span.cl (⟨0,0⟩:Span)))) (Al_ z z zer_49 z ⟨Sub.refl _,Sub.refl _,u0⟩) z z z z z (Qs z z (x:=some (.box (Span.cl x172_0))) (As z siz_49 z z z z z z z) (Qd z (Ts (Tp z (Tc (b:=(x172_1 != 0)) z (fun hb_4=>?_) (fun hb_4=>?_))))))))
    ·have h:=cq hb_4 h
     refine Tp z (Te ?_)
     exact Rb h z
    have h:=cw hb_4 h
    refine Tk (Tr (Qe 4 z ?_))
    obtain⟨⟨x184_0,x184_1⟩,hc_5,h⟩:=bs h
    refine Qc z z z (args:=[.agg (Scene.cl a0),.lst 1 (a3.map icl),Ai a4,Ai a5]) (r:=.tup [.agg (Span.cl x184_0),Ai x184_1]) (calv z z fnok_40 z) (f40_ok hc_5) z (Qe 3 z (Qn z z z (v:=.ptr 27 0) (x:=some (.box (Span.cl (⟨0,0⟩:Span)))) (Al_ z z zer_49 z ⟨Sub.refl _,Sub.refl _,u0⟩) z z z z z (Qs z z (x:=some (.box (Span.cl x184_0))) (As z siz_49 z z z z z z z) (Qd z (Ts (Ts ?_))))))
    obtain⟨v202,hj_3,h⟩:=bs h
    refine Tri.joinv v202 (fun(y:Bool)=>⟨[(1,.lst 1 (a1.map cl26)),(3,.lst 1 (a3.map icl)),(4,Ai a4),(5,Ai a5),(6,.ipt (Scene.cl a0) 0),(26,Ai x184_1),(27,.ptr 27 0),(202,Ab y)],[(27,some (.box (Span.cl x184_0)))]⟩) ?_ ?_
    ·refine Tc (b:=v202) z (fun hb_5=>?_) (fun hb_5=>?_)
     ·have h:=cq hb_5 h
      refine Tp z (Te ?_)
      exact Rb h z
     have h:=cw hb_5 h
     refine Tk (Ts ?_)
     obtain⟨v12,hj_2,h⟩:=bs h
     refine Tri.joinv v12 (fun(y:Bool)=>⟨[(12,Ab y)],[]⟩) ?_ ?_
     ·refine Te ?_
      exact Rb h z
     have h:=hj_2
     refine Td [[],[0],[0,1],[0,1,2],[0,1,2],[0,1,2],[0,1,2],[0,1,2,3,4,5,6],[0,1,2],[0,1,2],[0,1,2],[0,1,2],[0,1,2,3,4,5,6,7,8,9,10,11],[0,1,2,3,4,5,6,7,8,9,10,11,12],[0,1,2],[0,1,2,3,4,5,6,7,8,9,10,11,12,13,14],[0,1,2,3,4,5,6,7,8,9,10,11,12,13,14,15],[0,1,2,3,4,5,6,7,8,9,10,11,12,13,14,15,16]] hmix (by kernel_rfl) (Qe 3 z ?_)
     rcases b2 (x184_1 != 0) with hb_6 | hb_6
     ·have h:=cq hb_6 h
      refine Qk 205 hb_6 z (Qe 15 z (Rx ⟨by kernel_rfl,freshL_of [] (by kernel_rfl) (by kernel_rfl),?_⟩))
      exact Xi true (An h (E0 z))
     have h:=cw hb_6 h
     refine Qk 205 hb_6 z (Qe 4 z ?_)
     obtain⟨x210,hc_6,h⟩:=bs h
     refine Qc z z z (args:=[.agg (Scene.cl a0),.lst 1 (a3.map icl),Ai a4,.lst 1 (a1.map cl26)]) (r:=Ai x210) (calv z z fnok_41 z) (f41_ok hc_6) z (Qe 4 z ?_)
     obtain⟨x215,hc_7,h⟩:=bs h
     refine Qc z z z (args:=[.agg (Scene.cl a0),.lst 1 (a3.map icl),Ai a5,.lst 1 (a1.map cl26)]) (r:=Ai x215) (calv z z fnok_41 z) (f41_ok hc_7) z (Qe 2 z ?_)
     obtain⟨x218,hc_8,h⟩:=bs h
     refine Qc z z z (args:=[Ai (W (x210 - x215)),.agg (Span.cl x184_0)]) (r:=Ab x218) (calv z z fnok_38 z) (f38_ok hc_8) z (Qe 2 z (Rx ⟨by kernel_rfl,freshL_of [] (by kernel_rfl) (by kernel_rfl),?_⟩))
     exact Xi x218 (An h (E0 z))
    have h:=hj_3
    refine Td [[],[],[],[],[0,1,2,3],[],[0,1,2,3,4,5],[0,1,2,3,4,5,6],[0,1,2,3,4,5,6,7],[0,1,2,3,4,5,6,7,8],[0,1,2,3,4,5,6,7,8,9],[0,1,2,3,4,5,6,7,8,9,10],[0,1,2,3,4,5,6,7,8,9,10,11],[0,1,2,3,4,5,6,7,8,9,10,11,12],[0,1,2,3,4,5,6,7,8,9,10,11,12,13],[0,1,2,3,4,5,6,7,8,9,10,11,12,13,14]] hmix (by kernel_rfl) (Qe 4 z ?_)
    obtain⟨x191,hc_9,h⟩:=bs h
    refine Qc z z z (args:=[.agg (Scene.cl a0),.lst 1 (a3.map icl),Ai a4,.lst 1 (a1.map cl26)]) (r:=Ai x191) (calv z z fnok_41 z) (f41_ok hc_9) z (Qe 1 z ?_)
    obtain⟨x193,hc_10,h⟩:=bs h
    refine Qc z z z (args:=[Ai x191,.agg (Span.cl x172_0)]) (r:=Ab x193) (calv z z fnok_38 z) (f38_ok hc_10) z (Qe 2 z ?_)
    rcases b2 (!x193) with hb_7 | hb_7
    ·have h:=cq hb_7 h
     refine Qk 195 hb_7 z (Qe 7 z (Rx ⟨by kernel_rfl,freshL_of [] (by kernel_rfl) (by kernel_rfl),?_⟩))
     exact Xi true (An h (Ee [27] z u0))
    have h:=cw hb_7 h
    refine Qk 195 hb_7 z (Qe 3 z ?_)
    rcases b2 (x184_1 != 0) with hb_8 | hb_8
    ·have h:=cq hb_8 h
     refine Qk 198 hb_8 z (Qe 4 z (Rx ⟨by kernel_rfl,freshL_of [] (by kernel_rfl) (by kernel_rfl),?_⟩))
     exact Xi (x184_1 != 1) (An h (Ee [27] z u0))
    have h:=cw hb_8 h
    refine Qk 198 hb_8 z (Qe 4 z (Rx ⟨by kernel_rfl,freshL_of [] (by kernel_rfl) (by kernel_rfl),?_⟩))
    exact Xi false (An h (Ee [27] z u0))
   ·rintro v130 ⟨⟩ hi h
    refine Tp z (Ts (Tc (b:=(decide (v130 < (a0.Days.length:Int)))) z (fun hb_9=>?_) (fun hb_9=>?_)))
    ·exact(lt_f hi hb_9).elim
    exact Tri.exit (Xi () (An h (E0 z)))
   rintro nx x v130 ⟨⟩ _ hi hw hx h
   refine Tp z (Ts (Tc (b:=(decide (v130 < (a0.Days.length:Int)))) z (fun hb_10=>?_) (fun hb_10=>?_)))
   ·refine Tk (Ts (Tri.block (Tr (Qe 1 z (Q1 z z z (Ax.ix (cl:=icl) z slc_26 z z hx) (Qd z (Tr (Qe 3 z (Q1 z z z (Ax.ln (cl:=Cell.cl) z slc_22 z) (Qd z ?_))))))))))
    obtain⟨j_2,hj_4,h⟩:=jo h
    refine Tri.rngL h (fun p=>⟨[(1,.lst 1 (a1.map cl26)),(3,.lst 1 (a3.map icl)),(4,Ai a4),(5,Ai a5),(6,.ipt (Scene.cl a0) 0),(19,Ai v130),(20,Ai x),(128,.lst 1 (a0.Days.map icl)),(129,Ai (a0.Days.length:Int)),(130,Ai v130),(137,.lst 4 (a0.Basin.Cells.map Cell.cl)),(138,Ai (a0.Basin.Cells.length:Int)),(139,Ai p.1)],[]⟩) (fun y=>j_2 y=some r) (fun(y:Unit)=>⟨[(1,.lst 1 (a1.map cl26)),(3,.lst 1 (a3.map icl)),(4,Ai a4),(5,Ai a5),(6,.ipt (Scene.cl a0) 0),(128,.lst 1 (a0.Days.map icl)),(129,Ai (a0.Days.length:Int)),(130,Ai v130)],[]⟩) (E0 z) ?_ ?_ ?_
    ·rintro⟨⟩ h
     subst hj_4
     exact Tq z (Xi (v130+1,()) (An (An z h) (Es0 [130] z ⟨.imm (Sub.of_eq (show Ai (v130+1)=Ai (W (v130+1)) from congrArg Ai hw.symm)) z,u0⟩)))
    ·rintro v139 ⟨⟩ hi_1 h
     refine Tp z (Ts (Tc (b:=(decide (v139 < (a0.Basin.Cells.length:Int)))) z (fun hb_11=>?_) (fun hb_11=>?_)))
     ·exact(lt_f hi_1 hb_11).elim
     exact Tri.exit (Xi () (An h (E0 z)))
    rintro nx_1 x_1 v139 ⟨⟩ _ hi_1 hw_1 hx_1 h
    refine Tp z (Ts (Tc (b:=(decide (v139 < (a0.Basin.Cells.length:Int)))) z (fun hb_12=>?_) (fun hb_12=>?_)))
    ·refine Tk (Ts (Tri.block (Tr (Qe 1 z (Q1 z z z (Ax.ix (cl:=Cell.cl) z slc_22 z z hx_1) (Qe 1 z (Qn z z z (v:=.ptr 22 0) (x:=some (.box (Cell.cl (⟨0,0,0,0⟩:Cell)))) (Al_ z z zer_56 z ⟨Sub.refl _,Sub.refl _,Sub.refl _,Sub.refl _,u0⟩) z z z z z (Qe 1 z (Qs z z (x:=some (.box (Cell.cl x_1))) (As z siz_56 z z z z z z z) (Rx (Tr (Qe 4 z ?_))))))))))))
     obtain⟨⟨x149_0,x149_1⟩,hc_11,h⟩:=bs h
     refine Qc z z z (args:=[.agg (Scene.cl a0),Ai x_1.No,Ai x]) (r:=.tup [.agg (Span.cl x149_0),Ai x149_1]) (calv z z fnok_33 z) (f33_ok hc_11) z (Qe 3 z (Qn z z z (v:=.ptr 23 0) (x:=some (.box (Span.cl (⟨0,0⟩:Span)))) (Al_ z z zer_49 z ⟨Sub.refl _,Sub.refl _,u0⟩) z z z z z (Qs z z (x:=some (.box (Span.cl x149_0))) (As z siz_49 z z z z z z z) (Qd z (Ts ?_)))))
     obtain⟨v165,hj_5,h⟩:=bs h
     refine Tri.joinv v165 (fun(y:Bool)=>⟨[(1,.lst 1 (a1.map cl26)),(3,.lst 1 (a3.map icl)),(4,Ai a4),(5,Ai a5),(6,.ipt (Scene.cl a0) 0),(19,Ai v130),(20,Ai x),(128,.lst 1 (a0.Days.map icl)),(129,Ai (a0.Days.length:Int)),(130,Ai v130),(137,.lst 4 (a0.Basin.Cells.map Cell.cl)),(138,Ai (a0.Basin.Cells.length:Int)),(139,Ai v139),(165,Ab y)],[]⟩) ?_ ?_
     ·refine Tc (b:=v165) z (fun hb_13=>?_) (fun hb_13=>?_)
      ·have h:=cq hb_13 h
       refine Tp z (Te ?_)
       exact Rb h z
      have h:=cw hb_13 h
      exact Tk (Tq z (Xi (v139+1,()) (An (An z h) (Es0 [139] z ⟨.imm (Sub.of_eq (show Ai (v139+1)=Ai (W (v139+1)) from congrArg Ai hw_1.symm)) z,u0⟩))))
     have h:=hj_5
     refine Td [[],[0],[0,1],[0,1,2],[0,1,2],[0,1,2,3,4],[0,1,2,3,4,5],[0,1,2],[0,1,2,3,4,5,6,7],[0,1,2,3,4,5,6,7,8],[0,1,2],[0,1,2,3,4,5,6,7,8,9,10],[0,1,2,3,4,5,6,7,8,9,10,11],[0,1,2,3,4,5,6,7,8,9,10,11,12]] hmix (by kernel_rfl) (Qe 3 z ?_)
     rcases b2 (x149_1 != 0) with hb_14 | hb_14
     ·have h:=cq hb_14 h
      refine Qk 154 hb_14 z (Qe 11 z (Rx ⟨by kernel_rfl,freshL_of [] (by kernel_rfl) (by kernel_rfl),?_⟩))
      exact Xi true (An h (E0 z))
     have h:=cw hb_14 h
     refine Qk 154 hb_14 z (Qe 2 z ?_)
     obtain⟨y,hy,h⟩:=bs h
     refine Q1 z z z (Ax.ix (cl:=cl26) z slc_44 z z hy) (Qe 2 z ?_)
     obtain⟨y_1,hy_1,h⟩:=bs h
     refine Q1 z z z (Ax.ix (cl:=icl) z slc_26 z z hy_1) (Qe 2 z ?_)
     obtain⟨x163,hc_12,h⟩:=bs h
     refine Qc z z z (args:=[Ai y_1,.agg (Span.cl x149_0)]) (r:=Ab x163) (calv z z fnok_38 z) (f38_ok hc_12) z (Qe 2 z (Rx ⟨by kernel_rfl,freshL_of [] (by kernel_rfl) (by kernel_rfl),?_⟩))
     exact Xi (!x163) (An h (E0 z))
    exact(lt_t hi_1 hb_12).elim
   exact(lt_t hi hb_10).elim
  refine Tc (b:=x57) z (fun hb_15=>?_) (fun hb_15=>?_)
  ·have h:=cq hb_15 h
   refine Tr (Qn z z z (v:=.hnd 13) (x:=some (.arr 26 1 (([]:List (List Int)).map cl26))) (Ax.nil_new 26 1 (.inr z) z) z z z z z (Qn z z z (v:=.hnd 14) (x:=some (.arr 26 1 (([]:List (List Int)).map cl26))) (Ax.nil_new 26 1 (.inr z) z) z z z z z (Rx (Ts (Tr (Qe 1 z (Q1 z z z (Ax.ln (cl:=cl26) z slc_44 z) (Qd z ?_))))))))
   obtain⟨⟨vo13_1,vo14_1⟩,hj_6,h⟩:=bs h
   refine Tri.rngLv hj_6 (fun p=>⟨[(1,.lst 1 (a1.map cl26)),(2,.lst 1 (a2.map cl26)),(3,.lst 1 (a3.map icl)),(4,Ai a4),(5,Ai a5),(6,.ipt (Scene.cl a0) 0),(13,.hnd 13),(14,.hnd 14),(59,Ai (a1.length:Int)),(60,Ai p.1)],[(13,some (.arr 26 1 (p.2.1.map cl26))),(14,some (.arr 26 1 (p.2.2.map cl26)))]⟩) (fun(y:List (List Int) × List (List Int))=>⟨[(1,.lst 1 (a1.map cl26)),(3,.lst 1 (a3.map icl)),(4,Ai a4),(5,Ai a5),(6,.ipt (Scene.cl a0) 0),(13,.hnd 13),(14,.hnd 14)],[(13,some (.arr 26 1 (y.1.map cl26))),(14,some (.arr 26 1 (y.2.map cl26)))]⟩) (Ee [13,14] z ⟨im_flat cl26_im ([]:List (List Int)),im_flat cl26_im ([]:List (List Int)),u0⟩) ?_ ?_ ?_
   ·refine Ts ?_
    obtain⟨v126,hj_7,h⟩:=bs h
    refine Tri.joinv v126 (fun(y:Bool)=>⟨[(1,.lst 1 (a1.map cl26)),(3,.lst 1 (a3.map icl)),(4,Ai a4),(5,Ai a5),(6,.ipt (Scene.cl a0) 0),(126,Ab y)],[]⟩) ?_ ?_
    ·refine Tc (b:=v126) z (fun hb_16=>?_) (fun hb_16=>?_)
     ·have h:=cq hb_16 h
      refine Tp z (Te ?_)
      exact Rb h z
     have h:=cw hb_16 h
     exact Tk (Xi () (An h (E0 z)))
    have h:=hj_7
    refine Tri.region (Qe 2 z ?_)
    obtain⟨x119,hc_13,h⟩:=bs h
    refine Ql [13] z z z (args:=[.agg (Scene.cl a0),.hnd 13]) (args':=[.agg (Scene.cl a0),.lst 1 (vo13_1.map cl26)]) (r:=Ai x119) (calv z z fnok_26 z) ⟨.im z,.hnd mh z (im_flat cl26_im vo13_1),u0⟩ (f26_ok hc_13) z z (Qe 2 z ?_)
    rcases b2 (x119 != 0) with hb_17 | hb_17
    ·have h:=cq hb_17 h
     exact Qk 121 hb_17 z (Qd z (Xi true (An h (E0 z))))
    have h:=cw hb_17 h
    refine Qk 121 hb_17 z (Qe 2 z ?_)
    obtain⟨x124,hc_14,h⟩:=bs h
    exact Ql [14] z z z (args:=[.agg (Scene.cl a0),.hnd 14]) (args':=[.agg (Scene.cl a0),.lst 1 (vo14_1.map cl26)]) (r:=Ai x124) (calv z z fnok_26 z) ⟨.im z,.hnd mh z (im_flat cl26_im vo14_1),u0⟩ (f26_ok hc_14) z z (Qd z (Xi (x124 != 0) (An h (E0 z))))
   ·rintro v60 ⟨vo13,vo14⟩ hi_2 h
    refine Tp z (Ts (Tc (b:=(decide (v60 < (a1.length:Int)))) z (fun hb_18=>?_) (fun hb_18=>?_)))
    ·exact(lt_f hi_2 hb_18).elim
    exact Tri.exit (Xi (vo13,vo14) (An h (Ee [13,14] z ⟨imf cl26_im,imf cl26_im,u0⟩)))
   rintro nx_2 x_2 v60 ⟨vo13,vo14⟩ _ hi_2 hw_2 hx_2 h
   refine Tp z (Ts (Tc (b:=(decide (v60 < (a1.length:Int)))) z (fun hb_19=>?_) (fun hb_19=>?_)))
   ·refine Tk (Ts (Tri.block (Tp z (Tr (Qn z z z (v:=.hnd 16) (x:=some (.arr 3 1 (([]:List Int).map icl))) (Ax.nil_new 3 1 (.inr z) z) z z z z z (Qn z z z (v:=.hnd 17) (x:=some (.arr 3 1 (([]:List Int).map icl))) (Ax.nil_new 3 1 (.inr z) z) z z z z z (Rx (Ts (Tr (Qe 2 z (Q1 z z z (Ax.ix (cl:=cl26) z slc_44 z z hx_2) (Qe 1 z ?_))))))))))))
    refine Q1 z z z (Ax.ln (cl:=icl) z slc_26 z) (Qd z ?_)
    obtain⟨⟨vo16_1,vo17_1⟩,hj_8,h⟩:=bs h
    refine Tri.rngLv hj_8 (fun p=>⟨[(1,.lst 1 (a1.map cl26)),(2,.lst 1 (a2.map cl26)),(3,.lst 1 (a3.map icl)),(4,Ai a4),(5,Ai a5),(6,.ipt (Scene.cl a0) 0),(13,.hnd 13),(14,.hnd 14),(15,Ai v60),(16,.hnd 16),(17,.hnd 17),(59,Ai (a1.length:Int)),(60,Ai v60),(67,Ai (x_2.length:Int)),(68,Ai p.1)],[(13,some (.arr 26 1 (vo13.map cl26))),(14,some (.arr 26 1 (vo14.map cl26))),(16,some (.arr 3 1 (p.2.1.map icl))),(17,some (.arr 3 1 (p.2.2.map icl)))]⟩) (fun(y:List Int × List Int)=>⟨[(1,.lst 1 (a1.map cl26)),(2,.lst 1 (a2.map cl26)),(3,.lst 1 (a3.map icl)),(4,Ai a4),(5,Ai a5),(6,.ipt (Scene.cl a0) 0),(13,.hnd 13),(14,.hnd 14),(16,.hnd 16),(17,.hnd 17),(59,Ai (a1.length:Int)),(60,Ai v60)],[(13,some (.arr 26 1 (vo13.map cl26))),(14,some (.arr 26 1 (vo14.map cl26))),(16,some (.arr 3 1 (y.1.map icl))),(17,some (.arr 3 1 (y.2.map icl)))]⟩) (Ee [13,14,16,17] z ⟨imf cl26_im,imf cl26_im,im_flat icl_im ([]:List Int),im_flat icl_im ([]:List Int),u0⟩) ?_ ?_ ?_
    ·refine Tn (Ent.norm [16] [(13,13,.arr 26 1 (vo13.map cl26)),(14,14,.arr 26 1 (vo14.map cl26)),(17,17,.arr 3 1 (vo17_1.map icl))] [(1,.lst 1 (a1.map cl26)),(2,.lst 1 (a2.map cl26)),(3,.lst 1 (a3.map icl)),(4,Ai a4),(5,Ai a5),(6,.ipt (Scene.cl a0) 0),(13,.hnd 13),(14,.hnd 14),(16,.lst 1 (vo16_1.map icl)),(17,.hnd 17),(59,Ai (a1.length:Int)),(60,Ai v60)] z ⟨⟨_,z,.arr (im_flat cl26_im vo13)⟩,⟨_,z,.arr (im_flat cl26_im vo14)⟩,⟨_,z,.arr (im_flat icl_im vo17_1)⟩,u0⟩ ⟨.rfl' z,.rfl' z,.rfl' z,.rfl' z,.rfl' z,.rfl' z,.hnd mh,.hnd (mt mh),.frz (.hnd mh z (im_flat icl_im vo16_1)) z,.hnd (mt (mt mh)),.rfl' z,.rfl' z,u0⟩) (Tn (Ent.norm [17] [(13,13,.arr 26 1 (vo13.map cl26)),(14,14,.arr 26 1 (vo14.map cl26))] [(1,.lst 1 (a1.map cl26)),(2,.lst 1 (a2.map cl26)),(3,.lst 1 (a3.map icl)),(4,Ai a4),(5,Ai a5),(6,.ipt (Scene.cl a0) 0),(13,.hnd 13),(14,.hnd 14),(16,.lst 1 (vo16_1.map icl)),(17,.lst 1 (vo17_1.map icl)),(59,Ai (a1.length:Int)),(60,Ai v60)] z ⟨⟨_,z,.arr (im_flat cl26_im vo13)⟩,⟨_,z,.arr (im_flat cl26_im vo14)⟩,u0⟩ ⟨.rfl' z,.rfl' z,.rfl' z,.rfl' z,.rfl' z,.rfl' z,.hnd mh,.hnd (mt mh),.rfl' z,.frz (.hnd mh z (im_flat icl_im vo17_1)) z,.rfl' z,.rfl' z,u0⟩) (Tri.region (Qe 2 z (Q1 z z z (v:=.lst 1 (([vo16_1]:List (List Int)).map cl26)) (Ax.sl (xs:=([vo16_1]:List (List Int))) z slc_44 z z ⟨Sub.refl _,u0⟩ z cl26_len cl26_one cl26_im) ?_))))
     obtain⟨z111,hz,h⟩:=bs h
     refine Qa z z z (v:=.hnd 111) (x:=some (.arr 26 1 (z111.map cl26))) (Ax.app_l (cl:=cl26) z z slc_44 z z z cl26_one cl26_im hz z z) z z z z z (Qe 2 z (Q1 z z z (v:=.lst 1 (([vo17_1]:List (List Int)).map cl26)) (Ax.sl (xs:=([vo17_1]:List (List Int))) z slc_44 z z ⟨Sub.refl _,u0⟩ z cl26_len cl26_one cl26_im) ?_))
     obtain⟨z115,hz_1,h⟩:=bs h
     exact Qa z z z (v:=.hnd 115) (x:=some (.arr 26 1 (z115.map cl26))) (Ax.app_l (cl:=cl26) z z slc_44 z z z cl26_one cl26_im hz_1 z z) z z z z z (Qd z (Tq z (Xi (v60+1,(z111,z115)) (An (An z h) (Es [111,115] [60] z ⟨imf cl26_im,imf cl26_im,u0⟩ ⟨.imm (Sub.of_eq (show Ai (v60+1)=Ai (W (v60+1)) from congrArg Ai hw_2.symm)) z,u0⟩)))))
    ·rintro v68 ⟨vo16,vo17⟩ hi_3 h
     refine Tp z (Ts (Tc (b:=(decide (v68 < (x_2.length:Int)))) z (fun hb_20=>?_) (fun hb_20=>?_)))
     ·exact(lt_f hi_3 hb_20).elim
     exact Tri.exit (Xi (vo16,vo17) (An h (Ee [13,14,16,17] z ⟨imf cl26_im,imf cl26_im,imf icl_im,imf icl_im,u0⟩)))
    rintro nx_3 x_3 v68 ⟨vo16,vo17⟩ _ hi_3 hw_3 hx_3 h
    refine Tp z (Ts (Tc (b:=(decide (v68 < (x_2.length:Int)))) z (fun hb_21=>?_) (fun hb_21=>?_)))
    ·refine Tk (Ts (Tri.block (Tp z (Td [[],[],[],[1,2],[1,2,3],[],[1,2,3,4,5],[1,2,3,4,5,6],[],[],[8,9],[8,9,10],[],[8,9,10,11,12],[8,9,10,11,12,13],[1,2,3,4,5,6,7,8,9,10,11,12,13,14],[1,2,3,4,5,6,7,8,9,10,11,12,13,14,15],[0,1,2,3,4,5,6,7,8,9,10,11,12,13,14,15,16],[],[],[],[19,20],[19,20,21],[],[19,20,21,22,23],[19,20,21,22,23,24],[],[],[26,27],[26,27,28],[],[26,27,28,29,30],[26,27,28,29,30,31],[19,20,21,22,23,24,25,26,27,28,29,30,31,32],[19,20,21,22,23,24,25,26,27,28,29,30,31,32,33],[0,1,2,3,4,5,6,7,8,9,10,11,12,13,14,15,16,17,18,19,20,21,22,23,24,25,26,27,28,29,30,31,32,33,34],[],[]] hmix (by kernel_rfl) (Qe 3 z (Q1 z z z (Ax.ix (cl:=cl26) z slc_44 z z hx_2) (Qe 2 z (Q1 z z z (Ax.ix (cl:=icl) z slc_26 z z hx_3) (Qe 3 z ?_)))))))))
     obtain⟨y_2,hy_2,h⟩:=bs h
     refine Q1 z z z (Ax.ix (cl:=cl26) z slc_44 z z hy_2) (Qe 2 z ?_)
     obtain⟨y_3,hy_3,h⟩:=bs h
     refine Q1 z z z (Ax.ix (cl:=icl) z slc_26 z z hy_3) (Qe 1 z (Q1 z z z (v:=Ai (if y_3 > x_3 then y_3 else x_3)) (Ax.max z z z) (Q1 z z z (v:=.lst 1 (([(if y_3 > x_3 then y_3 else x_3)]:List Int).map icl)) (Ax.sl (xs:=([(if y_3 > x_3 then y_3 else x_3)]:List Int)) z slc_26 z z ⟨Sub.refl _,u0⟩ z icl_len icl_one icl_im) ?_)))
     obtain⟨z88,hz_2,h⟩:=bs h
     refine Qa z z z (v:=.hnd 88) (x:=some (.arr 3 1 (z88.map icl))) (Ax.app_l (cl:=icl) z z slc_26 z z z icl_one icl_im hz_2 z z) z z z z z (Qe 3 z (Q1 z z z (Ax.ix (cl:=cl26) z slc_44 z z hx_2) (Qe 2 z (Q1 z z z (Ax.ix (cl:=icl) z slc_26 z z hx_3) (Qe 3 z (Q1 z z z (Ax.ix (cl:=cl26) z slc_44 z z hy_2) (Qe 2 z (Q1 z z z (Ax.ix (cl:=icl) z slc_26 z z hy_3) (Qe 1 z (Q1 z z z (v:=Ai (if y_3 < x_3 then y_3 else x_3)) (Ax.min z z z) (Q1 z z z (v:=.lst 1 (([(if y_3 < x_3 then y_3 else x_3)]:List Int).map icl)) (Ax.sl (xs:=([(if y_3 < x_3 then y_3 else x_3)]:List Int)) z slc_26 z z ⟨Sub.refl _,u0⟩ z icl_len icl_one icl_im) ?_)))))))))))
     obtain⟨z106,hz_3,h⟩:=bs h
     refine Qa z z z (v:=.hnd 106) (x:=some (.arr 3 1 (z106.map icl))) (Ax.app_l (cl:=icl) z z slc_26 z z z icl_one icl_im hz_3 z z) z z z z z (Qe 2 z (Rx ⟨by kernel_rfl,freshL_of [88,106] (by kernel_rfl) (by kernel_rfl),?_⟩))
     exact Tq z (Xi (v68+1,(z88,z106)) (An (An z h) (Es [13,14,88,106] [68] z ⟨imf cl26_im,imf cl26_im,imf icl_im,imf icl_im,u0⟩ ⟨.imm (Sub.of_eq (show Ai (v68+1)=Ai (W (v68+1)) from congrArg Ai hw_3.symm)) z,u0⟩)))
    exact(lt_t hi_3 hb_21).elim
   exact(lt_t hi_2 hb_19).elim
  have h:=cw hb_15 h
  exact Tk (Xi () (An h (E0 z)))
 have h:=hj_9
 refine Td [[],[],[0,1],[0,1,2],[],[],[0,1,2,4,5],[0,1,2,3,4,5,6],[0,1,2,3,4,5,6,7],[0,1,2,3,4,5,6,7,8],[0,1,2,3,4,5,6,7,8],[0,1,2,3,4,5,6,7,8,9,10],[0,1,2,3,4,5,6,7,8,9,10,11],[0,1,2,3,4,5,6,7,8],[0,1,2,3,4,5,6,7,8],[0,1,2,3,4,5,6,7,8,9,10,11,13,14],[0,1,2,3,4,5,6,7,8,9,10,11,12,13,14,15],[0,1,2,3,4,5,6,7,8,9,10,11,12,13,14,15,16]] hmix (by kernel_rfl) (Qe 2 z ?_)
 obtain⟨x35,hc_15,h⟩:=bs h
 refine Qc z z z (args:=[.agg (Scene.cl a0),.lst 1 (a1.map cl26)]) (r:=Ai x35) (calv z z fnok_26 z) (f26_ok hc_15) z (Qe 3 z ?_)
 obtain⟨x39,hc_16,h⟩:=bs h
 refine Qc z z z (args:=[.agg (Scene.cl a0),.lst 1 (a1.map cl26)]) (r:=Ab x39) (calv z z fnok_37 z) (f37_ok hc_16) z (Q1 z z z (v:=Ab ((x35==0) != x39)) (Ax.bool_neq bol_4 z z z) (Qe 1 z ?_))
 rcases b2 ((x35==0) != x39) with hb_22 | hb_22
 ·have h:=cq hb_22 h
  refine Qk 41 hb_22 z (Qe 9 z (Rx ⟨by kernel_rfl,freshL_of [] (by kernel_rfl) (by kernel_rfl),?_⟩))
  exact Xi true (An h (E0 z))
 have h:=cw hb_22 h
 refine Qk 41 hb_22 z (Qe 2 z ?_)
 obtain⟨x44,hc_17,h⟩:=bs h
 refine Qc z z z (args:=[.agg (Scene.cl a0),.lst 1 (a2.map cl26)]) (r:=Ai x44) (calv z z fnok_26 z) (f26_ok hc_17) z (Qe 3 z ?_)
 obtain⟨x48,hc_18,h⟩:=bs h
 refine Qc z z z (args:=[.agg (Scene.cl a0),.lst 1 (a2.map cl26)]) (r:=Ab x48) (calv z z fnok_37 z) (f37_ok hc_18) z (Q1 z z z (v:=Ab ((x44==0) != x48)) (Ax.bool_neq bol_4 z z z) (Qe 1 z (Rx ⟨by kernel_rfl,freshL_of [] (by kernel_rfl) (by kernel_rfl),?_⟩)))
 exact Xi ((x44==0) != x48) (An h (E0 z))
end Go.Proofs.YthlchdnbokhclaaGreat.Ql

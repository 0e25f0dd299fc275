import Derived.Test.YthlchdnbokhclaaGreatQt
import Derived.Test.YthlchdnbokhclaaGreatQg2
import Derived.Test.YthlchdnbokhclaaGreatQg3
import Derived.Test.YthlchdnbokhclaaGreatQg1
set_option linter.all false
namespace Go.Proofs.YthlchdnbokhclaaGreat.Ql
open Go Go.Proofs
set_option maxRecDepth 100000
set_option maxHeartbeats 0
def f182 (K:Nat) (a0:Int) (a1:Int):Option (Bool):=
  some ((decide (a0≥0))&&(decide (a0≤a1)))
def f178 (K:Nat) (a0:Cell):Option (Bool):=
  Option.bind (
    (f182 K a0.No 4095).bind fun x5=>
    bif x5 then
      (f182 K a0.Height 9000).bind fun x9=>
      bif x9 then
        (f182 K a0.Aspect 7).bind fun x14=>
        bif x14 then
          bif (decide (a0.Area≥1)) then
            some (decide (a0.Area≤4096))
          else
            some false
        else
          some false
      else
        some false
    else
      some false) fun(v2:Bool)=>
  some v2
def f75 (K:Nat) (a0:Basin):Option (Int):=
  Option.bind (
    bif (decide ((a0.Cells.length:Int) < 1)) then
      some true
    else
      bif (decide ((a0.Cells.length:Int) > 12)) then
        some true
      else
        bif (decide ((a0.Pairs.length:Int) > 24)) then
          some true
        else
          (f182 K a0.Gain 65536).bind fun x27=>
          bif (!x27) then
            some true
          else
            (f182 K a0.Slack 65536).bind fun x33=>
            bif (!x33) then
              some true
            else
              (f182 K a0.Deep 65536).bind fun x39=>
              some (!x39)) fun(v41:Bool)=>
  bif v41 then
    some 50
  else
    Jo (α:=Unit→Option (Int)) (fun(_:Unit)=>
      Jo (α:=Unit→Option (Int)) (fun(_:Unit)=>
        some 0) fun(j_1:Unit→Option (Int))=>
      rngL a0.Pairs () (fun(v4:Int) (_:Unit)=>
          j_1 ()) fun nx_1 x_1 v4 (_:Unit)=>
        Option.bind (
          (f182 K x_1.a0 (W ((a0.Cells.length:Int) - 1))).bind fun x94=>
          bif (!x94) then
            some true
          else
            (f182 K x_1.a1 (W ((a0.Cells.length:Int) - 1))).bind fun x103=>
            bif (!x103) then
              some true
            else
              bif (x_1.a0==x_1.a1) then
                some true
              else
                (ix a0.Cells x_1.a0).bind fun y_1=>
                (ix a0.Cells x_1.a1).bind fun y_2=>
                some (decide (y_1.Height > y_2.Height))) fun(v129:Bool)=>
        bif v129 then
          some 50
        else
          Jo (α:=Unit→Option (Int)) (fun(_:Unit)=>
            nx_1 (v4+1) ()) fun(j_2:Unit→Option (Int))=>
          rngN 0 v4 () (fun(v6:Int) (_:Unit)=>
              j_2 ()) fun nx_2 v6 (_:Unit)=>
            (ix a0.Pairs v6).bind fun y=>
            bif (bif (y.a0==x_1.a0) then ((y.a1==x_1.a1)||((y.a0==x_1.a1)&&(y.a1==x_1.a0))) else ((y.a0==x_1.a1)&&(y.a1==x_1.a0))) then
              some 50
            else
              nx_2 (v6+1) ()) fun(j:Unit→Option (Int))=>
    rngL a0.Cells () (fun(v3:Int) (_:Unit)=>
        j ()) fun nx x v3 (_:Unit)=>
      Option.bind (
        (f178 K x).bind fun x54=>
        bif (!x54) then
          some true
        else
          bif (decide (v3 > 0)) then
            (ix a0.Cells (W (v3 - 1))).bind fun y_3=>
            some (decide (y_3.No≥x.No))
          else
            some false) fun(v75:Bool)=>
      bif v75 then
        some 50
      else
        nx (v3+1) ()
def f116 (K:Nat) (a0:Basin) (a1:Int):Option (Int):=
  Jo (α:=Unit→Option (Int)) (fun(_:Unit)=>
    some (-1)) fun(j:Unit→Option (Int))=>
  rngL a0.Cells () (fun(v5:Int) (_:Unit)=>
      j ()) fun nx x v5 (_:Unit)=>
    bif (x.No==a1) then
      some v5
    else
      nx (v5+1) ()
def f117 (K:Nat) (a0:Scene) (a1:Int):Option (Int):=
  Jo (α:=Unit→Option (Int)) (fun(_:Unit)=>
    some (-1)) fun(j:Unit→Option (Int))=>
  rngL a0.Days () (fun(v5:Int) (_:Unit)=>
      j ()) fun nx x v5 (_:Unit)=>
    bif (x==a1) then
      some v5
    else
      nx (v5+1) ()
def f181 (K:Nat) (a0:Scene) (a1:Sight):Option (Bool):=
  Option.bind (
    (f182 K a1.No 8191).bind fun x7=>
    bif x7 then
      (f116 K a0.Basin a1.Cell).bind fun x13=>
      bif (decide (x13≥0)) then
        (f117 K a0 a1.Day).bind fun x20=>
        bif (decide (x20≥0)) then
          bif (decide (a1.Lo≥0)) then
            bif (decide (a1.Lo≤a1.Hi)) then
              some (decide (a1.Hi≤65536))
            else
              some false
          else
            some false
        else
          some false
      else
        some false
    else
      some false) fun(v4:Bool)=>
  some v4
def f183 (K:Nat) (a0:Scene) (a1:Change):Option (Bool):=
  Option.bind (
    (f116 K a0.Basin a1.Cell).bind fun x9=>
    bif (decide (x9≥0)) then
      (f117 K a0 a1.From).bind fun x15=>
      bif (decide (x15≥0)) then
        (f117 K a0 a1.To).bind fun x22=>
        bif (decide (x22≥0)) then
          bif (decide (a1.From < a1.To)) then
            bif (decide (a1.Lo≥(-65536))) then
              bif (decide (a1.Lo≤a1.Hi)) then
                some (decide (a1.Hi≤65536))
              else
                some false
            else
              some false
          else
            some false
        else
          some false
      else
        some false
    else
      some false) fun(v4:Bool)=>
  some v4
def f76 (K:Nat) (a0:Scene):Option (Int):=
  (f75 K a0.Basin).bind fun x8=>
  bif (x8 != 0) then
    some 50
  else
    bif ((decide ((a0.Days.length:Int) < 1))||(decide ((a0.Days.length:Int) > 16))) then
      some 1
    else
      Jo (α:=Unit→Option (Int)) (fun(_:Unit)=>
        bif ((decide ((a0.Sights.length:Int) > 256))||(decide ((a0.Changes.length:Int) > 256))) then
          some 2
        else
          Jo (α:=Unit→Option (Int)) (fun(_:Unit)=>
            Jo (α:=Unit→Option (Int)) (fun(_:Unit)=>
              some 0) fun(j_2:Unit→Option (Int))=>
            rngL a0.Changes () (fun(v5:Int) (_:Unit)=>
                j_2 ()) fun nx_2 x_2 v5 (_:Unit)=>
              (f183 K a0 x_2).bind fun x90=>
              bif (!x90) then
                some 52
              else
                nx_2 (v5+1) ()) fun(j_1:Unit→Option (Int))=>
          rngL a0.Sights () (fun(v4:Int) (_:Unit)=>
              j_1 ()) fun nx_1 x_1 v4 (_:Unit)=>
            (f181 K a0 x_1).bind fun x75=>
            bif (!x75) then
              some 51
            else
              nx_1 (v4+1) ()) fun(j:Unit→Option (Int))=>
      rngL a0.Days () (fun(v3:Int) (_:Unit)=>
          j ()) fun nx x v3 (_:Unit)=>
        Option.bind (
          (f182 K x 1048576).bind fun x32=>
          bif (!x32) then
            some true
          else
            bif (decide (v3 > 0)) then
              (ix a0.Days (W (v3 - 1))).bind fun y=>
              some (decide (y≥x))
            else
              some false) fun(v51:Bool)=>
        bif v51 then
          some 1
        else
          nx (v3+1) ()
def f179 (K:Nat) (a0:Cell) (a1:Cell):Option (Bool):=
  some (((if (W (a1.Aspect - a0.Aspect)) > (W (a0.Aspect - a1.Aspect)) then (W (a1.Aspect - a0.Aspect)) else (W (a0.Aspect - a1.Aspect)))==0)||(((if (W (a1.Aspect - a0.Aspect)) > (W (a0.Aspect - a1.Aspect)) then (W (a1.Aspect - a0.Aspect)) else (W (a0.Aspect - a1.Aspect)))==1)||((if (W (a1.Aspect - a0.Aspect)) > (W (a0.Aspect - a1.Aspect)) then (W (a1.Aspect - a0.Aspect)) else (W (a0.Aspect - a1.Aspect)))==7)))
def f180 (K:Nat) (a0:Basin) (a1:Arr2_3):Option (Int):=
  (ix a0.Cells a1.a1).bind fun y=>
  (ix a0.Cells a1.a0).bind fun y_1=>
  some (W (a0.Slack+(W (Int.tdiv (W (a0.Gain*(W (y.Height - y_1.Height)))) 100))))
def f205 (K:Nat) (a0:Scene) (a1:Int) (a2:Int):Option (Int):=
  some (W ((W (1+(W (a2*(a0.Basin.Cells.length:Int)))))+a1))
def f222 (K:Nat) (a0:Laid_snowlineref05) (a1:Int) (a2:Int) (a3:Int) (a4:Reason):Option (Laid_snowlineref05):=
  (app a0.l ([(⟨a1,a2,a3⟩:Diff)]:List Diff)).bind fun z18=>
  (app a0.r ([a4]:List Reason)).bind fun z23=>
  some (⟨z18,z23⟩:Laid_snowlineref05)
def f103 (K:Nat) (a0:Scene):Option (Net × List Reason):=
  Option.bind (
    rngL a0.Days (([]:List Diff),([]:List Reason)) (fun(v6:Int) ((voo4_0,voo4_1):List Diff × List Reason)=>
        some (voo4_0,voo4_1)) fun nx x v6 ((voo4_0,voo4_1):List Diff × List Reason)=>
      Option.bind (
        rngL a0.Basin.Cells (voo4_0,voo4_1) (fun(v7:Int) ((voo4_0_6,voo4_1_6):List Diff × List Reason)=>
            some (voo4_0_6,voo4_1_6)) fun nx_3 x_3 v7 ((voo4_0_6,voo4_1_6):List Diff × List Reason)=>
          (f205 K a0 v7 v6).bind fun x41=>
          (f222 K (⟨voo4_0_6,voo4_1_6⟩:Laid_snowlineref05) 0 x41 a0.Basin.Deep (⟨1,x_3.No,x,false⟩:Reason)).bind fun x56=>
          (f205 K a0 v7 v6).bind fun x61=>
          (f222 K x56 x61 0 0 (⟨2,x_3.No,x,false⟩:Reason)).bind fun x74=>
          nx_3 (v7+1) (x74.l,x74.r)) fun((voo4_0_7,voo4_1_7):List Diff × List Reason)=>
      Option.bind (
        rngL a0.Basin.Pairs (voo4_0_7,voo4_1_7) (fun(v8:Int) ((voo4_0_8,voo4_1_8):List Diff × List Reason)=>
            some (voo4_0_8,voo4_1_8)) fun nx_4 x_4 v8 ((voo4_0_8,voo4_1_8):List Diff × List Reason)=>
          Option.bind (
            (ix a0.Basin.Cells x_4.a0).bind fun y=>
            (ix a0.Basin.Cells x_4.a1).bind fun y_1=>
            (f179 K y y_1).bind fun x101=>
            bif (!x101) then
              some (voo4_0_8,voo4_1_8)
            else
              (f205 K a0 x_4.a0 v6).bind fun x108=>
              (f205 K a0 x_4.a1 v6).bind fun x113=>
              (f180 K a0.Basin x_4).bind fun x116=>
              (f222 K (⟨voo4_0_8,voo4_1_8⟩:Laid_snowlineref05) x108 x113 x116 (⟨3,v8,x,false⟩:Reason)).bind fun x124=>
              Lt (bif (y.Height==y_1.Height) then a0.Basin.Slack else 0) fun v12=>
              (f205 K a0 x_4.a1 v6).bind fun x137=>
              (f205 K a0 x_4.a0 v6).bind fun x142=>
              (f222 K x124 x137 x142 v12 (⟨4,v8,x,false⟩:Reason)).bind fun x151=>
              some (x151.l,x151.r)) fun((voo4_0_10,voo4_1_10):List Diff × List Reason)=>
          nx_4 (v8+1) (voo4_0_10,voo4_1_10)) fun((voo4_0_9,voo4_1_9):List Diff × List Reason)=>
      nx (v6+1) (voo4_0_9,voo4_1_9)) fun((voo4_0_1,voo4_1_1):List Diff × List Reason)=>
  Option.bind (
    rngL a0.Sights (voo4_0_1,voo4_1_1) (fun(v13:Int) ((voo4_0_2,voo4_1_2):List Diff × List Reason)=>
        some (voo4_0_2,voo4_1_2)) fun nx_1 x_1 v13 ((voo4_0_2,voo4_1_2):List Diff × List Reason)=>
      (f116 K a0.Basin x_1.Cell).bind fun x168=>
      (f117 K a0 x_1.Day).bind fun x172=>
      (f205 K a0 x168 x172).bind fun x173=>
      (f222 K (⟨voo4_0_2,voo4_1_2⟩:Laid_snowlineref05) 0 x173 x_1.Hi (⟨5,v13,0,true⟩:Reason)).bind fun x180=>
      (f222 K x180 x173 0 (W (-x_1.Lo)) (⟨5,v13,0,false⟩:Reason)).bind fun x188=>
      nx_1 (v13+1) (x188.l,x188.r)) fun((voo4_0_3,voo4_1_3):List Diff × List Reason)=>
  Option.bind (
    rngL a0.Changes (voo4_0_3,voo4_1_3) (fun(v16:Int) ((voo4_0_4,voo4_1_4):List Diff × List Reason)=>
        some (voo4_0_4,voo4_1_4)) fun nx_2 x_2 v16 ((voo4_0_4,voo4_1_4):List Diff × List Reason)=>
      (f116 K a0.Basin x_2.Cell).bind fun x204=>
      (f117 K a0 x_2.From).bind fun x210=>
      (f205 K a0 x204 x210).bind fun x211=>
      (f117 K a0 x_2.To).bind fun x217=>
      (f205 K a0 x204 x217).bind fun x218=>
      (f222 K (⟨voo4_0_4,voo4_1_4⟩:Laid_snowlineref05) x211 x218 x_2.Hi (⟨6,v16,0,true⟩:Reason)).bind fun x226=>
      (f222 K x226 x218 x211 (W (-x_2.Lo)) (⟨6,v16,0,false⟩:Reason)).bind fun x235=>
      nx_2 (v16+1) (x235.l,x235.r)) fun((voo4_0_5,voo4_1_5):List Diff × List Reason)=>
  some ((⟨(W (1+(W ((a0.Basin.Cells.length:Int)*(a0.Days.length:Int))))),voo4_0_5⟩:Net),voo4_1_5)
def f106 (K:Nat) (a0:Scene):Option (Bool):=
  some ((decide ((W ((a0.Basin.Cells.length:Int)*(a0.Days.length:Int)))≤15))&&((decide ((a0.Basin.Pairs.length:Int)≤8))&&((decide ((a0.Sights.length:Int)≤10))&&(decide ((a0.Changes.length:Int)≤10)))))
def f28 (K:Nat) (a0:Scene):Option (Bool):=
  Option.bind (
    (f106 K a0).bind fun x4=>
    bif (!x4) then
      (f76 K a0).bind fun x8=>
      some (x8==0)
    else
      some false) fun(v2:Bool)=>
  some v2
def f230 (K:Nat) (a0:Net) (a1:List Bool):Option (List Int × List Bool × Bool):=
  Option.bind (
    rngN 0 a0.Nodes (([]:List Int),([]:List Bool)) (fun(v7:Int) ((vo4,vo5):List Int × List Bool)=>
        some (vo4,vo5)) fun nx v7 ((vo4,vo5):List Int × List Bool)=>
      (app vo4 ([0]:List Int)).bind fun z20=>
      (ix a1 v7).bind fun y_7=>
      (app vo5 ([y_7]:List Bool)).bind fun z27=>
      nx (v7+1) (z20,z27)) fun((vo4_1,vo5_1):List Int × List Bool)=>
  Jo (α:=List Int × List Bool→Option (List Int × List Bool × Bool)) (fun((vo4_3,vo5_3):List Int × List Bool)=>
    some (vo4_3,vo5_3,false)) fun(j_1:List Int × List Bool→Option (List Int × List Bool × Bool))=>
  whl (fun nx_1 ((vo4_2,vo5_2,v8):List Int × List Bool × Int)=>
    bif (decide (v8≤a0.Nodes)) then
      Option.bind (
        rngL a0.Diffs (vo4_2,vo5_2,false) (fun(v10:Int) ((vo4_4,vo5_4,v9):List Int × List Bool × Bool)=>
            some (vo4_4,vo5_4,v9)) fun nx_2 x v10 ((vo4_4,vo5_4,v9):List Int × List Bool × Bool)=>
          Option.bind (
            (ix vo5_4 x.From).bind fun y_3=>
            bif y_3 then
              (ix vo5_4 x.To).bind fun y_4=>
              bif (!y_4) then
                some true
              else
                (ix vo4_4 x.From).bind fun y_5=>
                (ix vo4_4 x.To).bind fun y_6=>
                some (decide ((W (y_5+x.Most)) < y_6))
            else
              some false) fun(v74:Bool)=>
          Option.bind (
            bif v74 then
              (ix vo4_4 x.From).bind fun y=>
              (ix vo4_4 x.To).bind fun y_1=>
              (ix vo5_4 x.To).bind fun y_2=>
              some ((vo4_4.set (Int.toNat x.To) (W (y+x.Most))),(vo5_4.set (Int.toNat x.To) true),true)
            else
              some (vo4_4,vo5_4,v9)) fun((vo4_6,vo5_6,v9_2):List Int × List Bool × Bool)=>
          nx_2 (v10+1) (vo4_6,vo5_6,v9_2)) fun((vo4_5,vo5_5,v9_1):List Int × List Bool × Bool)=>
      bif (!v9_1) then
        some (vo4_5,vo5_5,true)
      else
        nx_1 (vo4_5,vo5_5,(W (v8+1)))
    else
      j_1 (vo4_2,vo5_2)) K (vo4_1,vo5_1,0)
def f231 (K:Nat) (a0:Net) (a1:Bool) (a2:Int):Option (List Bool):=
  Option.bind (
    rngN 0 a0.Nodes ([]:List Bool) (fun(v8:Int) (vo7:List Bool)=>
        some vo7) fun nx v8 (vo7:List Bool)=>
      Option.bind (
        bif a1 then
          (app vo7 ([true]:List Bool)).bind fun z23=>
          some z23
        else
          (app vo7 ([(v8==a2)]:List Bool)).bind fun z23_1=>
          some z23_1) fun(vo7_2:List Bool)=>
      nx (v8+1) vo7_2) fun(vo7_1:List Bool)=>
  some vo7_1
def f188 (K:Nat) (a0:Net):Option (Bool):=
  (f231 K a0 true 0).bind fun x9=>
  (f230 K a0 x9).bind fun(x10_0,x10_1,x10_2)=>
  some x10_2
def f285 (K:Nat) (a0:Int) (a1:Int):Option (Bool):=
  some ((decide (a0≥0))&&(decide (a0 < a1)))
def f302 (K:Nat) (a0:Diff) (a1:Int):Option (Bool):=
  Option.bind (
    (f285 K a0.From a1).bind fun x8=>
    bif x8 then
      (f285 K a0.To a1).bind fun x13=>
      bif x13 then
        bif (decide (a0.Most≥(-1073741824))) then
          some (decide (a0.Most≤1073741824))
        else
          some false
      else
        some false
    else
      some false) fun(v4:Bool)=>
  some v4
def f229 (K:Nat) (a0:Net):Option (Int):=
  bif ((decide (a0.Nodes < 1))||((decide (a0.Nodes > 256))||(decide ((a0.Diffs.length:Int) > 4096)))) then
    some 40
  else
    Jo (α:=Unit→Option (Int)) (fun(_:Unit)=>
      some 0) fun(j:Unit→Option (Int))=>
    rngL a0.Diffs () (fun(v3:Int) (_:Unit)=>
        j ()) fun nx x v3 (_:Unit)=>
      (f302 K x a0.Nodes).bind fun x32=>
      bif (!x32) then
        some 40
      else
        nx (v3+1) ()
def f109 (K:Nat) (a0:Net):Option (List Int × Int):=
  (f229 K a0).bind fun x9=>
  bif (x9 != 0) then
    some (([]:List Int),40)
  else
    (f188 K a0).bind fun x12=>
    bif (!x12) then
      some (([]:List Int),41)
    else
      (f231 K a0 false 0).bind fun x17=>
      (f230 K a0 x17).bind fun(x18_0,x18_1,x18_2)=>
      Jo (α:=Unit→Option (List Int × Int)) (fun(_:Unit)=>
        some (x18_0,0)) fun(j:Unit→Option (List Int × Int))=>
      rngN 0 a0.Nodes () (fun(v7:Int) (_:Unit)=>
          j ()) fun nx v7 (_:Unit)=>
        (ix x18_1 v7).bind fun y=>
        bif (!y) then
          some (([]:List Int),42)
        else
          nx (v7+1) ()
def f110 (K:Nat) (a0:Scene) (a1:List Int):Option (List (List Int)):=
  Option.bind (
    rngN 0 (a0.Days.length:Int) ([]:List (List Int)) (fun(v6:Int) (vo5:List (List Int))=>
        some vo5) fun nx v6 (vo5:List (List Int))=>
      Option.bind (
        rngN 0 (a0.Basin.Cells.length:Int) ([]:List Int) (fun(v8:Int) (vo7:List Int)=>
            some vo7) fun nx_1 v8 (vo7:List Int)=>
          (f205 K a0 v8 v6).bind fun x29=>
          (ix a1 x29).bind fun y=>
          (app vo7 ([y]:List Int)).bind fun z33=>
          nx_1 (v8+1) z33) fun(vo7_1:List Int)=>
      (app vo5 ([vo7_1]:List (List Int))).bind fun z37=>
      nx (v6+1) z37) fun(vo5_1:List (List Int))=>
  some vo5_1
def f30 (K:Nat) (a0:Scene):Option (List (List Int) × Int):=
  (f76 K a0).bind fun x10=>
  bif (x10 != 0) then
    some (([]:List (List Int)),x10)
  else
    (f103 K a0).bind fun(x16_0,x16_1)=>
    (f109 K x16_0).bind fun(x21_0,x21_1)=>
    bif (x21_1 != 0) then
      some (([]:List (List Int)),x21_1)
    else
      (f110 K a0 x21_0).bind fun x29=>
      some (x29,0)
def f233 (K:Nat) (a0:Net):Option (Net):=
  Option.bind (
    rngL a0.Diffs ([]:List Diff) (fun(v4:Int) (voo3_1:List Diff)=>
        some voo3_1) fun nx x v4 (voo3_1:List Diff)=>
      (app voo3_1 ([(⟨x.To,x.From,x.Most⟩:Diff)]:List Diff)).bind fun z31=>
      nx (v4+1) z31) fun(voo3_1_1:List Diff)=>
  some (⟨a0.Nodes,voo3_1_1⟩:Net)
def f112 (K:Nat) (a0:Net):Option (List Int × Int):=
  (f233 K a0).bind fun x10=>
  (f109 K x10).bind fun(x11_0,x11_1)=>
  bif (x11_1 != 0) then
    some (([]:List Int),x11_1)
  else
    Option.bind (
      rngL x11_0 ([]:List Int) (fun(v7:Int) (vo6:List Int)=>
          some vo6) fun nx x v7 (vo6:List Int)=>
        (app vo6 ([(W (-x))]:List Int)).bind fun z30=>
        nx (v7+1) z30) fun(vo6_1:List Int)=>
    some (vo6_1,0)
def f32 (K:Nat) (a0:Scene):Option (List (List Int) × Int):=
  (f76 K a0).bind fun x10=>
  bif (x10 != 0) then
    some (([]:List (List Int)),x10)
  else
    (f103 K a0).bind fun(x16_0,x16_1)=>
    (f112 K x16_0).bind fun(x21_0,x21_1)=>
    bif (x21_1 != 0) then
      some (([]:List (List Int)),x21_1)
    else
      (f110 K a0 x21_0).bind fun x29=>
      some (x29,0)
def f115 (K:Nat) (a0:Scene) (a1:Int) (a2:Int):Option (Int):=
  (f76 K a0).bind fun x9=>
  bif (x9 != 0) then
    some x9
  else
    Option.bind (
      (f116 K a0.Basin a1).bind fun x16=>
      bif (decide (x16 < 0)) then
        some true
      else
        (f117 K a0 a2).bind fun x21=>
        some (decide (x21 < 0))) fun(v23:Bool)=>
    bif v23 then
      some 1
    else
      some 0
def f34 (K:Nat) (a0:Scene) (a1:Int) (a2:Int):Option (Span × Int):=
  (f115 K a0 a1 a2).bind fun x18=>
  bif (x18 != 0) then
    some ((⟨0,0⟩:Span),x18)
  else
    (f32 K a0).bind fun(x25_0,x25_1)=>
    bif (x25_1 != 0) then
      some ((⟨0,0⟩:Span),x25_1)
    else
      (f30 K a0).bind fun(x34_0,x34_1)=>
      (f116 K a0.Basin a1).bind fun x40=>
      (f117 K a0 a2).bind fun x43=>
      (ix x25_0 x43).bind fun y=>
      (ix y x40).bind fun y_1=>
      (ix x34_0 x43).bind fun y_2=>
      (ix y_2 x40).bind fun y_3=>
      some ((⟨y_1,y_3⟩:Span),0)
def f80 (K:Nat) (a0:Scene):Option (Bool):=
  (f103 K a0).bind fun(x7_0,x7_1)=>
  (f188 K x7_0).bind fun x11=>
  some x11
def f185 (K:Nat) (a0:List Int):Option (Bool):=
  Jo (α:=Unit→Option (Bool)) (fun(_:Unit)=>
    some true) fun(j:Unit→Option (Bool))=>
  rngN 1 (a0.length:Int) () (fun(v3:Int) (_:Unit)=>
      j ()) fun nx v3 (_:Unit)=>
    (ix a0 (W (v3 - 1))).bind fun y=>
    (ix a0 v3).bind fun y_1=>
    bif (decide (y≥y_1)) then
      some false
    else
      nx (v3+1) ()
def f281 (K:Nat) (a0:List Int) (a1:Int):Option (Bool):=
  Jo (α:=Unit→Option (Bool)) (fun(_:Unit)=>
    some false) fun(j:Unit→Option (Bool))=>
  rngL a0 () (fun(v5:Int) (_:Unit)=>
      j ()) fun nx x v5 (_:Unit)=>
    bif (x==a1) then
      some true
    else
      nx (v5+1) ()
def f186 (K:Nat) (a0:Scene) (a1:List Int):Option (Scene):=
  Option.bind (
    rngL a0.Sights ([]:List Sight) (fun(v6:Int) (voo5_6:List Sight)=>
        some voo5_6) fun nx x v6 (voo5_6:List Sight)=>
      (f281 K a1 x.No).bind fun x28=>
      Option.bind (
        bif x28 then
          (app voo5_6 ([x]:List Sight)).bind fun z37=>
          some z37
        else
          some voo5_6) fun(voo5_6_2:List Sight)=>
      nx (v6+1) voo5_6_2) fun(voo5_6_1:List Sight)=>
  some (⟨a0.Basin,a0.Days,voo5_6_1,a0.Changes⟩:Scene)
def f187 (K:Nat) (a0:List Int) (a1:Int):Option (List Int):=
  Option.bind (
    rngL a0 ([]:List Int) (fun(v6:Int) (vo5:List Int)=>
        some vo5) fun nx x v6 (vo5:List Int)=>
      Option.bind (
        bif (v6 != a1) then
          (app vo5 ([x]:List Int)).bind fun z22=>
          some z22
        else
          some vo5) fun(vo5_2:List Int)=>
      nx (v6+1) vo5_2) fun(vo5_1:List Int)=>
  some vo5_1
def f195 (K:Nat) (a0:Int→Option Bool) (a1:Scene) (a2:List Spot_basin) (a3:List Span):Option (Bool):=
  (f138 K a1 a0).bind fun x11=>
  (f114 K x11 a2).bind fun(x13_0,x13_1)=>
  Option.bind (
    bif (x13_1==0) then
      (f191 K x13_0 a3).bind fun x21=>
      some x21
    else
      some false) fun(v5:Bool)=>
  some v5
def f196 (K:Nat) (a0:Int) (a1:List Int):Option (Bool):=
  (f83 K a1 a0).bind fun x6=>
  some x6
def f86 (K:Nat) (a0:Scene) (a1:List Int) (a2:Int) (a3:List Int):Option (Int):=
  (f113 K a0 a1 a2).bind fun(x19_0,x19_1)=>
  bif (x19_1 != 0) then
    some x19_1
  else
    (f174 K a3).bind fun x26=>
    bif (!x26) then
      some 1
    else
      (f114 K a0 x19_0).bind fun(x31_0,x31_1)=>
      bif (x31_1 != 0) then
        some x31_1
      else
        (f195 K (fun y0=>f196 K y0 a3) a0 x19_0 x31_0).bind fun x40=>
        bif (!x40) then
          some 43
        else
          Jo (α:=Unit→Option (Int)) (fun(_:Unit)=>
            some 0) fun(j:Unit→Option (Int))=>
          rngL a3 () (fun(v44:Int) (_:Unit)=>
              j ()) fun nx x v44 (_:Unit)=>
            (f139 K a3 x).bind fun x51=>
            (f195 K (fun y0=>f255 K y0 x51.1 x51.2) a0 x19_0 x31_0).bind fun x52=>
            bif x52 then
              some 43
            else
              nx (v44+1) ()
def f197 (K:Nat) (a0:Basin) (a1:List Int):Option (Bool):=
  Jo (α:=Unit→Option (Bool)) (fun(_:Unit)=>
    some (decide ((a1.length:Int) > 0))) fun(j:Unit→Option (Bool))=>
  rngL a1 () (fun(v5:Int) (_:Unit)=>
      j ()) fun nx x v5 (_:Unit)=>
    Option.bind (
      (f116 K a0 x).bind fun x17=>
      bif (decide (x17 < 0)) then
        some true
      else
        bif (decide (v5 > 0)) then
          (ix a1 (W (v5 - 1))).bind fun y=>
          some (decide (y≥x))
        else
          some false) fun(v34:Bool)=>
    bif v34 then
      some false
    else
      nx (v5+1) ()
def f198 (K:Nat) (a0:Scene) (a1:Scene) (a2:List Int) (a3:Int):Option (Bool):=
  Jo (α:=Unit→Option (Bool)) (fun(_:Unit)=>
    some true) fun(j:Unit→Option (Bool))=>
  rngL a2 () (fun(v9:Int) (_:Unit)=>
      j ()) fun nx x v9 (_:Unit)=>
    (f34 K a0 x a3).bind fun(x27_0,x27_1)=>
    (f34 K a1 x a3).bind fun(x37_0,x37_1)=>
    bif (!(decide (x27_0=x37_0))) then
      some false
    else
      nx (v9+1) ()
def f87 (K:Nat) (a0:Scene) (a1:List Int) (a2:Int) (a3:List Int):Option (Int):=
  (f76 K a0).bind fun x12=>
  bif (x12 != 0) then
    some x12
  else
    Option.bind (
      (f197 K a0.Basin a1).bind fun x19=>
      bif (!x19) then
        some true
      else
        (f117 K a0 a2).bind fun x24=>
        bif (decide (x24 < 0)) then
          some true
        else
          (f185 K a3).bind fun x29=>
          some (!x29)) fun(v31:Bool)=>
    bif v31 then
      some 1
    else
      (f80 K a0).bind fun x33=>
      bif (!x33) then
        some 41
      else
        (f186 K a0 a3).bind fun x38=>
        (f198 K a0 x38 a1 a2).bind fun x41=>
        bif (!x41) then
          some 43
        else
          Jo (α:=Unit→Option (Int)) (fun(_:Unit)=>
            some 0) fun(j:Unit→Option (Int))=>
          rngN 0 (a3.length:Int) () (fun(v10:Int) (_:Unit)=>
              j ()) fun nx v10 (_:Unit)=>
            (f187 K a3 v10).bind fun x53=>
            (f186 K a0 x53).bind fun x54=>
            (f198 K a0 x54 a1 a2).bind fun x57=>
            bif x57 then
              some 43
            else
              nx (v10+1) ()
def f199 (K:Nat) (a0:Scene) (a1:List Int) (a2:List Int):Option (Int):=
  Option.bind (
    rngL a1 0 (fun(v8:Int) (v7:Int)=>
        some v7) fun nx x v8 (v7:Int)=>
      (f116 K a0.Basin x).bind fun x22=>
      (ix a0.Basin.Cells x22).bind fun y=>
      (ix a2 x22).bind fun y_1=>
      nx (v8+1) (W (v7+(W (y.Area*y_1))))) fun(v7_1:Int)=>
  some v7_1
def f88 (K:Nat) (a0:Scene) (a1:List Int) (a2:Int):Option (Span × Int):=
  (f76 K a0).bind fun x15=>
  bif (x15 != 0) then
    some ((⟨0,0⟩:Span),x15)
  else
    Option.bind (
      (f197 K a0.Basin a1).bind fun x23=>
      bif (!x23) then
        some true
      else
        (f117 K a0 a2).bind fun x28=>
        some (decide (x28 < 0))) fun(v30:Bool)=>
    bif v30 then
      some ((⟨0,0⟩:Span),1)
    else
      (f32 K a0).bind fun(x34_0,x34_1)=>
      bif (x34_1 != 0) then
        some ((⟨0,0⟩:Span),x34_1)
      else
        (f30 K a0).bind fun(x43_0,x43_1)=>
        (f117 K a0 a2).bind fun x48=>
        (ix x34_0 x48).bind fun y=>
        (f199 K a0 a1 y).bind fun x55=>
        (ix x43_0 x48).bind fun y_1=>
        (f199 K a0 a1 y_1).bind fun x62=>
        some ((⟨x55,x62⟩:Span),0)
def f15 (K:Nat) (a0:Scene) (a1:List Int) (a2:Int) (a3:List Int):Option (Bool):=
  (f21 K ).bind fun x13=>
  bif (!x13) then
    some false
  else
    Option.bind (
      (f28 K a0).bind fun x16=>
      bif x16 then
        some true
      else
        some (decide ((a3.length:Int) > 20))) fun(v21:Bool)=>
    bif v21 then
      some true
    else
      (f86 K a0 a1 a2 a3).bind fun x26=>
      (f87 K a0 a1 a2 a3).bind fun x31=>
      bif (x26 != x31) then
        some false
      else
        (f81 K a0 a1 a2).bind fun(x37_0,x37_1)=>
        (f88 K a0 a1 a2).bind fun(x44_0,x44_1)=>
        bif (x37_1 != 0) then
          some ((x37_1==x44_1)&&((x37_0.length:Int)==0))
        else
          Option.bind (
            bif (x44_1==0) then
              (f87 K a0 a1 a2 x37_0).bind fun x64=>
              some (x64==0)
            else
              some false) fun(v8_1:Bool)=>
          some v8_1
theorem f182_ok {K:Nat} {a0:Int} {a1:Int} {r:Bool} (h:f182 K a0 a1=some r):CallOK Tryz.prog 182 [Ai a0,Ai a1] [] (Ab r) []:=by
 refine Co Tryz.func182 z z (nl z) ?_
 unfold f182 at h
 refine Tp z (Ts (Tri.join1 ⟨[(4,Ab ((decide (a0≥0))&&(decide (a0≤a1))))],[]⟩ ?_ ?_))
 ·refine Te ?_
  exact Rb h z
 refine Tri.region (Qe 3 z ?_)
 rcases b2 (decide (a0≥0)) with hb | hb
 ·exact Qk 7 hb z (Qd z ((Es0 [4] z ⟨.imm (Sub.of_eq (show Ab ((decide (a0≥0))&&(decide (a0≤a1)))=Ab (decide (a0≤a1)) by simp only [cond_true,cond_false,Bool.true_or,Bool.false_or,Bool.true_and,Bool.false_and,Bool.or_true,Bool.or_false,Bool.and_true,Bool.and_false,hb])) z,u0⟩)))
 exact Qk 7 hb z (Qd z ((Es0 [4] z ⟨.imm (Sub.of_eq (show Ab ((decide (a0≥0))&&(decide (a0≤a1)))=Ab false by simp only [cond_true,cond_false,Bool.true_or,Bool.false_or,Bool.true_and,Bool.false_and,Bool.or_true,Bool.or_false,Bool.and_true,Bool.and_false,hb])) z,u0⟩)))
theorem f178_ok {K:Nat} {a0:Cell} {r:Bool} (h:f178 K a0=some r):CallOK Tryz.prog 178 [.agg (Cell.cl a0)] [] (Ab r) []:=by
 refine Co Tryz.func178 z z (nl z) ?_
 unfold f178 at h
 refine Tp z (Ts ?_)
 obtain⟨v2,hj,h⟩:=bs h
 refine Tri.joinv v2 (fun(y:Bool)=>⟨[(2,Ab y)],[]⟩) ?_ ?_
 ·refine Te ?_
  exact Rb h z
 have h:=hj
 refine Tri.region (Qe 2 z ?_)
 obtain⟨x5,hc,h⟩:=bs h
 refine Qc z z z (args:=[Ai a0.No,Ai 4095]) (r:=Ab x5) (calv z z fnok_182 z) (f182_ok hc) z (Qe 1 z ?_)
 rcases b2 x5 with hb | hb
 ·have h:=cq hb h
  refine Qk 6 hb z (Qe 2 z ?_)
  obtain⟨x9,hc_1,h⟩:=bs h
  refine Qc z z z (args:=[Ai a0.Height,Ai 9000]) (r:=Ab x9) (calv z z fnok_182 z) (f182_ok hc_1) z (Qe 2 z ?_)
  rcases b2 x9 with hb_1 | hb_1
  ·have h:=cq hb_1 h
   refine Qk 11 hb_1 z (Qe 2 z ?_)
   obtain⟨x14,hc_2,h⟩:=bs h
   refine Qc z z z (args:=[Ai a0.Aspect,Ai 7]) (r:=Ab x14) (calv z z fnok_182 z) (f182_ok hc_2) z (Qe 2 z ?_)
   rcases b2 x14 with hb_2 | hb_2
   ·have h:=cq hb_2 h
    refine Qk 16 hb_2 z (Qe 5 z ?_)
    rcases b2 (decide (a0.Area≥1)) with hb_3 | hb_3
    ·have h:=cq hb_3 h
     exact Qk 21 hb_3 z (Qd z (Xi (decide (a0.Area≤4096)) (An h (E0 z))))
    have h:=cw hb_3 h
    exact Qk 21 hb_3 z (Qd z (Xi false (An h (E0 z))))
   have h:=cw hb_2 h
   exact Qk 16 hb_2 z (Qd z (Xi false (An h (E0 z))))
  have h:=cw hb_1 h
  exact Qk 11 hb_1 z (Qd z (Xi false (An h (E0 z))))
 have h:=cw hb h
 exact Qk 6 hb z (Qd z (Xi false (An h (E0 z))))
theorem f75_ok {K:Nat} {a0:Basin} {r:Int} (h:f75 K a0=some r):CallOK Tryz.prog 75 [.agg (Basin.cl a0)] [] (Ai r) []:=by
 refine Co Tryz.func75 z z (nl z) ?_
 unfold f75 at h
 refine Tp z (Ts (Ts ?_))
 obtain⟨v41,hj_5,h⟩:=bs h
 refine Tri.joinv v41 (fun(y:Bool)=>⟨[(1,.ipt (Basin.cl a0) 0),(41,Ab y)],[]⟩) ?_ ?_
 ·refine Tc (b:=v41) z (fun hb=>?_) (fun hb=>?_)
  ·have h:=cq hb h
   refine Tp z (Te ?_)
   exact Ri h z
  have h:=cw hb h
  refine Tk (Ts (Tp z ?_))
  obtain⟨j,hj,h⟩:=jo h
  refine Tri.rngL h (fun p=>⟨[(1,.ipt (Basin.cl a0) 0),(3,Ai p.1)],[]⟩) (fun y=>j y=some r) (fun(y:Unit)=>⟨[(1,.ipt (Basin.cl a0) 0)],[]⟩) (E0 z) ?_ ?_ ?_
  ·rintro⟨⟩ h
   subst hj
   refine Ts (Tp z ?_)
   obtain⟨j_1,hj_1,h⟩:=jo h
   refine Tri.rngL h (fun p=>⟨[(1,.ipt (Basin.cl a0) 0),(4,Ai p.1)],[]⟩) (fun y=>j_1 y=some r) (fun(y:Unit)=>⟨[],[]⟩) (E0 z) ?_ ?_ ?_
   ·rintro⟨⟩ h
    subst hj_1
    refine Tp z (Te ?_)
    exact Ri h z
   ·rintro v4 ⟨⟩ hi_1 h
    refine Ts (Tr (Qe 3 z (Q1 z z z (Ax.ln (cl:=Arr2_3.cl) z slc_23 z) (Qd z (Tc (b:=(decide (v4 < (a0.Pairs.length:Int)))) z (fun hb_1=>?_) (fun hb_1=>?_))))))
    ·exact(lt_f hi_1 hb_1).elim
    exact Tri.exit (Xi () (An h (E0 z)))
   rintro nx_1 x_1 v4 ⟨⟩ _ hi_1 hw_1 hx_1 h
   refine Ts (Tr (Qe 3 z (Q1 z z z (Ax.ln (cl:=Arr2_3.cl) z slc_23 z) (Qd z (Tc (b:=(decide (v4 < (a0.Pairs.length:Int)))) z (fun hb_2=>?_) (fun hb_2=>?_))))))
   ·refine Tk (Ts (Tri.block (Tr (Qe 3 z (Q1 z z z (Ax.ix (cl:=Arr2_3.cl) z slc_23 z z hx_1) (Qe 1 z (Qn z z z (v:=.ptr 5 0) (x:=some (.box (Arr2_3.cl (⟨0,0⟩:Arr2_3)))) (Al_ z z zer_97 z ⟨Sub.refl _,Sub.refl _,u0⟩) z z z z z (Qs z z (x:=some (.box (Arr2_3.cl x_1))) (As z siz_97 z z z z z z z) (Rx (Ts (Ts ?_)))))))))))
    obtain⟨v129,hj_3,h⟩:=bs h
    refine Tri.joinv v129 (fun(y:Bool)=>⟨[(1,.ipt (Basin.cl a0) 0),(4,Ai v4),(5,.ptr 5 0),(129,Ab y)],[(5,some (.box (Arr2_3.cl x_1)))]⟩) ?_ ?_
    ·refine Tc (b:=v129) z (fun hb_3=>?_) (fun hb_3=>?_)
     ·have h:=cq hb_3 h
      refine Tp z (Te ?_)
      exact Ri h z
     have h:=cw hb_3 h
     refine Tk (Tp z ?_)
     obtain⟨j_2,hj_2,h⟩:=jo h
     refine Tri.rngN h (fun p=>⟨[(1,.ipt (Basin.cl a0) 0),(4,Ai v4),(5,.ptr 5 0),(6,Ai p.1)],[(5,some (.box (Arr2_3.cl x_1)))]⟩) (fun y=>j_2 y=some r) (fun(y:Unit)=>⟨[(1,.ipt (Basin.cl a0) 0),(4,Ai v4)],[]⟩) (Ee [5] z u0) ?_ ?_ ?_
     ·rintro⟨⟩ h
      subst hj_2
      exact Tq z (Xi (v4+1,()) (An (An z h) (Es0 [4] z ⟨.imm (Sub.of_eq (show Ai (v4+1)=Ai (W (v4+1)) from congrArg Ai hw_1.symm)) z,u0⟩)))
     ·rintro v6 ⟨⟩ hi_2 _ h
      refine Ts (Tp z (Tc (b:=(decide (v6 < v4))) z (fun hb_4=>?_) (fun hb_4=>?_)))
      ·exact(lt_f hi_2 hb_4).elim
      exact Tri.exit (Xi () (An h (E0 z)))
     rintro nx_2 v6 ⟨⟩ _ hi_2 hw_2 h
     refine Ts (Tp z (Tc (b:=(decide (v6 < v4))) z (fun hb_5=>?_) (fun hb_5=>?_)))
     ·refine Tk (Ts (Tri.block (Tr (Qe 3 z ?_))))
      obtain⟨y,hy,h⟩:=bs h
      refine Q1 z z z (Ax.ix (cl:=Arr2_3.cl) z slc_23 z z hy) (Qe 1 z (Qn z z z (v:=.ptr 7 0) (x:=some (.box (Arr2_3.cl (⟨0,0⟩:Arr2_3)))) (Al_ z z zer_97 z ⟨Sub.refl _,Sub.refl _,u0⟩) z z z z z (Qs z z (x:=some (.box (Arr2_3.cl y))) (As z siz_97 z z z z z z z) (Rx (Ts (Tri.join1 ⟨[(1,.ipt (Basin.cl a0) 0),(4,Ai v4),(5,.ptr 5 0),(6,Ai v6),(165,Ab (bif (y.a0==x_1.a0) then ((y.a1==x_1.a1)||((y.a0==x_1.a1)&&(y.a1==x_1.a0))) else ((y.a0==x_1.a1)&&(y.a1==x_1.a0))))],[(5,some (.box (Arr2_3.cl x_1)))]⟩ ?_ ?_))))))
      ·refine Tc (b:=(bif (y.a0==x_1.a0) then ((y.a1==x_1.a1)||((y.a0==x_1.a1)&&(y.a1==x_1.a0))) else ((y.a0==x_1.a1)&&(y.a1==x_1.a0)))) z (fun hb_6=>?_) (fun hb_6=>?_)
       ·have h:=cq hb_6 h
        refine Tp z (Te ?_)
        exact Ri h z
       have h:=cw hb_6 h
       exact Tk (Tq z (Xi (v6+1,()) (An (An z h) (Es [5] [6] z u0 ⟨.imm (Sub.of_eq (show Ai (v6+1)=Ai (W (v6+1)) from congrArg Ai hw_2.symm)) z,u0⟩))))
      refine Tri.region (Q1 z z z (Ax.index_ptr (k:=.i64) (n:=0) z arr_97 z z z (by decide) (by decide)) (Qe 1 z (Q1 z z z (Ax.index_ptr (k:=.i64) (n:=0) z arr_97 z z z (by decide) (by decide)) (Qe 3 z ?_))))
      rcases b2 (y.a0==x_1.a0) with hb_7 | hb_7
      ·refine Qk 145 hb_7 z (Q1 z z z (Ax.index_ptr (k:=.i64) (n:=1) z arr_97 z z z (by decide) (by decide)) (Qe 1 z (Q1 z z z (Ax.index_ptr (k:=.i64) (n:=1) z arr_97 z z z (by decide) (by decide)) (Qe 4 z ?_))))
       rcases b2 (y.a1==x_1.a1) with hb_8 | hb_8
       ·exact Qk 152 hb_8 z (Qd z ((Es [5] [165] z u0 ⟨.imm (Sub.of_eq (show Ab (bif (y.a0==x_1.a0) then ((y.a1==x_1.a1)||((y.a0==x_1.a1)&&(y.a1==x_1.a0))) else ((y.a0==x_1.a1)&&(y.a1==x_1.a0)))=Ab true by simp only [cond_true,cond_false,Bool.true_or,Bool.false_or,Bool.true_and,Bool.false_and,Bool.or_true,Bool.or_false,Bool.and_true,Bool.and_false,hb,hb_2,hb_3,hb_5,hb_7,hb_8])) z,u0⟩)))
       refine Qk 152 hb_8 z (Q1 z z z (Ax.index_ptr (k:=.i64) (n:=0) z arr_97 z z z (by decide) (by decide)) (Qe 1 z (Q1 z z z (Ax.index_ptr (k:=.i64) (n:=1) z arr_97 z z z (by decide) (by decide)) (Qe 3 z ?_))))
       rcases b2 (y.a0==x_1.a1) with hb_9 | hb_9
       ·exact Qk 158 hb_9 z (Q1 z z z (Ax.index_ptr (k:=.i64) (n:=1) z arr_97 z z z (by decide) (by decide)) (Qe 1 z (Q1 z z z (Ax.index_ptr (k:=.i64) (n:=0) z arr_97 z z z (by decide) (by decide)) (Qd z ((Es [5] [165] z u0 ⟨.imm (Sub.of_eq (show Ab (bif (y.a0==x_1.a0) then ((y.a1==x_1.a1)||((y.a0==x_1.a1)&&(y.a1==x_1.a0))) else ((y.a0==x_1.a1)&&(y.a1==x_1.a0)))=Ab (y.a1==x_1.a0) by simp only [cond_true,cond_false,Bool.true_or,Bool.false_or,Bool.true_and,Bool.false_and,Bool.or_true,Bool.or_false,Bool.and_true,Bool.and_false,hb,hb_2,hb_3,hb_5,hb_7,hb_8,hb_9])) z,u0⟩))))))
       exact Qk 158 hb_9 z (Qd z ((Es [5] [165] z u0 ⟨.imm (Sub.of_eq (show Ab (bif (y.a0==x_1.a0) then ((y.a1==x_1.a1)||((y.a0==x_1.a1)&&(y.a1==x_1.a0))) else ((y.a0==x_1.a1)&&(y.a1==x_1.a0)))=Ab false by simp only [cond_true,cond_false,Bool.true_or,Bool.false_or,Bool.true_and,Bool.false_and,Bool.or_true,Bool.or_false,Bool.and_true,Bool.and_false,hb,hb_2,hb_3,hb_5,hb_7,hb_8,hb_9])) z,u0⟩)))
      refine Qk 145 hb_7 z (Qe 7 z (Q1 z z z (Ax.index_ptr (k:=.i64) (n:=0) z arr_97 z z z (by decide) (by decide)) (Qe 1 z (Q1 z z z (Ax.index_ptr (k:=.i64) (n:=1) z arr_97 z z z (by decide) (by decide)) (Qe 3 z ?_)))))
      rcases b2 (y.a0==x_1.a1) with hb_10 | hb_10
      ·exact Qk 158 hb_10 z (Q1 z z z (Ax.index_ptr (k:=.i64) (n:=1) z arr_97 z z z (by decide) (by decide)) (Qe 1 z (Q1 z z z (Ax.index_ptr (k:=.i64) (n:=0) z arr_97 z z z (by decide) (by decide)) (Qd z ((Es [5] [165] z u0 ⟨.imm (Sub.of_eq (show Ab (bif (y.a0==x_1.a0) then ((y.a1==x_1.a1)||((y.a0==x_1.a1)&&(y.a1==x_1.a0))) else ((y.a0==x_1.a1)&&(y.a1==x_1.a0)))=Ab (y.a1==x_1.a0) by simp only [cond_true,cond_false,Bool.true_or,Bool.false_or,Bool.true_and,Bool.false_and,Bool.or_true,Bool.or_false,Bool.and_true,Bool.and_false,hb,hb_2,hb_3,hb_5,hb_7,hb_10])) z,u0⟩))))))
      exact Qk 158 hb_10 z (Qd z ((Es [5] [165] z u0 ⟨.imm (Sub.of_eq (show Ab (bif (y.a0==x_1.a0) then ((y.a1==x_1.a1)||((y.a0==x_1.a1)&&(y.a1==x_1.a0))) else ((y.a0==x_1.a1)&&(y.a1==x_1.a0)))=Ab false by simp only [cond_true,cond_false,Bool.true_or,Bool.false_or,Bool.true_and,Bool.false_and,Bool.or_true,Bool.or_false,Bool.and_true,Bool.and_false,hb,hb_2,hb_3,hb_5,hb_7,hb_10])) z,u0⟩)))
     exact(lt_t hi_2 hb_5).elim
    have h:=hj_3
    refine Td [[],[0],[],[2],[2,3],[2,3,4],[0,1,2,3,4,5],[0,1,2,3,4,5,6],[0,1,2,3,4,5,6,7],[0,1,2,3,4,5,6,7,8],[0,1,2,3,4,5,6,7,8,9],[0,1,2,3,4,5,6,7,8],[0,1,2,3,4,5,6,7,8,11],[0,1,2,3,4,5,6,7,8,11,12],[0,1,2,3,4,5,6,7,8,11,12,13],[0,1,2,3,4,5,6,7,8,9,10,11,12,13,14],[0,1,2,3,4,5,6,7,8,9,10,11,12,13,14,15],[0,1,2,3,4,5,6,7,8,9,10,11,12,13,14,15,16],[0,1,2,3,4,5,6,7,8,9,10,11,12,13,14,15,16,17],[0,1,2,3,4,5,6,7,8,9,10,11,12,13,14,15,16,17,18],[0,1,2,3,4,5,6,7,8,9,10,11,12,13,14,15,16,17,18,19],[0,1,2,3,4,5,6,7,8,9,10,11,12,13,14,15,16,17,18],[0,1,2,3,4,5,6,7,8,9,10,11,12,13,14,15,16,17,18,21],[0,1,2,3,4,5,6,7,8,9,10,11,12,13,14,15,16,17,18,19,20,21,22],[0,1,2,3,4,5,6,7,8,9,10,11,12,13,14,15,16,17,18,19,20,21,22,23],[0,1,2,3,4,5,6,7,8,9,10,11,12,13,14,15,16,17,18,19,20,21,22,23,24],[0,1,2,3,4,5,6,7,8,9,10,11,12,13,14,15,16,17,18,19,20,21,22,23,24,25],[0,1,2,3,4,5,6,7,8,9,10,11,12,13,14,15,16,17,18,19,20,21,22,23,24,25,26],[0,1,2,3,4,5,6,7,8,9,10,11,12,13,14,15,16,17,18,19,20,21,22,23,24,25],[0,1,2,3,4,5,6,7,8,9,10,11,12,13,14,15,16,17,18,19,20,21,22,23,24,25,28],[0,1,2,3,4,5,6,7,8,9,10,11,12,13,14,15,16,17,18,19,20,21,22,23,24,25,26,27,28,29],[0,1,2,3,4,5,6,7,8,9,10,11,12,13,14,15,16,17,18,19,20,21,22,23,24,25,26,27,28,29,30],[0,1,2,3,4,5,6,7,8,9,10,11,12,13,14,15,16,17,18,19,20,21,22,23,24,25,26,27,28,29,30,31],[0,1,2,3,4,5,6,7,8,9,10,11,12,13,14,15,16,17,18,19,20,21,22,23,24,25],[0,1,2,3,4,5,6,7,8,9,10,11,12,13,14,15,16,17,18,19,20,21,22,23,24,25,33],[0,1,2,3,4,5,6,7,8,9,10,11,12,13,14,15,16,17,18,19,20,21,22,23,24,25],[0,1,2,3,4,5,6,7,8,9,10,11,12,13,14,15,16,17,18,19,20,21,22,23,24,25,35],[0,1,2,3,4,5,6,7,8,9,10,11,12,13,14,15,16,17,18,19,20,21,22,23,24,25,33,34,35,36],[0,1,2,3,4,5,6,7,8,9,10,11,12,13,14,15,16,17,18,19,20,21,22,23,24,25,33,34,35,36,37],[0,1,2,3,4,5,6,7,8,9,10,11,12,13,14,15,16,17,18,19,20,21,22,23,24,25,33,34,35,36,37,38],[0,1,2,3,4,5,6,7,8,9,10,11,12,13,14,15,16,17,18,19,20,21,22,23,24,25,26,27,28,29,30,31,32,33,34,35,36,37,38,39],[0,1,2,3,4,5,6,7,8,9,10,11,12,13,14,15,16,17,18,19,20,21,22,23,24,25,26,27,28,29,30,31,32,33,34,35,36,37,38,39,40]] hmix (by kernel_rfl) (Q1 z z z (Ax.index_ptr (k:=.i64) (n:=0) z arr_97 z z z (by decide) (by decide)) (Qe 3 z (Q1 z z z (Ax.ln (cl:=Cell.cl) z slc_22 z) (Qe 1 z ?_))))
    obtain⟨x94,hc,h⟩:=bs h
    refine Qc z z z (args:=[Ai x_1.a0,Ai (W ((a0.Cells.length:Int) - 1))]) (r:=Ab x94) (calv z z fnok_182 z) (f182_ok hc) z (Qe 2 z ?_)
    rcases b2 (!x94) with hb_11 | hb_11
    ·have h:=cq hb_11 h
     refine Qk 96 hb_11 z (Qe 33 z (Rx ⟨by kernel_rfl,freshL_of [] (by kernel_rfl) (by kernel_rfl),?_⟩))
     exact Xi true (An h (Ee [5] z u0))
    have h:=cw hb_11 h
    refine Qk 96 hb_11 z (Q1 z z z (Ax.index_ptr (k:=.i64) (n:=1) z arr_97 z z z (by decide) (by decide)) (Qe 3 z (Q1 z z z (Ax.ln (cl:=Cell.cl) z slc_22 z) (Qe 1 z ?_))))
    obtain⟨x103,hc_1,h⟩:=bs h
    refine Qc z z z (args:=[Ai x_1.a1,Ai (W ((a0.Cells.length:Int) - 1))]) (r:=Ab x103) (calv z z fnok_182 z) (f182_ok hc_1) z (Qe 3 z ?_)
    rcases b2 (!x103) with hb_12 | hb_12
    ·have h:=cq hb_12 h
     refine Qk 106 hb_12 z (Qe 23 z (Rx ⟨by kernel_rfl,freshL_of [] (by kernel_rfl) (by kernel_rfl),?_⟩))
     exact Xi true (An h (Ee [5] z u0))
    have h:=cw hb_12 h
    refine Qk 106 hb_12 z (Q1 z z z (Ax.index_ptr (k:=.i64) (n:=0) z arr_97 z z z (by decide) (by decide)) (Qe 1 z (Q1 z z z (Ax.index_ptr (k:=.i64) (n:=1) z arr_97 z z z (by decide) (by decide)) (Qe 4 z ?_))))
    rcases b2 (x_1.a0==x_1.a1) with hb_13 | hb_13
    ·have h:=cq hb_13 h
     refine Qk 113 hb_13 z (Qe 16 z (Rx ⟨by kernel_rfl,freshL_of [] (by kernel_rfl) (by kernel_rfl),?_⟩))
     exact Xi true (An h (Ee [5] z u0))
    have h:=cw hb_13 h
    refine Qk 113 hb_13 z (Qe 2 z (Q1 z z z (Ax.index_ptr (k:=.i64) (n:=0) z arr_97 z z z (by decide) (by decide)) (Qe 1 z ?_)))
    obtain⟨y_1,hy_1,h⟩:=bs h
    refine Q1 z z z (Ax.ix (cl:=Cell.cl) z slc_22 z z hy_1) (Qe 4 z (Q1 z z z (Ax.index_ptr (k:=.i64) (n:=1) z arr_97 z z z (by decide) (by decide)) (Qe 1 z ?_)))
    obtain⟨y_2,hy_2,h⟩:=bs h
    refine Q1 z z z (Ax.ix (cl:=Cell.cl) z slc_22 z z hy_2) (Qe 4 z (Rx ⟨by kernel_rfl,freshL_of [] (by kernel_rfl) (by kernel_rfl),?_⟩))
    exact Xi (decide (y_1.Height > y_2.Height)) (An h (Ee [5] z u0))
   exact(lt_t hi_1 hb_2).elim
  ·rintro v3 ⟨⟩ hi h
   refine Ts (Tr (Qe 3 z (Q1 z z z (Ax.ln (cl:=Cell.cl) z slc_22 z) (Qd z (Tc (b:=(decide (v3 < (a0.Cells.length:Int)))) z (fun hb_14=>?_) (fun hb_14=>?_))))))
   ·exact(lt_f hi hb_14).elim
   exact Tri.exit (Xi () (An h (E0 z)))
  rintro nx x v3 ⟨⟩ _ hi hw hx h
  refine Ts (Tr (Qe 3 z (Q1 z z z (Ax.ln (cl:=Cell.cl) z slc_22 z) (Qd z (Tc (b:=(decide (v3 < (a0.Cells.length:Int)))) z (fun hb_15=>?_) (fun hb_15=>?_))))))
  ·refine Tk (Ts (Tri.block (Ts ?_)))
   obtain⟨v75,hj_4,h⟩:=bs h
   refine Tri.joinv v75 (fun(y:Bool)=>⟨[(1,.ipt (Basin.cl a0) 0),(3,Ai v3),(75,Ab y)],[]⟩) ?_ ?_
   ·refine Tc (b:=v75) z (fun hb_16=>?_) (fun hb_16=>?_)
    ·have h:=cq hb_16 h
     refine Tp z (Te ?_)
     exact Ri h z
    have h:=cw hb_16 h
    exact Tk (Tq z (Xi (v3+1,()) (An (An z h) (Es0 [3] z ⟨.imm (Sub.of_eq (show Ai (v3+1)=Ai (W (v3+1)) from congrArg Ai hw.symm)) z,u0⟩))))
   have h:=hj_4
   refine Td [[],[0],[],[0,1,2],[0,1,2,3],[0,1,2,3,4],[0,1,2,3,4,5],[0,1,2,3,4,5,6],[0,1,2,3,4,5,6,7],[0,1,2,3,4,5,6,7,8],[0,1,2,3,4,5,6,7,8,9],[0,1,2,3,4,5,6,7,8,9,10],[0,1,2,3,4,5,6,7,8,9,10,11],[0,1,2,3,4,5,6,7,8,9,10],[0,1,2,3,4,5,6,7,8,9,10,13],[0,1,2,3,4,5,6,7,8,9,10,11,12,13,14],[0,1,2,3,4,5,6,7,8,9,10,11,12,13,14,15],[0,1,2,3,4,5,6,7,8,9,10,11,12,13,14,15,16],[0,1,2,3,4,5,6,7,8,9,10],[0,1,2,3,4,5,6,7,8,9,10,18],[0,1,2,3,4,5,6,7,8,9,10],[0,1,2,3,4,5,6,7,8,9,10,18,19,20],[0,1,2,3,4,5,6,7,8,9,10,18,19,20,21],[0,1,2,3,4,5,6,7,8,9,10,18,19,20,21,22],[0,1,2,3,4,5,6,7,8,9,10,11,12,13,14,15,16,17,18,19,20,21,22,23],[0,1,2,3,4,5,6,7,8,9,10,11,12,13,14,15,16,17,18,19,20,21,22,23,24],[0,1,2,3,4,5,6,7,8,9,10,11,12,13,14,15,16,17,18,19,20,21,22,23,24,25]] hmix (by kernel_rfl) (Qe 3 z (Q1 z z z (Ax.ix (cl:=Cell.cl) z slc_22 z z hx) (Qe 1 z ?_)))
   obtain⟨x54,hc_2,h⟩:=bs h
   refine Qc z z z (args:=[.agg (Cell.cl x)]) (r:=Ab x54) (calv z z fnok_178 z) (f178_ok hc_2) z (Qe 2 z ?_)
   rcases b2 (!x54) with hb_17 | hb_17
   ·have h:=cq hb_17 h
    refine Qk 56 hb_17 z (Qe 19 z (Rx ⟨by kernel_rfl,freshL_of [] (by kernel_rfl) (by kernel_rfl),?_⟩))
    exact Xi true (An h (E0 z))
   have h:=cw hb_17 h
   refine Qk 56 hb_17 z (Qe 3 z ?_)
   rcases b2 (decide (v3 > 0)) with hb_18 | hb_18
   ·have h:=cq hb_18 h
    refine Qk 59 hb_18 z (Qe 4 z ?_)
    obtain⟨y_3,hy_3,h⟩:=bs h
    refine Q1 z z z (Ax.ix (cl:=Cell.cl) z slc_22 z z hy_3) (Qe 5 z (Q1 z z z (Ax.ix (cl:=Cell.cl) z slc_22 z z hx) (Qe 5 z (Rx ⟨by kernel_rfl,freshL_of [] (by kernel_rfl) (by kernel_rfl),?_⟩))))
    exact Xi (decide (y_3.No≥x.No)) (An h (E0 z))
   have h:=cw hb_18 h
   refine Qk 59 hb_18 z (Qe 16 z (Rx ⟨by kernel_rfl,freshL_of [] (by kernel_rfl) (by kernel_rfl),?_⟩))
   exact Xi false (An h (E0 z))
  exact(lt_t hi hb_15).elim
 have h:=hj_5
 refine Tri.region (Qe 2 z (Q1 z z z (Ax.ln (cl:=Cell.cl) z slc_22 z) (Qe 2 z ?_)))
 rcases b2 (decide ((a0.Cells.length:Int) < 1)) with hb_19 | hb_19
 ·have h:=cq hb_19 h
  exact Qk 12 hb_19 z (Qd z (Xi true (An h (E0 z))))
 have h:=cw hb_19 h
 refine Qk 12 hb_19 z (Qe 2 z (Q1 z z z (Ax.ln (cl:=Cell.cl) z slc_22 z) (Qe 3 z ?_)))
 rcases b2 (decide ((a0.Cells.length:Int) > 12)) with hb_20 | hb_20
 ·have h:=cq hb_20 h
  exact Qk 18 hb_20 z (Qd z (Xi true (An h (E0 z))))
 have h:=cw hb_20 h
 refine Qk 18 hb_20 z (Qe 2 z (Q1 z z z (Ax.ln (cl:=Arr2_3.cl) z slc_23 z) (Qe 3 z ?_)))
 rcases b2 (decide ((a0.Pairs.length:Int) > 24)) with hb_21 | hb_21
 ·have h:=cq hb_21 h
  exact Qk 24 hb_21 z (Qd z (Xi true (An h (E0 z))))
 have h:=cw hb_21 h
 refine Qk 24 hb_21 z (Qe 2 z ?_)
 obtain⟨x27,hc_3,h⟩:=bs h
 refine Qc z z z (args:=[Ai a0.Gain,Ai 65536]) (r:=Ab x27) (calv z z fnok_182 z) (f182_ok hc_3) z (Qe 3 z ?_)
 rcases b2 (!x27) with hb_22 | hb_22
 ·have h:=cq hb_22 h
  exact Qk 30 hb_22 z (Qd z (Xi true (An h (E0 z))))
 have h:=cw hb_22 h
 refine Qk 30 hb_22 z (Qe 2 z ?_)
 obtain⟨x33,hc_4,h⟩:=bs h
 refine Qc z z z (args:=[Ai a0.Slack,Ai 65536]) (r:=Ab x33) (calv z z fnok_182 z) (f182_ok hc_4) z (Qe 3 z ?_)
 rcases b2 (!x33) with hb_23 | hb_23
 ·have h:=cq hb_23 h
  exact Qk 36 hb_23 z (Qd z (Xi true (An h (E0 z))))
 have h:=cw hb_23 h
 refine Qk 36 hb_23 z (Qe 2 z ?_)
 obtain⟨x39,hc_5,h⟩:=bs h
 exact Qc z z z (args:=[Ai a0.Deep,Ai 65536]) (r:=Ab x39) (calv z z fnok_182 z) (f182_ok hc_5) z (Qd z (Xi (!x39) (An h (E0 z))))
theorem f116_ok {K:Nat} {a0:Basin} {a1:Int} {r:Int} (h:f116 K a0 a1=some r):CallOK Tryz.prog 116 [.agg (Basin.cl a0),Ai a1] [] (Ai r) []:=by
 refine Co Tryz.func116 z z (nl z) ?_
 unfold f116 at h
 refine Tp z (Ts (Tp z ?_))
 obtain⟨j,hj,h⟩:=jo h
 refine Tri.rngL h (fun p=>⟨[(1,Ai a1),(2,.ipt (Basin.cl a0) 0),(5,Ai p.1)],[]⟩) (fun y=>j y=some r) (fun(y:Unit)=>⟨[],[]⟩) (E0 z) ?_ ?_ ?_
 ·rintro⟨⟩ h
  subst hj
  refine Tp z (Te ?_)
  exact Ri h z
 ·rintro v5 ⟨⟩ hi h
  refine Ts (Tr (Qe 3 z (Q1 z z z (Ax.ln (cl:=Cell.cl) z slc_22 z) (Qd z (Tc (b:=(decide (v5 < (a0.Cells.length:Int)))) z (fun hb=>?_) (fun hb=>?_))))))
  ·exact(lt_f hi hb).elim
  exact Tri.exit (Xi () (An h (E0 z)))
 rintro nx x v5 ⟨⟩ _ hi hw hx h
 refine Ts (Tr (Qe 3 z (Q1 z z z (Ax.ln (cl:=Cell.cl) z slc_22 z) (Qd z (Tc (b:=(decide (v5 < (a0.Cells.length:Int)))) z (fun hb_1=>?_) (fun hb_1=>?_))))))
 ·refine Tk (Ts (Tri.block (Tr (Qe 3 z (Q1 z z z (Ax.ix (cl:=Cell.cl) z slc_22 z z hx) (Qd z (Tc (b:=(x.No==a1)) z (fun hb_2=>?_) (fun hb_2=>?_))))))))
  ·have h:=cq hb_2 h
   refine Tp z (Te ?_)
   exact Ri h z
  have h:=cw hb_2 h
  exact Tk (Tq z (Xi (v5+1,()) (An (An z h) (Es0 [5] z ⟨.imm (Sub.of_eq (show Ai (v5+1)=Ai (W (v5+1)) from congrArg Ai hw.symm)) z,u0⟩))))
 exact(lt_t hi hb_1).elim
theorem f117_ok {K:Nat} {a0:Scene} {a1:Int} {r:Int} (h:f117 K a0 a1=some r):CallOK Tryz.prog 117 [.agg (Scene.cl a0),Ai a1] [] (Ai r) []:=by
 refine Co Tryz.func117 z z (nl z) ?_
 unfold f117 at h
 refine Tp z (Ts (Tp z ?_))
 obtain⟨j,hj,h⟩:=jo h
 refine Tri.rngL h (fun p=>⟨[(1,Ai a1),(2,.ipt (Scene.cl a0) 0),(5,Ai p.1)],[]⟩) (fun y=>j y=some r) (fun(y:Unit)=>⟨[],[]⟩) (E0 z) ?_ ?_ ?_
 ·rintro⟨⟩ h
  subst hj
  refine Tp z (Te ?_)
  exact Ri h z
 ·rintro v5 ⟨⟩ hi h
  refine Ts (Tr (Qe 3 z (Q1 z z z (Ax.ln (cl:=icl) z slc_26 z) (Qd z (Tc (b:=(decide (v5 < (a0.Days.length:Int)))) z (fun hb=>?_) (fun hb=>?_))))))
  ·exact(lt_f hi hb).elim
  exact Tri.exit (Xi () (An h (E0 z)))
 rintro nx x v5 ⟨⟩ _ hi hw hx h
 refine Ts (Tr (Qe 3 z (Q1 z z z (Ax.ln (cl:=icl) z slc_26 z) (Qd z (Tc (b:=(decide (v5 < (a0.Days.length:Int)))) z (fun hb_1=>?_) (fun hb_1=>?_))))))
 ·refine Tk (Ts (Tri.block (Tr (Qe 3 z (Q1 z z z (Ax.ix (cl:=icl) z slc_26 z z hx) (Qd z (Tc (b:=(x==a1)) z (fun hb_2=>?_) (fun hb_2=>?_))))))))
  ·have h:=cq hb_2 h
   refine Tp z (Te ?_)
   exact Ri h z
  have h:=cw hb_2 h
  exact Tk (Tq z (Xi (v5+1,()) (An (An z h) (Es0 [5] z ⟨.imm (Sub.of_eq (show Ai (v5+1)=Ai (W (v5+1)) from congrArg Ai hw.symm)) z,u0⟩))))
 exact(lt_t hi hb_1).elim
theorem f181_ok {K:Nat} {a0:Scene} {a1:Sight} {r:Bool} (h:f181 K a0 a1=some r):CallOK Tryz.prog 181 [.agg (Scene.cl a0),.agg (Sight.cl a1)] [] (Ab r) []:=by
 refine Co Tryz.func181 z z (nl z) ?_
 unfold f181 at h
 refine Tp z (Ts ?_)
 obtain⟨v4,hj,h⟩:=bs h
 refine Tri.joinv v4 (fun(y:Bool)=>⟨[(4,Ab y)],[]⟩) ?_ ?_
 ·refine Te ?_
  exact Rb h z
 have h:=hj
 refine Tri.region (Qe 2 z ?_)
 obtain⟨x7,hc,h⟩:=bs h
 refine Qc z z z (args:=[Ai a1.No,Ai 8191]) (r:=Ab x7) (calv z z fnok_182 z) (f182_ok hc) z (Qe 1 z ?_)
 rcases b2 x7 with hb | hb
 ·have h:=cq hb h
  refine Qk 8 hb z (Qe 4 z ?_)
  obtain⟨x13,hc_1,h⟩:=bs h
  refine Qc z z z (args:=[.agg (Basin.cl a0.Basin),Ai a1.Cell]) (r:=Ai x13) (calv z z fnok_116 z) (f116_ok hc_1) z (Qe 3 z ?_)
  rcases b2 (decide (x13≥0)) with hb_1 | hb_1
  ·have h:=cq hb_1 h
   refine Qk 16 hb_1 z (Qe 3 z ?_)
   obtain⟨x20,hc_2,h⟩:=bs h
   refine Qc z z z (args:=[.agg (Scene.cl a0),Ai a1.Day]) (r:=Ai x20) (calv z z fnok_117 z) (f117_ok hc_2) z (Qe 3 z ?_)
   rcases b2 (decide (x20≥0)) with hb_2 | hb_2
   ·have h:=cq hb_2 h
    refine Qk 23 hb_2 z (Qe 5 z ?_)
    rcases b2 (decide (a1.Lo≥0)) with hb_3 | hb_3
    ·have h:=cq hb_3 h
     refine Qk 28 hb_3 z (Qe 7 z ?_)
     rcases b2 (decide (a1.Lo≤a1.Hi)) with hb_4 | hb_4
     ·have h:=cq hb_4 h
      exact Qk 35 hb_4 z (Qd z (Xi (decide (a1.Hi≤65536)) (An h (E0 z))))
     have h:=cw hb_4 h
     exact Qk 35 hb_4 z (Qd z (Xi false (An h (E0 z))))
    have h:=cw hb_3 h
    exact Qk 28 hb_3 z (Qd z (Xi false (An h (E0 z))))
   have h:=cw hb_2 h
   exact Qk 23 hb_2 z (Qd z (Xi false (An h (E0 z))))
  have h:=cw hb_1 h
  exact Qk 16 hb_1 z (Qd z (Xi false (An h (E0 z))))
 have h:=cw hb h
 exact Qk 8 hb z (Qd z (Xi false (An h (E0 z))))
theorem f183_ok {K:Nat} {a0:Scene} {a1:Change} {r:Bool} (h:f183 K a0 a1=some r):CallOK Tryz.prog 183 [.agg (Scene.cl a0),.agg (Change.cl a1)] [] (Ab r) []:=by
 refine Co Tryz.func183 z z (nl z) ?_
 unfold f183 at h
 refine Tp z (Ts ?_)
 obtain⟨v4,hj,h⟩:=bs h
 refine Tri.joinv v4 (fun(y:Bool)=>⟨[(4,Ab y)],[]⟩) ?_ ?_
 ·refine Te ?_
  exact Rb h z
 have h:=hj
 refine Tri.region (Qe 4 z ?_)
 obtain⟨x9,hc,h⟩:=bs h
 refine Qc z z z (args:=[.agg (Basin.cl a0.Basin),Ai a1.Cell]) (r:=Ai x9) (calv z z fnok_116 z) (f116_ok hc) z (Qe 2 z ?_)
 rcases b2 (decide (x9≥0)) with hb | hb
 ·have h:=cq hb h
  refine Qk 11 hb z (Qe 3 z ?_)
  obtain⟨x15,hc_1,h⟩:=bs h
  refine Qc z z z (args:=[.agg (Scene.cl a0),Ai a1.From]) (r:=Ai x15) (calv z z fnok_117 z) (f117_ok hc_1) z (Qe 3 z ?_)
  rcases b2 (decide (x15≥0)) with hb_1 | hb_1
  ·have h:=cq hb_1 h
   refine Qk 18 hb_1 z (Qe 3 z ?_)
   obtain⟨x22,hc_2,h⟩:=bs h
   refine Qc z z z (args:=[.agg (Scene.cl a0),Ai a1.To]) (r:=Ai x22) (calv z z fnok_117 z) (f117_ok hc_2) z (Qe 3 z ?_)
   rcases b2 (decide (x22≥0)) with hb_2 | hb_2
   ·have h:=cq hb_2 h
    refine Qk 25 hb_2 z (Qe 7 z ?_)
    rcases b2 (decide (a1.From < a1.To)) with hb_3 | hb_3
    ·have h:=cq hb_3 h
     refine Qk 32 hb_3 z (Qe 5 z ?_)
     rcases b2 (decide (a1.Lo≥(-65536))) with hb_4 | hb_4
     ·have h:=cq hb_4 h
      refine Qk 37 hb_4 z (Qe 7 z ?_)
      rcases b2 (decide (a1.Lo≤a1.Hi)) with hb_5 | hb_5
      ·have h:=cq hb_5 h
       exact Qk 44 hb_5 z (Qd z (Xi (decide (a1.Hi≤65536)) (An h (E0 z))))
      have h:=cw hb_5 h
      exact Qk 44 hb_5 z (Qd z (Xi false (An h (E0 z))))
     have h:=cw hb_4 h
     exact Qk 37 hb_4 z (Qd z (Xi false (An h (E0 z))))
    have h:=cw hb_3 h
    exact Qk 32 hb_3 z (Qd z (Xi false (An h (E0 z))))
   have h:=cw hb_2 h
   exact Qk 25 hb_2 z (Qd z (Xi false (An h (E0 z))))
  have h:=cw hb_1 h
  exact Qk 18 hb_1 z (Qd z (Xi false (An h (E0 z))))
 have h:=cw hb h
 exact Qk 11 hb z (Qd z (Xi false (An h (E0 z))))
theorem f76_ok {K:Nat} {a0:Scene} {r:Int} (h:f76 K a0=some r):CallOK Tryz.prog 76 [.agg (Scene.cl a0)] [] (Ai r) []:=by
 refine Co Tryz.func76 z z (nl z) ?_
 unfold f76 at h
 refine Tp z (Ts (Tr (Qe 2 z ?_)))
 obtain⟨x8,hc,h⟩:=bs h
 refine Qc z z z (args:=[.agg (Basin.cl a0.Basin)]) (r:=Ai x8) (calv z z fnok_75 z) (f75_ok hc) z (Qd z (Tc (b:=(x8 != 0)) z (fun hb=>?_) (fun hb=>?_)))
 ·have h:=cq hb h
  refine Tp z (Te ?_)
  exact Ri h z
 have h:=cw hb h
 refine Tk (Ts (Ts (Tri.join1 ⟨[(1,.ipt (Scene.cl a0) 0),(19,Ab ((decide ((a0.Days.length:Int) < 1))||(decide ((a0.Days.length:Int) > 16))))],[]⟩ ?_ ?_)))
 ·refine Tc (b:=((decide ((a0.Days.length:Int) < 1))||(decide ((a0.Days.length:Int) > 16)))) z (fun hb_1=>?_) (fun hb_1=>?_)
  ·have h:=cq hb_1 h
   refine Tp z (Te ?_)
   exact Ri h z
  have h:=cw hb_1 h
  refine Tk (Ts (Tp z ?_))
  obtain⟨j,hj,h⟩:=jo h
  refine Tri.rngL h (fun p=>⟨[(1,.ipt (Scene.cl a0) 0),(3,Ai p.1)],[]⟩) (fun y=>j y=some r) (fun(y:Unit)=>⟨[(1,.ipt (Scene.cl a0) 0)],[]⟩) (E0 z) ?_ ?_ ?_
  ·rintro⟨⟩ h
   subst hj
   refine Ts (Ts (Tri.join1 ⟨[(1,.ipt (Scene.cl a0) 0),(61,Ab ((decide ((a0.Sights.length:Int) > 256))||(decide ((a0.Changes.length:Int) > 256))))],[]⟩ ?_ ?_))
   ·refine Tc (b:=((decide ((a0.Sights.length:Int) > 256))||(decide ((a0.Changes.length:Int) > 256)))) z (fun hb_2=>?_) (fun hb_2=>?_)
    ·have h:=cq hb_2 h
     refine Tp z (Te ?_)
     exact Ri h z
    have h:=cw hb_2 h
    refine Tk (Ts (Tp z ?_))
    obtain⟨j_1,hj_1,h⟩:=jo h
    refine Tri.rngL h (fun p=>⟨[(1,.ipt (Scene.cl a0) 0),(4,Ai p.1)],[]⟩) (fun y=>j_1 y=some r) (fun(y:Unit)=>⟨[(1,.ipt (Scene.cl a0) 0)],[]⟩) (E0 z) ?_ ?_ ?_
    ·rintro⟨⟩ h
     subst hj_1
     refine Ts (Tp z ?_)
     obtain⟨j_2,hj_2,h⟩:=jo h
     refine Tri.rngL h (fun p=>⟨[(1,.ipt (Scene.cl a0) 0),(5,Ai p.1)],[]⟩) (fun y=>j_2 y=some r) (fun(y:Unit)=>⟨[],[]⟩) (E0 z) ?_ ?_ ?_
     ·rintro⟨⟩ h
      subst hj_2
      refine Tp z (Te ?_)
      exact Ri h z
     ·rintro v5 ⟨⟩ hi_2 h
      refine Ts (Tr (Qe 3 z (Q1 z z z (Ax.ln (cl:=Change.cl) z slc_28 z) (Qd z (Tc (b:=(decide (v5 < (a0.Changes.length:Int)))) z (fun hb_3=>?_) (fun hb_3=>?_))))))
      ·exact(lt_f hi_2 hb_3).elim
      exact Tri.exit (Xi () (An h (E0 z)))
     rintro nx_2 x_2 v5 ⟨⟩ _ hi_2 hw_2 hx_2 h
     refine Ts (Tr (Qe 3 z (Q1 z z z (Ax.ln (cl:=Change.cl) z slc_28 z) (Qd z (Tc (b:=(decide (v5 < (a0.Changes.length:Int)))) z (fun hb_4=>?_) (fun hb_4=>?_))))))
     ·refine Tk (Ts (Tri.block (Ts (Td [[],[],[1],[],[1,2,3],[1,2,3,4],[0,1,2,3,4,5],[0,1,2,3,4,5,6]] hmix (by kernel_rfl) (Qe 4 z (Q1 z z z (Ax.ix (cl:=Change.cl) z slc_28 z z hx_2) (Qe 1 z ?_)))))))
      obtain⟨x90,hc_1,h⟩:=bs h
      refine Qc z z z (args:=[.agg (Scene.cl a0),.agg (Change.cl x_2)]) (r:=Ab x90) (calv z z fnok_183 z) (f183_ok hc_1) z (Qe 1 z (Rx ⟨by kernel_rfl,freshL_of [] (by kernel_rfl) (by kernel_rfl),?_⟩))
      refine Tc (b:=(!x90)) z (fun hb_5=>?_) (fun hb_5=>?_)
      ·have h:=cq hb_5 h
       refine Tp z (Te ?_)
       exact Ri h z
      have h:=cw hb_5 h
      exact Tk (Tq z (Xi (v5+1,()) (An (An z h) (Es0 [5] z ⟨.imm (Sub.of_eq (show Ai (v5+1)=Ai (W (v5+1)) from congrArg Ai hw_2.symm)) z,u0⟩))))
     exact(lt_t hi_2 hb_4).elim
    ·rintro v4 ⟨⟩ hi_1 h
     refine Ts (Tr (Qe 3 z (Q1 z z z (Ax.ln (cl:=Sight.cl) z slc_27 z) (Qd z (Tc (b:=(decide (v4 < (a0.Sights.length:Int)))) z (fun hb_6=>?_) (fun hb_6=>?_))))))
     ·exact(lt_f hi_1 hb_6).elim
     exact Tri.exit (Xi () (An h (E0 z)))
    rintro nx_1 x_1 v4 ⟨⟩ _ hi_1 hw_1 hx_1 h
    refine Ts (Tr (Qe 3 z (Q1 z z z (Ax.ln (cl:=Sight.cl) z slc_27 z) (Qd z (Tc (b:=(decide (v4 < (a0.Sights.length:Int)))) z (fun hb_7=>?_) (fun hb_7=>?_))))))
    ·refine Tk (Ts (Tri.block (Ts (Td [[],[],[1],[],[1,2,3],[1,2,3,4],[0,1,2,3,4,5],[0,1,2,3,4,5,6]] hmix (by kernel_rfl) (Qe 4 z (Q1 z z z (Ax.ix (cl:=Sight.cl) z slc_27 z z hx_1) (Qe 1 z ?_)))))))
     obtain⟨x75,hc_2,h⟩:=bs h
     refine Qc z z z (args:=[.agg (Scene.cl a0),.agg (Sight.cl x_1)]) (r:=Ab x75) (calv z z fnok_181 z) (f181_ok hc_2) z (Qe 1 z (Rx ⟨by kernel_rfl,freshL_of [] (by kernel_rfl) (by kernel_rfl),?_⟩))
     refine Tc (b:=(!x75)) z (fun hb_8=>?_) (fun hb_8=>?_)
     ·have h:=cq hb_8 h
      refine Tp z (Te ?_)
      exact Ri h z
     have h:=cw hb_8 h
     exact Tk (Tq z (Xi (v4+1,()) (An (An z h) (Es0 [4] z ⟨.imm (Sub.of_eq (show Ai (v4+1)=Ai (W (v4+1)) from congrArg Ai hw_1.symm)) z,u0⟩))))
    exact(lt_t hi_1 hb_7).elim
   refine Tri.region (Qe 2 z (Q1 z z z (Ax.ln (cl:=Sight.cl) z slc_27 z) (Qe 2 z ?_)))
   rcases b2 (decide ((a0.Sights.length:Int) > 256)) with hb_9 | hb_9
   ·exact Qk 56 hb_9 z (Qd z ((Es0 [61] z ⟨.imm (Sub.of_eq (show Ab ((decide ((a0.Sights.length:Int) > 256))||(decide ((a0.Changes.length:Int) > 256)))=Ab true by simp only [cond_true,cond_false,Bool.true_or,Bool.false_or,Bool.true_and,Bool.false_and,Bool.or_true,Bool.or_false,Bool.and_true,Bool.and_false,hb,hb_1,hb_9])) z,u0⟩)))
   exact Qk 56 hb_9 z (Qe 2 z (Q1 z z z (Ax.ln (cl:=Change.cl) z slc_28 z) (Qd z ((Es0 [61] z ⟨.imm (Sub.of_eq (show Ab ((decide ((a0.Sights.length:Int) > 256))||(decide ((a0.Changes.length:Int) > 256)))=Ab (decide ((a0.Changes.length:Int) > 256)) by simp only [cond_true,cond_false,Bool.true_or,Bool.false_or,Bool.true_and,Bool.false_and,Bool.or_true,Bool.or_false,Bool.and_true,Bool.and_false,hb,hb_1,hb_9])) z,u0⟩)))))
  ·rintro v3 ⟨⟩ hi h
   refine Ts (Tr (Qe 3 z (Q1 z z z (Ax.ln (cl:=icl) z slc_26 z) (Qd z (Tc (b:=(decide (v3 < (a0.Days.length:Int)))) z (fun hb_10=>?_) (fun hb_10=>?_))))))
   ·exact(lt_f hi hb_10).elim
   exact Tri.exit (Xi () (An h (E0 z)))
  rintro nx x v3 ⟨⟩ _ hi hw hx h
  refine Ts (Tr (Qe 3 z (Q1 z z z (Ax.ln (cl:=icl) z slc_26 z) (Qd z (Tc (b:=(decide (v3 < (a0.Days.length:Int)))) z (fun hb_11=>?_) (fun hb_11=>?_))))))
  ·refine Tk (Ts (Tri.block (Ts ?_)))
   obtain⟨v51,hj_3,h⟩:=bs h
   refine Tri.joinv v51 (fun(y:Bool)=>⟨[(1,.ipt (Scene.cl a0) 0),(3,Ai v3),(51,Ab y)],[]⟩) ?_ ?_
   ·refine Tc (b:=v51) z (fun hb_12=>?_) (fun hb_12=>?_)
    ·have h:=cq hb_12 h
     refine Tp z (Te ?_)
     exact Ri h z
    have h:=cw hb_12 h
    exact Tk (Tq z (Xi (v3+1,()) (An (An z h) (Es0 [3] z ⟨.imm (Sub.of_eq (show Ai (v3+1)=Ai (W (v3+1)) from congrArg Ai hw.symm)) z,u0⟩))))
   have h:=hj_3
   refine Td [[],[0],[],[0,1,2],[0,1,2,3],[0,1,2,3,4],[0,1,2,3,4,5],[0,1,2,3,4,5,6],[0,1,2,3,4,5,6,7],[0,1,2,3,4,5,6,7,8],[0,1,2,3,4,5,6,7,8,9],[0,1,2,3,4,5,6,7,8,9,10],[0,1,2,3,4,5,6,7,8,9,10,11],[0,1,2,3,4,5,6,7,8,9,10],[0,1,2,3,4,5,6,7,8,9,10,13],[0,1,2,3,4,5,6,7,8,9,10,11,12,13,14],[0,1,2,3,4,5,6,7,8,9,10,11,12,13,14,15],[0,1,2,3,4,5,6,7,8,9,10],[0,1,2,3,4,5,6,7,8,9,10,17],[0,1,2,3,4,5,6,7,8,9,10],[0,1,2,3,4,5,6,7,8,9,10,17,18,19],[0,1,2,3,4,5,6,7,8,9,10,17,18,19,20],[0,1,2,3,4,5,6,7,8,9,10,11,12,13,14,15,16,17,18,19,20,21],[0,1,2,3,4,5,6,7,8,9,10,11,12,13,14,15,16,17,18,19,20,21,22],[0,1,2,3,4,5,6,7,8,9,10,11,12,13,14,15,16,17,18,19,20,21,22,23]] hmix (by kernel_rfl) (Qe 3 z (Q1 z z z (Ax.ix (cl:=icl) z slc_26 z z hx) (Qe 1 z ?_)))
   obtain⟨x32,hc_3,h⟩:=bs h
   refine Qc z z z (args:=[Ai x,Ai 1048576]) (r:=Ab x32) (calv z z fnok_182 z) (f182_ok hc_3) z (Qe 2 z ?_)
   rcases b2 (!x32) with hb_13 | hb_13
   ·have h:=cq hb_13 h
    refine Qk 34 hb_13 z (Qe 17 z (Rx ⟨by kernel_rfl,freshL_of [] (by kernel_rfl) (by kernel_rfl),?_⟩))
    exact Xi true (An h (E0 z))
   have h:=cw hb_13 h
   refine Qk 34 hb_13 z (Qe 3 z ?_)
   rcases b2 (decide (v3 > 0)) with hb_14 | hb_14
   ·have h:=cq hb_14 h
    refine Qk 37 hb_14 z (Qe 4 z ?_)
    obtain⟨y,hy,h⟩:=bs h
    refine Q1 z z z (Ax.ix (cl:=icl) z slc_26 z z hy) (Qe 4 z (Q1 z z z (Ax.ix (cl:=icl) z slc_26 z z hx) (Qe 4 z (Rx ⟨by kernel_rfl,freshL_of [] (by kernel_rfl) (by kernel_rfl),?_⟩))))
    exact Xi (decide (y≥x)) (An h (E0 z))
   have h:=cw hb_14 h
   refine Qk 37 hb_14 z (Qe 14 z (Rx ⟨by kernel_rfl,freshL_of [] (by kernel_rfl) (by kernel_rfl),?_⟩))
   exact Xi false (An h (E0 z))
  exact(lt_t hi hb_11).elim
 refine Tri.region (Qe 2 z (Q1 z z z (Ax.ln (cl:=icl) z slc_26 z) (Qe 2 z ?_)))
 rcases b2 (decide ((a0.Days.length:Int) < 1)) with hb_15 | hb_15
 ·exact Qk 14 hb_15 z (Qd z ((Es0 [19] z ⟨.imm (Sub.of_eq (show Ab ((decide ((a0.Days.length:Int) < 1))||(decide ((a0.Days.length:Int) > 16)))=Ab true by simp only [cond_true,cond_false,Bool.true_or,Bool.false_or,Bool.true_and,Bool.false_and,Bool.or_true,Bool.or_false,Bool.and_true,Bool.and_false,hb,hb_15])) z,u0⟩)))
 exact Qk 14 hb_15 z (Qe 2 z (Q1 z z z (Ax.ln (cl:=icl) z slc_26 z) (Qd z ((Es0 [19] z ⟨.imm (Sub.of_eq (show Ab ((decide ((a0.Days.length:Int) < 1))||(decide ((a0.Days.length:Int) > 16)))=Ab (decide ((a0.Days.length:Int) > 16)) by simp only [cond_true,cond_false,Bool.true_or,Bool.false_or,Bool.true_and,Bool.false_and,Bool.or_true,Bool.or_false,Bool.and_true,Bool.and_false,hb,hb_15])) z,u0⟩)))))
theorem f106_ok {K:Nat} {a0:Scene} {r:Bool} (h:f106 K a0=some r):CallOK Tryz.prog 106 [.agg (Scene.cl a0)] [] (Ab r) []:=by
 refine Co Tryz.func106 z z (nl z) ?_
 unfold f106 at h
 refine Tp z (Ts (Tri.join1 ⟨[(2,Ab ((decide ((W ((a0.Basin.Cells.length:Int)*(a0.Days.length:Int)))≤15))&&((decide ((a0.Basin.Pairs.length:Int)≤8))&&((decide ((a0.Sights.length:Int)≤10))&&(decide ((a0.Changes.length:Int)≤10))))))],[]⟩ ?_ ?_))
 ·refine Te ?_
  exact Rb h z
 refine Tri.region (Qe 3 z (Q1 z z z (Ax.ln (cl:=Cell.cl) z slc_22 z) (Qe 2 z (Q1 z z z (Ax.ln (cl:=icl) z slc_26 z) (Qe 3 z ?_)))))
 rcases b2 (decide ((W ((a0.Basin.Cells.length:Int)*(a0.Days.length:Int)))≤15)) with hb | hb
 ·refine Qk 12 hb z (Qe 3 z (Q1 z z z (Ax.ln (cl:=Arr2_3.cl) z slc_23 z) (Qe 3 z ?_)))
  rcases b2 (decide ((a0.Basin.Pairs.length:Int)≤8)) with hb_1 | hb_1
  ·refine Qk 19 hb_1 z (Qe 2 z (Q1 z z z (Ax.ln (cl:=Sight.cl) z slc_27 z) (Qe 3 z ?_)))
   rcases b2 (decide ((a0.Sights.length:Int)≤10)) with hb_2 | hb_2
   ·exact Qk 25 hb_2 z (Qe 2 z (Q1 z z z (Ax.ln (cl:=Change.cl) z slc_28 z) (Qd z ((Es0 [2] z ⟨.imm (Sub.of_eq (show Ab ((decide ((W ((a0.Basin.Cells.length:Int)*(a0.Days.length:Int)))≤15))&&((decide ((a0.Basin.Pairs.length:Int)≤8))&&((decide ((a0.Sights.length:Int)≤10))&&(decide ((a0.Changes.length:Int)≤10)))))=Ab (decide ((a0.Changes.length:Int)≤10)) by simp only [cond_true,cond_false,Bool.true_or,Bool.false_or,Bool.true_and,Bool.false_and,Bool.or_true,Bool.or_false,Bool.and_true,Bool.and_false,hb,hb_1,hb_2])) z,u0⟩)))))
   exact Qk 25 hb_2 z (Qd z ((Es0 [2] z ⟨.imm (Sub.of_eq (show Ab ((decide ((W ((a0.Basin.Cells.length:Int)*(a0.Days.length:Int)))≤15))&&((decide ((a0.Basin.Pairs.length:Int)≤8))&&((decide ((a0.Sights.length:Int)≤10))&&(decide ((a0.Changes.length:Int)≤10)))))=Ab false by simp only [cond_true,cond_false,Bool.true_or,Bool.false_or,Bool.true_and,Bool.false_and,Bool.or_true,Bool.or_false,Bool.and_true,Bool.and_false,hb,hb_1,hb_2])) z,u0⟩)))
  exact Qk 19 hb_1 z (Qd z ((Es0 [2] z ⟨.imm (Sub.of_eq (show Ab ((decide ((W ((a0.Basin.Cells.length:Int)*(a0.Days.length:Int)))≤15))&&((decide ((a0.Basin.Pairs.length:Int)≤8))&&((decide ((a0.Sights.length:Int)≤10))&&(decide ((a0.Changes.length:Int)≤10)))))=Ab false by simp only [cond_true,cond_false,Bool.true_or,Bool.false_or,Bool.true_and,Bool.false_and,Bool.or_true,Bool.or_false,Bool.and_true,Bool.and_false,hb,hb_1])) z,u0⟩)))
 exact Qk 12 hb z (Qd z ((Es0 [2] z ⟨.imm (Sub.of_eq (show Ab ((decide ((W ((a0.Basin.Cells.length:Int)*(a0.Days.length:Int)))≤15))&&((decide ((a0.Basin.Pairs.length:Int)≤8))&&((decide ((a0.Sights.length:Int)≤10))&&(decide ((a0.Changes.length:Int)≤10)))))=Ab false by simp only [cond_true,cond_false,Bool.true_or,Bool.false_or,Bool.true_and,Bool.false_and,Bool.or_true,Bool.or_false,Bool.and_true,Bool.and_false,hb])) z,u0⟩)))
theorem f28_ok {K:Nat} {a0:Scene} {r:Bool} (h:f28 K a0=some r):CallOK Tryz.prog 28 [.agg (Scene.cl a0)] [] (Ab r) []:=by
 refine Co Tryz.func28 z z (nl z) ?_
 unfold f28 at h
 refine Tp z (Ts ?_)
 obtain⟨v2,hj,h⟩:=bs h
 refine Tri.joinv v2 (fun(y:Bool)=>⟨[(2,Ab y)],[]⟩) ?_ ?_
 ·refine Te ?_
  exact Rb h z
 have h:=hj
 refine Tri.region (Qe 1 z ?_)
 obtain⟨x4,hc,h⟩:=bs h
 refine Qc z z z (args:=[.agg (Scene.cl a0)]) (r:=Ab x4) (calv z z fnok_106 z) (f106_ok hc) z (Qe 2 z ?_)
 rcases b2 (!x4) with hb | hb
 ·have h:=cq hb h
  refine Qk 6 hb z (Qe 1 z ?_)
  obtain⟨x8,hc_1,h⟩:=bs h
  exact Qc z z z (args:=[.agg (Scene.cl a0)]) (r:=Ai x8) (calv z z fnok_76 z) (f76_ok hc_1) z (Qd z (Xi (x8==0) (An h (E0 z))))
 have h:=cw hb h
 exact Qk 6 hb z (Qd z (Xi false (An h (E0 z))))
theorem f195_ok {K:Nat} {a0:Int→Option Bool} {g0:Nat} {caps0:List AV} {a1:Scene} {a2:List Spot_basin} {a3:List Span} {r:Bool} (hg0:FnOK Tryz.prog g0) (ho0:(AV.fn g0 caps0).only []=true) (hp0:∀ x0 r,a0 x0=some r→CallOK Tryz.prog g0 ([Ai x0]++caps0) [] (Ab r) []) (h:f195 K a0 a1 a2 a3=some r):CallOK Tryz.prog 195 [.fn g0 caps0,.ipt (Scene.cl a1) 0,.ipt (cl180 a2) 0,.ipt (cl183 a3) 0] [] (Ab r) []:=by
 refine Co Tryz.func195 z z (nl z) ?_
 unfold f195 at h
 refine Tp z (Ts (Td [[],[],[0,1],[],[0,1,2,3],[0,1,2,3,4],[0,1,2,3,4,5],[0,1,2,3,4,5],[0,1,2,3,4,5,6],[0,1,2,3,4,5,6,7,8]] hmix (by kernel_rfl) (Qe 2 z ?_)))
 obtain⟨x11,hc,h⟩:=bs h
 refine Qc z z z (args:=[.agg (Scene.cl a1),.fn g0 caps0]) (r:=.agg (Scene.cl x11)) (calv z z fnok_138 z) (f138_ok hg0 ho0 hp0 hc) z (Qe 1 z ?_)
 obtain⟨⟨x13_0,x13_1⟩,hc_1,h⟩:=bs h
 refine Qc z z z (args:=[.agg (Scene.cl x11),.lst 2 (a2.map Spot_basin.cl)]) (r:=.tup [.lst 2 (x13_0.map Span.cl),Ai x13_1]) (calv z z fnok_114 z) (f114_ok hc_1) z (Qe 5 z (Rx ⟨by kernel_rfl,freshL_of [] (by kernel_rfl) (by kernel_rfl),?_⟩))
 refine Ts ?_
 obtain⟨v5,hj,h⟩:=bs h
 refine Tri.joinv v5 (fun(y:Bool)=>⟨[(5,Ab y)],[]⟩) ?_ ?_
 ·refine Te ?_
  exact Rb h z
 have h:=hj
 refine Tri.region (Qe 3 z ?_)
 rcases b2 (x13_1==0) with hb | hb
 ·have h:=cq hb h
  refine Qk 18 hb z (Qe 2 z ?_)
  obtain⟨x21,hc_2,h⟩:=bs h
  exact Qc z z z (args:=[.lst 2 (x13_0.map Span.cl),.lst 2 (a3.map Span.cl)]) (r:=Ab x21) (calv z z fnok_191 z) (f191_ok hc_2) z (Qd z (Xi x21 (An h (E0 z))))
 have h:=cw hb h
 exact Qk 18 hb z (Qd z (Xi false (An h (E0 z))))
theorem f196_ok {K:Nat} {a0:Int} {a1:List Int} {r:Bool} (h:f196 K a0 a1=some r):CallOK Tryz.prog 196 [Ai a0,.ipt (cl26 a1) 0] [] (Ab r) []:=by
 refine Co Tryz.func196 z z (nl z) ?_
 unfold f196 at h
 refine Tp z (Tr (Qe 2 z ?_))
 obtain⟨x6,hc,h⟩:=bs h
 refine Qc z z z (args:=[.lst 1 (a1.map icl),Ai a0]) (r:=Ab x6) (calv z z fnok_83 z) (f83_ok hc) z (Qd z (Te ?_))
 exact Rb h z
theorem f86_ok {K:Nat} {a0:Scene} {a1:List Int} {a2:Int} {a3:List Int} {r:Int} (h:f86 K a0 a1 a2 a3=some r):CallOK Tryz.prog 86 [.agg (Scene.cl a0),.lst 1 (a1.map icl),Ai a2,.lst 1 (a3.map icl)] [] (Ai r) []:=by
 refine Co Tryz.func86 z z (nl z) ?_
 unfold f86 at h
 refine Tp z (Tr (Qe 3 z ?_))
 obtain⟨⟨x19_0,x19_1⟩,hc,h⟩:=bs h
 refine Qc z z z (args:=[.agg (Scene.cl a0),.lst 1 (a1.map icl),Ai a2]) (r:=.tup [.lst 2 (x19_0.map Spot_basin.cl),Ai x19_1]) (calv z z fnok_113 z) (f113_ok hc) z (Qe 3 z (Qn z z z (v:=.ptr 9 0) (x:=some (.box (cl180 ([]:List Spot_basin)))) (Al_ z z zer_180 z ⟨Sub.nil _,u0⟩) z z z z z (Qs z z (x:=some (.box (cl180 x19_0))) (As z siz_180 z z z z z z z) (Qd z (Ts (Tp z (Tc (b:=(x19_1 != 0)) z (fun hb=>?_) (fun hb=>?_))))))))
 ·have h:=cq hb h
  refine Tp z (Te ?_)
  exact Ri h z
 have h:=cw hb h
 refine Tk (Ts (Tr (Qe 1 z ?_)))
 obtain⟨x26,hc_1,h⟩:=bs h
 refine Qc z z z (args:=[.lst 1 (a3.map icl)]) (r:=Ab x26) (calv z z fnok_174 z) (f174_ok hc_1) z (Qd z (Tc (b:=(!x26)) z (fun hb_1=>?_) (fun hb_1=>?_)))
 ·have h:=cq hb_1 h
  refine Tp z (Te ?_)
  exact Ri h z
 have h:=cw hb_1 h
 refine Tk (Tr (Qe 2 z ?_))
 obtain⟨⟨x31_0,x31_1⟩,hc_2,h⟩:=bs h
 refine Qc z z z (args:=[.agg (Scene.cl a0),.lst 2 (x19_0.map Spot_basin.cl)]) (r:=.tup [.lst 2 (x31_0.map Span.cl),Ai x31_1]) (calv z z fnok_114 z) (f114_ok hc_2) z (Qe 3 z (Qn z z z (v:=.ptr 11 0) (x:=some (.box (cl183 ([]:List Span)))) (Al_ z z zer_183 z ⟨Sub.nil _,u0⟩) z z z z z (Qs z z (x:=some (.box (cl183 x31_0))) (As z siz_183 z z z z z z z) (Qd z (Ts (Tp z (Tc (b:=(x31_1 != 0)) z (fun hb_2=>?_) (fun hb_2=>?_))))))))
 ·have h:=cq hb_2 h
  refine Tp z (Te ?_)
  exact Ri h z
 have h:=cw hb_2 h
 refine Tk (Tr (Q1 z z z (v:=.fn 195 [.ipt (Scene.cl a0) 0,.ptr 9 0,.ptr 11 0]) (Ax.func z z) (Qd z (Ts (Tr (Qe 1 z (Q1 z z z (v:=.fn 196 [.ipt (cl26 a3) 0]) (Ax.func z z) ?_)))))))
 obtain⟨x40,hc_3,h⟩:=bs h
 refine Ql [9,11] z z z (args:=[.fn 196 [.ipt (cl26 a3) 0],.ipt (Scene.cl a0) 0,.ptr 9 0,.ptr 11 0]) (args':=[.fn 196 [.ipt (cl26 a3) 0],.ipt (Scene.cl a0) 0,.ipt (cl180 x19_0) 0,.ipt (cl183 x31_0) 0]) (r:=Ab x40) (calv z z fnok_195 z) ⟨.fnV ⟨.imm z,u0⟩,.imm z,.ptrV mh z ⟨.imm z,u0⟩,.ptrV (mt mh) z ⟨.imm z,u0⟩,u0⟩ (f195_ok fnok_196 z (fun _ _ hr=>f196_ok hr) hc_3) z z (Qd z (Tc (b:=(!x40)) z (fun hb_3=>?_) (fun hb_3=>?_)))
 ·have h:=cq hb_3 h
  refine Tp z (Te ?_)
  exact Ri h z
 have h:=cw hb_3 h
 refine Tk (Ts (Tr (Qe 1 z (Q1 z z z (Ax.ln (cl:=icl) z slc_26 z) (Qd z ?_)))))
 obtain⟨j,hj,h⟩:=jo h
 refine Tri.rngL h (fun p=>⟨[(7,.ipt (cl26 a3) 0),(12,.fn 195 [.ipt (Scene.cl a0) 0,.ptr 9 0,.ptr 11 0]),(42,.lst 1 (a3.map icl)),(43,Ai (a3.length:Int)),(44,Ai p.1)],[(9,some (.box (cl180 x19_0))),(11,some (.box (cl183 x31_0)))]⟩) (fun y=>j y=some r) (fun(y:Unit)=>⟨[],[]⟩) (Ee [9,11] z u0) ?_ ?_ ?_
 ·rintro⟨⟩ h
  subst hj
  refine Tp z (Te ?_)
  exact Ri h z
 ·rintro v44 ⟨⟩ hi h
  refine Tp z (Ts (Tc (b:=(decide (v44 < (a3.length:Int)))) z (fun hb_4=>?_) (fun hb_4=>?_)))
  ·exact(lt_f hi hb_4).elim
  exact Tri.exit (Xi () (An h (E0 z)))
 rintro nx x v44 ⟨⟩ _ hi hw hx h
 refine Tp z (Ts (Tc (b:=(decide (v44 < (a3.length:Int)))) z (fun hb_5=>?_) (fun hb_5=>?_)))
 ·refine Tk (Ts (Tri.block (Tr (Q1 z z z (Ax.ix (cl:=icl) z slc_26 z z hx) (Qd z (Tr (Qe 3 z ?_)))))))
  obtain⟨x51,hc_4,h⟩:=bs h
  refine Qc z z z (args:=[.lst 1 (a3.map icl),Ai x]) (r:=.fn 255 [.ipt (icl x51.1) 0,.ipt (cl26 x51.2) 0]) (calv z z fnok_139 z) (f139_ok hc_4) z ?_
  obtain⟨x52,hc_5,h⟩:=bs h
  refine Ql [9,11] z z z (args:=[.fn 255 [.ipt (icl x51.1) 0,.ipt (cl26 x51.2) 0],.ipt (Scene.cl a0) 0,.ptr 9 0,.ptr 11 0]) (args':=[.fn 255 [.ipt (icl x51.1) 0,.ipt (cl26 x51.2) 0],.ipt (Scene.cl a0) 0,.ipt (cl180 x19_0) 0,.ipt (cl183 x31_0) 0]) (r:=Ab x52) (calv z z fnok_195 z) ⟨.fnV ⟨.imm z,.imm z,u0⟩,.imm z,.ptrV mh z ⟨.imm z,u0⟩,.ptrV (mt mh) z ⟨.imm z,u0⟩,u0⟩ (f195_ok fnok_255 z (fun _ _ hr=>f255_ok hr) hc_5) z z (Rx (Tc (b:=x52) z (fun hb_6=>?_) (fun hb_6=>?_)))
  ·have h:=cq hb_6 h
   refine Tp z (Te ?_)
   exact Ri h z
  have h:=cw hb_6 h
  exact Tk (Tq z (Xi (v44+1,()) (An (An z h) (Es [9,11] [44] z u0 ⟨.imm (Sub.of_eq (show Ai (v44+1)=Ai (W (v44+1)) from congrArg Ai hw.symm)) z,u0⟩))))
 exact(lt_t hi hb_5).elim
theorem f179_ok {K:Nat} {a0:Cell} {a1:Cell} {r:Bool} (h:f179 K a0 a1=some r):CallOK Tryz.prog 179 [.agg (Cell.cl a0),.agg (Cell.cl a1)] [] (Ab r) []:=by
 refine Co Tryz.func179 z z (nl z) ?_
 unfold f179 at h
 refine Tp z (Tr (Qe 10 z (Q1 z z z (v:=Ai (if (W (a1.Aspect - a0.Aspect)) > (W (a0.Aspect - a1.Aspect)) then (W (a1.Aspect - a0.Aspect)) else (W (a0.Aspect - a1.Aspect)))) (Ax.max z z z) (Qd z (Ts (Tri.join1 ⟨[(4,Ab (((if (W (a1.Aspect - a0.Aspect)) > (W (a0.Aspect - a1.Aspect)) then (W (a1.Aspect - a0.Aspect)) else (W (a0.Aspect - a1.Aspect)))==0)||(((if (W (a1.Aspect - a0.Aspect)) > (W (a0.Aspect - a1.Aspect)) then (W (a1.Aspect - a0.Aspect)) else (W (a0.Aspect - a1.Aspect)))==1)||((if (W (a1.Aspect - a0.Aspect)) > (W (a0.Aspect - a1.Aspect)) then (W (a1.Aspect - a0.Aspect)) else (W (a0.Aspect - a1.Aspect)))==7))))],[]⟩ ?_ ?_))))))
 ·refine Te ?_
  exact Rb h z
 refine Tri.region (Qe 3 z ?_)
 rcases b2 ((if (W (a1.Aspect - a0.Aspect)) > (W (a0.Aspect - a1.Aspect)) then (W (a1.Aspect - a0.Aspect)) else (W (a0.Aspect - a1.Aspect)))==0) with hb | hb
 ·exact Qk 19 hb z (Qd z ((Es0 [4] z ⟨.imm (Sub.of_eq (show Ab (((if (W (a1.Aspect - a0.Aspect)) > (W (a0.Aspect - a1.Aspect)) then (W (a1.Aspect - a0.Aspect)) else (W (a0.Aspect - a1.Aspect)))==0)||(((if (W (a1.Aspect - a0.Aspect)) > (W (a0.Aspect - a1.Aspect)) then (W (a1.Aspect - a0.Aspect)) else (W (a0.Aspect - a1.Aspect)))==1)||((if (W (a1.Aspect - a0.Aspect)) > (W (a0.Aspect - a1.Aspect)) then (W (a1.Aspect - a0.Aspect)) else (W (a0.Aspect - a1.Aspect)))==7)))=Ab true by simp only [cond_true,cond_false,Bool.true_or,Bool.false_or,Bool.true_and,Bool.false_and,Bool.or_true,Bool.or_false,Bool.and_true,Bool.and_false,hb])) z,u0⟩)))
 refine Qk 19 hb z (Qe 4 z ?_)
 rcases b2 ((if (W (a1.Aspect - a0.Aspect)) > (W (a0.Aspect - a1.Aspect)) then (W (a1.Aspect - a0.Aspect)) else (W (a0.Aspect - a1.Aspect)))==1) with hb_1 | hb_1
 ·exact Qk 23 hb_1 z (Qd z ((Es0 [4] z ⟨.imm (Sub.of_eq (show Ab (((if (W (a1.Aspect - a0.Aspect)) > (W (a0.Aspect - a1.Aspect)) then (W (a1.Aspect - a0.Aspect)) else (W (a0.Aspect - a1.Aspect)))==0)||(((if (W (a1.Aspect - a0.Aspect)) > (W (a0.Aspect - a1.Aspect)) then (W (a1.Aspect - a0.Aspect)) else (W (a0.Aspect - a1.Aspect)))==1)||((if (W (a1.Aspect - a0.Aspect)) > (W (a0.Aspect - a1.Aspect)) then (W (a1.Aspect - a0.Aspect)) else (W (a0.Aspect - a1.Aspect)))==7)))=Ab true by simp only [cond_true,cond_false,Bool.true_or,Bool.false_or,Bool.true_and,Bool.false_and,Bool.or_true,Bool.or_false,Bool.and_true,Bool.and_false,hb,hb_1])) z,u0⟩)))
 exact Qk 23 hb_1 z (Qd z ((Es0 [4] z ⟨.imm (Sub.of_eq (show Ab (((if (W (a1.Aspect - a0.Aspect)) > (W (a0.Aspect - a1.Aspect)) then (W (a1.Aspect - a0.Aspect)) else (W (a0.Aspect - a1.Aspect)))==0)||(((if (W (a1.Aspect - a0.Aspect)) > (W (a0.Aspect - a1.Aspect)) then (W (a1.Aspect - a0.Aspect)) else (W (a0.Aspect - a1.Aspect)))==1)||((if (W (a1.Aspect - a0.Aspect)) > (W (a0.Aspect - a1.Aspect)) then (W (a1.Aspect - a0.Aspect)) else (W (a0.Aspect - a1.Aspect)))==7)))=Ab ((if (W (a1.Aspect - a0.Aspect)) > (W (a0.Aspect - a1.Aspect)) then (W (a1.Aspect - a0.Aspect)) else (W (a0.Aspect - a1.Aspect)))==7) by simp only [cond_true,cond_false,Bool.true_or,Bool.false_or,Bool.true_and,Bool.false_and,Bool.or_true,Bool.or_false,Bool.and_true,Bool.and_false,hb,hb_1])) z,u0⟩)))
theorem f180_ok {K:Nat} {a0:Basin} {a1:Arr2_3} {r:Int} (h:f180 K a0 a1=some r):CallOK Tryz.prog 180 [.agg (Basin.cl a0),.agg (Arr2_3.cl a1)] [] (Ai r) []:=by
 refine Co Tryz.func180 z z (nl z) ?_
 unfold f180 at h
 refine Tp z (Ts (Td [] hmix (by kernel_rfl) (Qe 6 z (Q1 z z z (v:=.ipt (Arr2_3.cl a1) 1) (Ax.index_ipt (k:=.i64) (n:=1) z arr_97 z z (by decide) (by decide)) (Qe 1 z ?_)))))
 obtain⟨y,hy,h⟩:=bs h
 refine Q1 z z z (Ax.ix (cl:=Cell.cl) z slc_22 z z hy) (Qe 4 z (Q1 z z z (v:=.ipt (Arr2_3.cl a1) 0) (Ax.index_ipt (k:=.i64) (n:=0) z arr_97 z z (by decide) (by decide)) (Qe 1 z ?_)))
 obtain⟨y_1,hy_1,h⟩:=bs h
 refine Q1 z z z (Ax.ix (cl:=Cell.cl) z slc_22 z z hy_1) (Qe 4 z (Q1 z z z (v:=Ai (W (Int.tdiv (W (a0.Gain*(W (y.Height - y_1.Height)))) 100))) (Ax.div z z z (.inl z) (by decide)) (Qe 2 z (Rx ⟨by kernel_rfl,freshL_of [] (by kernel_rfl) (by kernel_rfl),?_⟩))))
 refine Te ?_
 exact Ri h z
theorem f205_ok {K:Nat} {a0:Scene} {a1:Int} {a2:Int} {r:Int} (h:f205 K a0 a1 a2=some r):CallOK Tryz.prog 205 [.agg (Scene.cl a0),Ai a1,Ai a2] [] (Ai r) []:=by
 refine Co Tryz.func205 z z (nl z) ?_
 unfold f205 at h
 refine Tp z (Tr (Qe 4 z (Q1 z z z (Ax.ln (cl:=Cell.cl) z slc_22 z) (Qd z (Te ?_)))))
 exact Ri h z
theorem f222_ok {K:Nat} {a0:Laid_snowlineref05} {a1:Int} {a2:Int} {a3:Int} {a4:Reason} {r:Laid_snowlineref05} (h:f222 K a0 a1 a2 a3 a4=some r):CallOK Tryz.prog 222 [.agg [.hnd 22930001,.hnd 22930002],Ai a1,Ai a2,Ai a3,.agg (Reason.cl a4)] [(22930001,.arr 174 3 (a0.l.map Diff.cl)),(22930002,.arr 42 4 (a0.r.map Reason.cl))] (.agg (Laid_snowlineref05.cl r)) []:=by
 refine Co Tryz.func222 z z (nl z) ?_
 unfold f222 at h
 refine Tr (Qn z z z (v:=.ptr 5 0) (x:=some (.box [.hnd 22930001,.hnd 22930002])) (Ax.box_ptr z z z z) z z z z z (Qe 1 z (Qn z z z (v:=.ptr 10 0) (x:=some (.box [.sc (.slice none 0 0),.sc (.slice none 0 0)])) (Al_ z z zer_293 z ⟨Sub.refl _,Sub.refl _,u0⟩) z z z z z (Rx (Tn (Eg 10 0 900001000 174 3 (cells':=[.hnd 900001000,.sc (.slice none 0 0)]) z z z z) (Tn (Eg 10 1 901001001 42 4 (cells':=[.hnd 900001000,.hnd 901001001]) z z z z) (Ts (Td [[],[0],[],[],[],[2,3,4],[2,3,4,5],[0,1,2,3,4,5,6],[],[8],[],[10],[0,1,2,3,4,5,6,7,8,9,10,11],[0,1,2,3,4,5,6,7,8,9,10,11,12],[0,1,2,3,4,5,6,7,8,9,10,11,12,13]] hmix (by kernel_rfl) (Qe 5 z (Q1 z z z (v:=.agg (Diff.cl (⟨a1,a2,a3⟩:Diff))) (Ab_ z zer_174 (bld plc_174 zer_174) z ⟨Sub.refl _,Sub.refl _,Sub.refl _,u0⟩) (Q1 z z z (v:=.lst 3 (([(⟨a1,a2,a3⟩:Diff)]:List Diff).map Diff.cl)) (Ax.sl (xs:=([(⟨a1,a2,a3⟩:Diff)]:List Diff)) z slc_32 z z ⟨Sub.refl _,Sub.refl _,Sub.refl _,u0⟩ z Diff_len Diff_one Diff_im) ?_)))))))))))
 obtain⟨z18,hz,h⟩:=bs h
 refine Qa z z z (v:=.hnd 18) (x:=some (.arr 174 3 (z18.map Diff.cl))) (Ax.app_l (cl:=Diff.cl) z z slc_32 z z z Diff_one Diff_im hz z z) z z z z z (Qe 3 z (Q1 z z z (v:=.lst 4 (([a4]:List Reason).map Reason.cl)) (Ax.sl (xs:=([a4]:List Reason)) z slc_35 z z ⟨Sub.refl _,Sub.refl _,Sub.refl _,Sub.refl _,u0⟩ z Reason_len Reason_one Reason_im) ?_))
 obtain⟨z23,hz_1,h⟩:=bs h
 refine Qa z z z (v:=.hnd 23) (x:=some (.arr 42 4 (z23.map Reason.cl))) (Ax.app_l (cl:=Reason.cl) z z slc_35 z z z Reason_one Reason_im hz_1 z z) z z z z z (Q1 z z z (v:=.agg [.hnd 18,.hnd 23]) (Ab_ z zer_293 (bld plc_293 zer_293) z ⟨Sub.refl _,Sub.refl _,u0⟩) (Qs z z (x:=some (.box [.hnd 18,.hnd 23])) (As z siz_293 z z z z z z z) (Rx ⟨by kernel_rfl,freshL_of [18,23] (by kernel_rfl) (by kernel_rfl),?_⟩)))
 refine Te ?_
 refine RetQ.eq2 (fun r=>.agg (Laid_snowlineref05.cl r)) (fun r=>[]) (Option.some.inj h) ?_
 exact RetQ.mk (vs:=[.agg [.hnd 18,.hnd 23]]) (.inr z) ⟨_,_,z,.cell_box z siz_293 z z z,z⟩ [18,23] [] z z u0 (.frz (.aggV ⟨(.hnd mh z (im_flat Diff_im z18)),(.hnd (mt mh) z (im_flat Reason_im z23)),u0⟩) z)
theorem f222_fr {K:Nat} {a0:Laid_snowlineref05} {a1:Int} {a2:Int} {a3:Int} {a4:Reason} {r:Laid_snowlineref05} (h:f222 K a0 a1 a2 a3 a4=some r):CallOK Tryz.prog 222 [.agg [.hnd 22930001,.hnd 22930002],Ai a1,Ai a2,Ai a3,.agg (Reason.cl a4)] [(22930001,.arr 174 3 (a0.l.map Diff.cl)),(22930002,.arr 42 4 (a0.r.map Reason.cl))] (.agg [.hnd 2235001,.hnd 2235002]) [(2235001,.arr 174 3 (r.l.map Diff.cl)),(2235002,.arr 42 4 (r.r.map Reason.cl))]:=by
 refine Co Tryz.func222 z z (nl z) ?_
 unfold f222 at h
 refine Tr (Qn z z z (v:=.ptr 5 0) (x:=some (.box [.hnd 22930001,.hnd 22930002])) (Ax.box_ptr z z z z) z z z z z (Qe 1 z (Qn z z z (v:=.ptr 10 0) (x:=some (.box [.sc (.slice none 0 0),.sc (.slice none 0 0)])) (Al_ z z zer_293 z ⟨Sub.refl _,Sub.refl _,u0⟩) z z z z z (Rx (Tn (Eg 10 0 900001000 174 3 (cells':=[.hnd 900001000,.sc (.slice none 0 0)]) z z z z) (Tn (Eg 10 1 901001001 42 4 (cells':=[.hnd 900001000,.hnd 901001001]) z z z z) (Ts (Td [[],[0],[],[],[],[2,3,4],[2,3,4,5],[0,1,2,3,4,5,6],[],[8],[],[10],[0,1,2,3,4,5,6,7,8,9,10,11],[0,1,2,3,4,5,6,7,8,9,10,11,12],[0,1,2,3,4,5,6,7,8,9,10,11,12,13]] hmix (by kernel_rfl) (Qe 5 z (Q1 z z z (v:=.agg (Diff.cl (⟨a1,a2,a3⟩:Diff))) (Ab_ z zer_174 (bld plc_174 zer_174) z ⟨Sub.refl _,Sub.refl _,Sub.refl _,u0⟩) (Q1 z z z (v:=.lst 3 (([(⟨a1,a2,a3⟩:Diff)]:List Diff).map Diff.cl)) (Ax.sl (xs:=([(⟨a1,a2,a3⟩:Diff)]:List Diff)) z slc_32 z z ⟨Sub.refl _,Sub.refl _,Sub.refl _,u0⟩ z Diff_len Diff_one Diff_im) ?_)))))))))))
 obtain⟨z18,hz,h⟩:=bs h
 refine Qa z z z (v:=.hnd 18) (x:=some (.arr 174 3 (z18.map Diff.cl))) (Ax.app_l (cl:=Diff.cl) z z slc_32 z z z Diff_one Diff_im hz z z) z z z z z (Qe 3 z (Q1 z z z (v:=.lst 4 (([a4]:List Reason).map Reason.cl)) (Ax.sl (xs:=([a4]:List Reason)) z slc_35 z z ⟨Sub.refl _,Sub.refl _,Sub.refl _,Sub.refl _,u0⟩ z Reason_len Reason_one Reason_im) ?_))
 obtain⟨z23,hz_1,h⟩:=bs h
 refine Qa z z z (v:=.hnd 23) (x:=some (.arr 42 4 (z23.map Reason.cl))) (Ax.app_l (cl:=Reason.cl) z z slc_35 z z z Reason_one Reason_im hz_1 z z) z z z z z (Q1 z z z (v:=.agg [.hnd 18,.hnd 23]) (Ab_ z zer_293 (bld plc_293 zer_293) z ⟨Sub.refl _,Sub.refl _,u0⟩) (Qs z z (x:=some (.box [.hnd 18,.hnd 23])) (As z siz_293 z z z z z z z) (Rx ⟨by kernel_rfl,freshL_of [18,23] (by kernel_rfl) (by kernel_rfl),?_⟩)))
 refine Te ?_
 refine Rr (fun r=>.agg [.hnd 2235001,.hnd 2235002]) (fun r=>[(2235001,.arr 174 3 (r.l.map Diff.cl)),(2235002,.arr 42 4 (r.r.map Reason.cl))]) [18,23] h ?_ ?_
 ·rfl
 exact⟨imf Diff_im,imf Reason_im,u0⟩
theorem f103_ok {K:Nat} {a0:Scene} {r:Net × List Reason} (h:f103 K a0=some r):CallOK Tryz.prog 103 [.agg (Scene.cl a0)] [] (.tup [.agg (Net.cl r.1),.lst 4 (r.2.map Reason.cl)]) []:=by
 refine Co Tryz.func103 z z (nl z) ?_
 unfold f103 at h
 refine Tr (Qe 1 z (Qn z z z (v:=.ptr 2 0) (x:=some (.box (Net.cl (⟨0,([]:List Diff)⟩:Net)))) (Al_ z z zer_34 z ⟨Sub.refl _,Sub.nil _,u0⟩) z z z z z (Q1 z z z (v:=.lst 4 (([]:List Reason).map Reason.cl)) (Ax.nl 4 z z) (Rx (Tr (Qn z z z (v:=.ptr 4 0) (x:=some (.box [.sc (.slice none 0 0),.sc (.slice none 0 0)])) (Al_ z z zer_293 z ⟨Sub.refl _,Sub.refl _,u0⟩) z z z z z (Rx (Tn (Eg 4 0 900000400 174 3 (cells':=[.hnd 900000400,.sc (.slice none 0 0)]) z z z z) (Tn (Eg 4 1 901000401 42 4 (cells':=[.hnd 900000400,.hnd 901000401]) z z z z) (Tr (Qe 2 z (Qn z z z (v:=.ptr 5 0) (x:=some (.box (Basin.cl (⟨([]:List Cell),([]:List Arr2_3),0,0,0⟩:Basin)))) (Al_ z z zer_25 z ⟨Sub.nil _,Sub.nil _,Sub.refl _,Sub.refl _,Sub.refl _,u0⟩) z z z z z ?_))))))))))))
 refine Qs z z (x:=some (.box (Basin.cl a0.Basin))) (As z siz_25 z z z z z z z) (Rx (Ts (Tp z ?_)))
 obtain⟨⟨voo4_0_1,voo4_1_1⟩,hj,h⟩:=bs h
 refine Tri.rngLv hj (fun p=>⟨[(1,.ipt (Scene.cl a0) 0),(2,.ptr 2 0),(4,.ptr 4 0),(5,.ptr 5 0),(6,Ai p.1)],[(2,some (.box (Net.cl (⟨0,([]:List Diff)⟩:Net)))),(900000400,some (.arr 174 3 (p.2.1.map Diff.cl))),(901000401,some (.arr 42 4 (p.2.2.map Reason.cl))),(4,some (.box [.hnd 900000400,.hnd 901000401])),(5,some (.box (Basin.cl a0.Basin)))]⟩) (fun(y:List Diff × List Reason)=>⟨[(1,.ipt (Scene.cl a0) 0),(2,.ptr 2 0),(4,.ptr 4 0),(5,.ptr 5 0)],[(2,some (.box (Net.cl (⟨0,([]:List Diff)⟩:Net)))),(900000400,some (.arr 174 3 (y.1.map Diff.cl))),(901000401,some (.arr 42 4 (y.2.map Reason.cl))),(4,some (.box [.hnd 900000400,.hnd 901000401])),(5,some (.box (Basin.cl a0.Basin)))]⟩) (Ee [2,900000400,901000401,4,5] z ⟨im_flat Diff_im ([]:List Diff),im_flat Reason_im ([]:List Reason),u0⟩) ?_ ?_ ?_
 ·refine Ts (Tp z ?_)
  obtain⟨⟨voo4_0_3,voo4_1_3⟩,hj_1,h⟩:=bs h
  refine Tri.rngLv hj_1 (fun p=>⟨[(1,.ipt (Scene.cl a0) 0),(2,.ptr 2 0),(4,.ptr 4 0),(5,.ptr 5 0),(13,Ai p.1)],[(2,some (.box (Net.cl (⟨0,([]:List Diff)⟩:Net)))),(900000400,some (.arr 174 3 (p.2.1.map Diff.cl))),(901000401,some (.arr 42 4 (p.2.2.map Reason.cl))),(4,some (.box [.hnd 900000400,.hnd 901000401])),(5,some (.box (Basin.cl a0.Basin)))]⟩) (fun(y:List Diff × List Reason)=>⟨[(1,.ipt (Scene.cl a0) 0),(2,.ptr 2 0),(4,.ptr 4 0),(5,.ptr 5 0)],[(2,some (.box (Net.cl (⟨0,([]:List Diff)⟩:Net)))),(900000400,some (.arr 174 3 (y.1.map Diff.cl))),(901000401,some (.arr 42 4 (y.2.map Reason.cl))),(4,some (.box [.hnd 900000400,.hnd 901000401])),(5,some (.box (Basin.cl a0.Basin)))]⟩) (Ee [2,900000400,901000401,4,5] z ⟨imf Diff_im,imf Reason_im,u0⟩) ?_ ?_ ?_
  ·refine Ts (Tp z ?_)
   obtain⟨⟨voo4_0_5,voo4_1_5⟩,hj_2,h⟩:=bs h
   refine Tri.rngLv hj_2 (fun p=>⟨[(1,.ipt (Scene.cl a0) 0),(2,.ptr 2 0),(4,.ptr 4 0),(5,.ptr 5 0),(16,Ai p.1)],[(2,some (.box (Net.cl (⟨0,([]:List Diff)⟩:Net)))),(900000400,some (.arr 174 3 (p.2.1.map Diff.cl))),(901000401,some (.arr 42 4 (p.2.2.map Reason.cl))),(4,some (.box [.hnd 900000400,.hnd 901000401])),(5,some (.box (Basin.cl a0.Basin)))]⟩) (fun(y:List Diff × List Reason)=>⟨[(1,.ipt (Scene.cl a0) 0),(2,.ptr 2 0),(4,.ptr 4 0),(5,.ptr 5 0)],[(2,some (.box (Net.cl (⟨0,([]:List Diff)⟩:Net)))),(900000400,some (.arr 174 3 (y.1.map Diff.cl))),(901000401,some (.arr 42 4 (y.2.map Reason.cl))),(4,some (.box [.hnd 900000400,.hnd 901000401])),(5,some (.box (Basin.cl a0.Basin)))]⟩) (Ee [2,900000400,901000401,4,5] z ⟨imf Diff_im,imf Reason_im,u0⟩) ?_ ?_ ?_
   ·refine Ts (Td [[],[0],[0,1],[],[3],[3,4],[0,1,2,3,4,5],[0,1,2,3,4,5,6],[],[8],[0,1,2,3,4,5,6,7,8,9],[],[],[0,1,2,3,4,5,6,7,8,9,10],[]] hmix (by kernel_rfl) (Qe 2 z (Q1 z z z (Ax.ln (cl:=Cell.cl) z slc_22 z) (Qe 2 z (Q1 z z z (Ax.ln (cl:=icl) z slc_26 z) (Qe 4 z (Q1 z z z (v:=.agg [Ai (W (1+(W ((a0.Basin.Cells.length:Int)*(a0.Days.length:Int))))),.hnd 900000400]) (Ab_ z zer_34 (bld plc_34 zer_34) z ⟨Sub.refl _,Sub.refl _,u0⟩) (Qe 2 z (Qs z z (x:=some (.box [Ai (W (1+(W ((a0.Basin.Cells.length:Int)*(a0.Days.length:Int))))),.hnd 900000400])) (As z siz_34 z z z z z z z) (Qe 1 z (Rx ⟨by kernel_rfl,freshL_of [] (by kernel_rfl) (by kernel_rfl),?_⟩)))))))))))
    refine Te ?_
    refine RetQ.eq2 (fun r=>.tup [.agg (Net.cl r.1),.lst 4 (r.2.map Reason.cl)]) (fun r=>[]) (Option.some.inj h) ?_
    exact RetQ.mk (vs:=[.agg [Ai (W (1+(W ((a0.Basin.Cells.length:Int)*(a0.Days.length:Int))))),.hnd 900000400],.hnd 901000401]) (.inr z) ⟨_,_,z,.cell_box z siz_34 z z z,⟨_,_,z,.tmp z,z⟩⟩ [900000400,901000401] [] z z u0 (.tupV ⟨.frz (.aggV ⟨(.imm z),(.hnd mh z (im_flat Diff_im voo4_0_5)),u0⟩) z,.frz (.hnd (mt mh) z (im_flat Reason_im voo4_1_5)) z,u0⟩)
   ·rintro v16 ⟨voo4_0_4,voo4_1_4⟩ hi_2 h
    refine Ts (Tr (Qe 3 z (Q1 z z z (Ax.ln (cl:=Change.cl) z slc_28 z) (Qd z (Tc (b:=(decide (v16 < (a0.Changes.length:Int)))) z (fun hb=>?_) (fun hb=>?_))))))
    ·exact(lt_f hi_2 hb).elim
    exact Tri.exit (Xi (voo4_0_4,voo4_1_4) (An h (Ee [2,900000400,901000401,4,5] z ⟨imf Diff_im,imf Reason_im,u0⟩)))
   rintro nx_2 x_2 v16 ⟨voo4_0_4,voo4_1_4⟩ _ hi_2 hw_2 hx_2 h
   refine Ts (Tr (Qe 3 z (Q1 z z z (Ax.ln (cl:=Change.cl) z slc_28 z) (Qd z (Tc (b:=(decide (v16 < (a0.Changes.length:Int)))) z (fun hb_1=>?_) (fun hb_1=>?_))))))
   ·refine Tk (Ts (Tri.block (Tr (Qe 3 z (Q1 z z z (Ax.ix (cl:=Change.cl) z slc_28 z z hx_2) (Qe 1 z (Qn z z z (v:=.ptr 17 0) (x:=some (.box (Change.cl (⟨0,0,0,0,0⟩:Change)))) (Al_ z z zer_67 z ⟨Sub.refl _,Sub.refl _,Sub.refl _,Sub.refl _,Sub.refl _,u0⟩) z z z z z (Qs z z (x:=some (.box (Change.cl x_2))) (As z siz_67 z z z z z z z) (Rx (Tr (Qe 3 z ?_)))))))))))
    obtain⟨x204,hc,h⟩:=bs h
    refine Qc z z z (args:=[.agg (Basin.cl a0.Basin),Ai x_2.Cell]) (r:=Ai x204) (calv z z fnok_116 z) (f116_ok hc) z (Qd z (Ts (Td [[],[],[],[],[3],[2,3,4],[0,1,2,3,4,5],[],[],[],[],[10],[0,1,2,3,4,5,6,9,10,11],[0,1,2,3,4,5,6,7,8,9,10,11,12],[0,1,2,3,4,5,6,7,8,9,10,11,12,13],[0,1,2,3,4,5,6,7,8,9,10,11,12,13,14]] hmix (by kernel_rfl) (Qe 5 z ?_))))
    obtain⟨x210,hc_1,h⟩:=bs h
    refine Qc z z z (args:=[.agg (Scene.cl a0),Ai x_2.From]) (r:=Ai x210) (calv z z fnok_117 z) (f117_ok hc_1) z ?_
    obtain⟨x211,hc_2,h⟩:=bs h
    refine Qc z z z (args:=[.agg (Scene.cl a0),Ai x204,Ai x210]) (r:=Ai x211) (calv z z fnok_205 z) (f205_ok hc_2) z (Qe 5 z ?_)
    obtain⟨x217,hc_3,h⟩:=bs h
    refine Qc z z z (args:=[.agg (Scene.cl a0),Ai x_2.To]) (r:=Ai x217) (calv z z fnok_117 z) (f117_ok hc_3) z ?_
    obtain⟨x218,hc_4,h⟩:=bs h
    refine Qc z z z (args:=[.agg (Scene.cl a0),Ai x204,Ai x217]) (r:=Ai x218) (calv z z fnok_205 z) (f205_ok hc_4) z (Qe 2 z (Rx ⟨by kernel_rfl,freshL_of [] (by kernel_rfl) (by kernel_rfl),?_⟩))
    refine Ts (Tn (Ent.norm [] [(2,2,.box (Net.cl (⟨0,([]:List Diff)⟩:Net))),(4,4,.box [.hnd 22930001,.hnd 22930002]),(5,5,.box (Basin.cl a0.Basin)),(17,17,.box (Change.cl x_2)),(22930001,900000400,.arr 174 3 (voo4_0_4.map Diff.cl)),(22930002,901000401,.arr 42 4 (voo4_1_4.map Reason.cl))] [(1,.ipt (Scene.cl a0) 0),(2,.ptr 2 0),(4,.ptr 4 0),(5,.ptr 5 0),(16,Ai v16),(17,.ptr 17 0),(19,Ai x211),(20,Ai x218)] z ⟨⟨_,z,.boxV ⟨.rfl' z,.rfl' z,u0⟩⟩,⟨_,z,.boxV ⟨.hnd (mt (mt (mt (mt mh)))),.hnd (mt (mt (mt (mt (mt mh))))),u0⟩⟩,⟨_,z,.boxV ⟨.rfl' z,.rfl' z,.rfl' z,.rfl' z,.rfl' z,u0⟩⟩,⟨_,z,.boxV ⟨.rfl' z,.rfl' z,.rfl' z,.rfl' z,.rfl' z,u0⟩⟩,⟨_,z,.arr (im_flat Diff_im voo4_0_4)⟩,⟨_,z,.arr (im_flat Reason_im voo4_1_4)⟩,u0⟩ ⟨.rfl' z,.ptr mh,.ptr (mt mh),.ptr (mt (mt mh)),.rfl' z,.ptr (mt (mt (mt mh))),.rfl' z,.rfl' z,u0⟩) (Tri.region (Qe 6 z (Q1 z z z (v:=.agg (Reason.cl (⟨6,v16,0,true⟩:Reason))) (Ab_ z zer_42 (bld plc_42 zer_42) z ⟨Sub.refl _,Sub.refl _,Sub.refl _,Sub.refl _,u0⟩) ?_))))
    obtain⟨x226,hc_5,h⟩:=bs h
    refine Qo [(22930001,.arr 174 3 (voo4_0_4.map Diff.cl)),(22930002,.arr 42 4 (voo4_1_4.map Reason.cl))] [(2235001,.arr 174 3 (x226.l.map Diff.cl)),(2235002,.arr 42 4 (x226.r.map Reason.cl))] [2235001,2235002] z z z (args:=[.agg [.hnd 22930001,.hnd 22930002],Ai x211,Ai x218,Ai x_2.Hi,.agg (Reason.cl (⟨6,v16,0,true⟩:Reason))]) (r:=.agg [.hnd 2235001,.hnd 2235002]) (calv z z fnok_222 z) (f222_fr hc_5) ⟨z,z,u0⟩ z z z z z (Qs z z (x:=some (.box [.hnd 2235001,.hnd 2235002])) (As z siz_293 z z z z z z z) (Rx (Tn (Ent.norm [] [(2,2,.box (Net.cl (⟨0,([]:List Diff)⟩:Net))),(4,4,.box [.hnd 22930001,.hnd 22930002]),(5,5,.box (Basin.cl a0.Basin)),(17,17,.box (Change.cl x_2)),(22930001,2235001,.arr 174 3 (x226.l.map Diff.cl)),(22930002,2235002,.arr 42 4 (x226.r.map Reason.cl))] [(1,.ipt (Scene.cl a0) 0),(2,.ptr 2 0),(4,.ptr 4 0),(5,.ptr 5 0),(16,Ai v16),(17,.ptr 17 0),(19,Ai x211),(20,Ai x218)] z ⟨⟨_,z,.boxV ⟨.rfl' z,.rfl' z,u0⟩⟩,⟨_,z,.boxV ⟨.hnd (mt (mt (mt (mt mh)))),.hnd (mt (mt (mt (mt (mt mh))))),u0⟩⟩,⟨_,z,.boxV ⟨.rfl' z,.rfl' z,.rfl' z,.rfl' z,.rfl' z,u0⟩⟩,⟨_,z,.boxV ⟨.rfl' z,.rfl' z,.rfl' z,.rfl' z,.rfl' z,u0⟩⟩,⟨_,z,.arr (im_flat Diff_im x226.l)⟩,⟨_,z,.arr (im_flat Reason_im x226.r)⟩,u0⟩ ⟨.rfl' z,.ptr mh,.ptr (mt mh),.ptr (mt (mt mh)),.rfl' z,.ptr (mt (mt (mt mh))),.rfl' z,.rfl' z,u0⟩) (Tri.region (Qe 7 z (Q1 z z z (v:=.agg (Reason.cl (⟨6,v16,0,false⟩:Reason))) (Ab_ z zer_42 (bld plc_42 zer_42) z ⟨Sub.refl _,Sub.refl _,Sub.refl _,Sub.refl _,u0⟩) ?_))))))
    obtain⟨x235,hc_6,h⟩:=bs h
    exact Qo [(22930001,.arr 174 3 (x226.l.map Diff.cl)),(22930002,.arr 42 4 (x226.r.map Reason.cl))] [(2235001,.arr 174 3 (x235.l.map Diff.cl)),(2235002,.arr 42 4 (x235.r.map Reason.cl))] [2235001,2235002] z z z (args:=[.agg [.hnd 22930001,.hnd 22930002],Ai x218,Ai x211,Ai (W (-x_2.Lo)),.agg (Reason.cl (⟨6,v16,0,false⟩:Reason))]) (r:=.agg [.hnd 2235001,.hnd 2235002]) (calv z z fnok_222 z) (f222_fr hc_6) ⟨z,z,u0⟩ z z z z z (Qs z z (x:=some (.box [.hnd 2235001,.hnd 2235002])) (As z siz_293 z z z z z z z) (Rx (Tq z (Xi (v16+1,(x235.l,x235.r)) (An (An z h) (Es [2,2235001,2235002,4,5] [16] z ⟨imf Diff_im,imf Reason_im,u0⟩ ⟨.imm (Sub.of_eq (show Ai (v16+1)=Ai (W (v16+1)) from congrArg Ai hw_2.symm)) z,u0⟩))))))
   exact(lt_t hi_2 hb_1).elim
  ·rintro v13 ⟨voo4_0_2,voo4_1_2⟩ hi_1 h
   refine Ts (Tr (Qe 3 z (Q1 z z z (Ax.ln (cl:=Sight.cl) z slc_27 z) (Qd z (Tc (b:=(decide (v13 < (a0.Sights.length:Int)))) z (fun hb_2=>?_) (fun hb_2=>?_))))))
   ·exact(lt_f hi_1 hb_2).elim
   exact Tri.exit (Xi (voo4_0_2,voo4_1_2) (An h (Ee [2,900000400,901000401,4,5] z ⟨imf Diff_im,imf Reason_im,u0⟩)))
  rintro nx_1 x_1 v13 ⟨voo4_0_2,voo4_1_2⟩ _ hi_1 hw_1 hx_1 h
  refine Ts (Tr (Qe 3 z (Q1 z z z (Ax.ln (cl:=Sight.cl) z slc_27 z) (Qd z (Tc (b:=(decide (v13 < (a0.Sights.length:Int)))) z (fun hb_3=>?_) (fun hb_3=>?_))))))
  ·refine Tk (Ts (Tri.block (Tr (Qe 3 z (Q1 z z z (Ax.ix (cl:=Sight.cl) z slc_27 z z hx_1) (Qe 1 z (Qn z z z (v:=.ptr 14 0) (x:=some (.box (Sight.cl (⟨0,0,0,0,0⟩:Sight)))) (Al_ z z zer_64 z ⟨Sub.refl _,Sub.refl _,Sub.refl _,Sub.refl _,Sub.refl _,u0⟩) z z z z z (Qs z z (x:=some (.box (Sight.cl x_1))) (As z siz_64 z z z z z z z) (Rx (Ts (Td [[],[],[],[2],[1,2,3],[],[],[6],[1,2,3,4,5,6,7],[0,1,2,3,4,5,6,7,8],[0,1,2,3,4,5,6,7,8,9]] hmix (by kernel_rfl) (Qe 4 z ?_))))))))))))
   obtain⟨x168,hc_7,h⟩:=bs h
   refine Qc z z z (args:=[.agg (Basin.cl a0.Basin),Ai x_1.Cell]) (r:=Ai x168) (calv z z fnok_116 z) (f116_ok hc_7) z (Qe 3 z ?_)
   obtain⟨x172,hc_8,h⟩:=bs h
   refine Qc z z z (args:=[.agg (Scene.cl a0),Ai x_1.Day]) (r:=Ai x172) (calv z z fnok_117 z) (f117_ok hc_8) z ?_
   obtain⟨x173,hc_9,h⟩:=bs h
   refine Qc z z z (args:=[.agg (Scene.cl a0),Ai x168,Ai x172]) (r:=Ai x173) (calv z z fnok_205 z) (f205_ok hc_9) z (Qe 1 z (Rx ⟨by kernel_rfl,freshL_of [] (by kernel_rfl) (by kernel_rfl),?_⟩))
   refine Ts (Tn (Ent.norm [] [(2,2,.box (Net.cl (⟨0,([]:List Diff)⟩:Net))),(4,4,.box [.hnd 22930001,.hnd 22930002]),(5,5,.box (Basin.cl a0.Basin)),(14,14,.box (Sight.cl x_1)),(22930001,900000400,.arr 174 3 (voo4_0_2.map Diff.cl)),(22930002,901000401,.arr 42 4 (voo4_1_2.map Reason.cl))] [(1,.ipt (Scene.cl a0) 0),(2,.ptr 2 0),(4,.ptr 4 0),(5,.ptr 5 0),(13,Ai v13),(14,.ptr 14 0),(15,Ai x173)] z ⟨⟨_,z,.boxV ⟨.rfl' z,.rfl' z,u0⟩⟩,⟨_,z,.boxV ⟨.hnd (mt (mt (mt (mt mh)))),.hnd (mt (mt (mt (mt (mt mh))))),u0⟩⟩,⟨_,z,.boxV ⟨.rfl' z,.rfl' z,.rfl' z,.rfl' z,.rfl' z,u0⟩⟩,⟨_,z,.boxV ⟨.rfl' z,.rfl' z,.rfl' z,.rfl' z,.rfl' z,u0⟩⟩,⟨_,z,.arr (im_flat Diff_im voo4_0_2)⟩,⟨_,z,.arr (im_flat Reason_im voo4_1_2)⟩,u0⟩ ⟨.rfl' z,.ptr mh,.ptr (mt mh),.ptr (mt (mt mh)),.rfl' z,.ptr (mt (mt (mt mh))),.rfl' z,u0⟩) (Tri.region (Qe 5 z (Q1 z z z (v:=.agg (Reason.cl (⟨5,v13,0,true⟩:Reason))) (Ab_ z zer_42 (bld plc_42 zer_42) z ⟨Sub.refl _,Sub.refl _,Sub.refl _,Sub.refl _,u0⟩) ?_))))
   obtain⟨x180,hc_10,h⟩:=bs h
   refine Qo [(22930001,.arr 174 3 (voo4_0_2.map Diff.cl)),(22930002,.arr 42 4 (voo4_1_2.map Reason.cl))] [(2235001,.arr 174 3 (x180.l.map Diff.cl)),(2235002,.arr 42 4 (x180.r.map Reason.cl))] [2235001,2235002] z z z (args:=[.agg [.hnd 22930001,.hnd 22930002],Ai 0,Ai x173,Ai x_1.Hi,.agg (Reason.cl (⟨5,v13,0,true⟩:Reason))]) (r:=.agg [.hnd 2235001,.hnd 2235002]) (calv z z fnok_222 z) (f222_fr hc_10) ⟨z,z,u0⟩ z z z z z (Qs z z (x:=some (.box [.hnd 2235001,.hnd 2235002])) (As z siz_293 z z z z z z z) (Rx (Tn (Ent.norm [] [(2,2,.box (Net.cl (⟨0,([]:List Diff)⟩:Net))),(4,4,.box [.hnd 22930001,.hnd 22930002]),(5,5,.box (Basin.cl a0.Basin)),(14,14,.box (Sight.cl x_1)),(22930001,2235001,.arr 174 3 (x180.l.map Diff.cl)),(22930002,2235002,.arr 42 4 (x180.r.map Reason.cl))] [(1,.ipt (Scene.cl a0) 0),(2,.ptr 2 0),(4,.ptr 4 0),(5,.ptr 5 0),(13,Ai v13),(14,.ptr 14 0),(15,Ai x173)] z ⟨⟨_,z,.boxV ⟨.rfl' z,.rfl' z,u0⟩⟩,⟨_,z,.boxV ⟨.hnd (mt (mt (mt (mt mh)))),.hnd (mt (mt (mt (mt (mt mh))))),u0⟩⟩,⟨_,z,.boxV ⟨.rfl' z,.rfl' z,.rfl' z,.rfl' z,.rfl' z,u0⟩⟩,⟨_,z,.boxV ⟨.rfl' z,.rfl' z,.rfl' z,.rfl' z,.rfl' z,u0⟩⟩,⟨_,z,.arr (im_flat Diff_im x180.l)⟩,⟨_,z,.arr (im_flat Reason_im x180.r)⟩,u0⟩ ⟨.rfl' z,.ptr mh,.ptr (mt mh),.ptr (mt (mt mh)),.rfl' z,.ptr (mt (mt (mt mh))),.rfl' z,u0⟩) (Tri.region (Qe 6 z (Q1 z z z (v:=.agg (Reason.cl (⟨5,v13,0,false⟩:Reason))) (Ab_ z zer_42 (bld plc_42 zer_42) z ⟨Sub.refl _,Sub.refl _,Sub.refl _,Sub.refl _,u0⟩) ?_))))))
   obtain⟨x188,hc_11,h⟩:=bs h
   exact Qo [(22930001,.arr 174 3 (x180.l.map Diff.cl)),(22930002,.arr 42 4 (x180.r.map Reason.cl))] [(2235001,.arr 174 3 (x188.l.map Diff.cl)),(2235002,.arr 42 4 (x188.r.map Reason.cl))] [2235001,2235002] z z z (args:=[.agg [.hnd 22930001,.hnd 22930002],Ai x173,Ai 0,Ai (W (-x_1.Lo)),.agg (Reason.cl (⟨5,v13,0,false⟩:Reason))]) (r:=.agg [.hnd 2235001,.hnd 2235002]) (calv z z fnok_222 z) (f222_fr hc_11) ⟨z,z,u0⟩ z z z z z (Qs z z (x:=some (.box [.hnd 2235001,.hnd 2235002])) (As z siz_293 z z z z z z z) (Rx (Tq z (Xi (v13+1,(x188.l,x188.r)) (An (An z h) (Es [2,2235001,2235002,4,5] [13] z ⟨imf Diff_im,imf Reason_im,u0⟩ ⟨.imm (Sub.of_eq (show Ai (v13+1)=Ai (W (v13+1)) from congrArg Ai hw_1.symm)) z,u0⟩))))))
  exact(lt_t hi_1 hb_3).elim
 ·rintro v6 ⟨voo4_0,voo4_1⟩ hi h
  refine Ts (Tr (Qe 3 z (Q1 z z z (Ax.ln (cl:=icl) z slc_26 z) (Qd z (Tc (b:=(decide (v6 < (a0.Days.length:Int)))) z (fun hb_4=>?_) (fun hb_4=>?_))))))
  ·exact(lt_f hi hb_4).elim
  exact Tri.exit (Xi (voo4_0,voo4_1) (An h (Ee [2,900000400,901000401,4,5] z ⟨imf Diff_im,imf Reason_im,u0⟩)))
 rintro nx x v6 ⟨voo4_0,voo4_1⟩ _ hi hw hx h
 refine Ts (Tr (Qe 3 z (Q1 z z z (Ax.ln (cl:=icl) z slc_26 z) (Qd z (Tc (b:=(decide (v6 < (a0.Days.length:Int)))) z (fun hb_5=>?_) (fun hb_5=>?_))))))
 ·refine Tk (Ts (Tri.block (Ts (Tp z ?_))))
  obtain⟨⟨voo4_0_7,voo4_1_7⟩,hj_3,h⟩:=bs h
  refine Tri.rngLv hj_3 (fun p=>⟨[(1,.ipt (Scene.cl a0) 0),(2,.ptr 2 0),(4,.ptr 4 0),(5,.ptr 5 0),(6,Ai v6),(7,Ai p.1)],[(2,some (.box (Net.cl (⟨0,([]:List Diff)⟩:Net)))),(900000400,some (.arr 174 3 (p.2.1.map Diff.cl))),(901000401,some (.arr 42 4 (p.2.2.map Reason.cl))),(4,some (.box [.hnd 900000400,.hnd 901000401])),(5,some (.box (Basin.cl a0.Basin)))]⟩) (fun(y:List Diff × List Reason)=>⟨[(1,.ipt (Scene.cl a0) 0),(2,.ptr 2 0),(4,.ptr 4 0),(5,.ptr 5 0),(6,Ai v6)],[(2,some (.box (Net.cl (⟨0,([]:List Diff)⟩:Net)))),(900000400,some (.arr 174 3 (y.1.map Diff.cl))),(901000401,some (.arr 42 4 (y.2.map Reason.cl))),(4,some (.box [.hnd 900000400,.hnd 901000401])),(5,some (.box (Basin.cl a0.Basin)))]⟩) (Ee [2,900000400,901000401,4,5] z ⟨imf Diff_im,imf Reason_im,u0⟩) ?_ ?_ ?_
  ·refine Tp z ?_
   obtain⟨⟨voo4_0_9,voo4_1_9⟩,hj_4,h⟩:=bs h
   refine Tri.rngLv hj_4 (fun p=>⟨[(1,.ipt (Scene.cl a0) 0),(2,.ptr 2 0),(4,.ptr 4 0),(5,.ptr 5 0),(6,Ai v6),(8,Ai p.1)],[(2,some (.box (Net.cl (⟨0,([]:List Diff)⟩:Net)))),(900000400,some (.arr 174 3 (p.2.1.map Diff.cl))),(901000401,some (.arr 42 4 (p.2.2.map Reason.cl))),(4,some (.box [.hnd 900000400,.hnd 901000401])),(5,some (.box (Basin.cl a0.Basin)))]⟩) (fun(y:List Diff × List Reason)=>⟨[(1,.ipt (Scene.cl a0) 0),(2,.ptr 2 0),(4,.ptr 4 0),(5,.ptr 5 0),(6,Ai v6)],[(2,some (.box (Net.cl (⟨0,([]:List Diff)⟩:Net)))),(900000400,some (.arr 174 3 (y.1.map Diff.cl))),(901000401,some (.arr 42 4 (y.2.map Reason.cl))),(4,some (.box [.hnd 900000400,.hnd 901000401])),(5,some (.box (Basin.cl a0.Basin)))]⟩) (Ee [2,900000400,901000401,4,5] z ⟨imf Diff_im,imf Reason_im,u0⟩) ?_ ?_ ?_
   ·exact Tq z (Xi (v6+1,(voo4_0_9,voo4_1_9)) (An (An z h) (Es [2,900000400,901000401,4,5] [6] z ⟨imf Diff_im,imf Reason_im,u0⟩ ⟨.imm (Sub.of_eq (show Ai (v6+1)=Ai (W (v6+1)) from congrArg Ai hw.symm)) z,u0⟩)))
   ·rintro v8 ⟨voo4_0_8,voo4_1_8⟩ hi_4 h
    refine Ts (Tr (Qe 3 z (Q1 z z z (Ax.ln (cl:=Arr2_3.cl) z slc_23 z) (Qd z (Tc (b:=(decide (v8 < (a0.Basin.Pairs.length:Int)))) z (fun hb_6=>?_) (fun hb_6=>?_))))))
    ·exact(lt_f hi_4 hb_6).elim
    exact Tri.exit (Xi (voo4_0_8,voo4_1_8) (An h (Ee [2,900000400,901000401,4,5] z ⟨imf Diff_im,imf Reason_im,u0⟩)))
   rintro nx_4 x_4 v8 ⟨voo4_0_8,voo4_1_8⟩ _ hi_4 hw_4 hx_4 h
   refine Ts (Tr (Qe 3 z (Q1 z z z (Ax.ln (cl:=Arr2_3.cl) z slc_23 z) (Qd z (Tc (b:=(decide (v8 < (a0.Basin.Pairs.length:Int)))) z (fun hb_7=>?_) (fun hb_7=>?_))))))
   ·refine Tk (Ts ?_)
    obtain⟨⟨voo4_0_10,voo4_1_10⟩,hj_5,h⟩:=bs h
    refine Tri.joinv (voo4_0_10,voo4_1_10) (fun(y:List Diff × List Reason)=>⟨[(1,.ipt (Scene.cl a0) 0),(2,.ptr 2 0),(4,.ptr 4 0),(5,.ptr 5 0),(6,Ai v6),(8,Ai v8)],[(2,some (.box (Net.cl (⟨0,([]:List Diff)⟩:Net)))),(900000400,some (.arr 174 3 (y.1.map Diff.cl))),(901000401,some (.arr 42 4 (y.2.map Reason.cl))),(4,some (.box [.hnd 900000400,.hnd 901000401])),(5,some (.box (Basin.cl a0.Basin)))]⟩) ?_ ?_
    ·exact Tq z (Xi (v8+1,(voo4_0_10,voo4_1_10)) (An (An z h) (Es [2,900000400,901000401,4,5] [8] z ⟨imf Diff_im,imf Reason_im,u0⟩ ⟨.imm (Sub.of_eq (show Ai (v8+1)=Ai (W (v8+1)) from congrArg Ai hw_4.symm)) z,u0⟩)))
    have h:=hj_5
    refine Tri.block (Tr (Qe 3 z (Q1 z z z (Ax.ix (cl:=Arr2_3.cl) z slc_23 z z hx_4) (Qe 1 z (Qn z z z (v:=.ptr 9 0) (x:=some (.box (Arr2_3.cl (⟨0,0⟩:Arr2_3)))) (Al_ z z zer_97 z ⟨Sub.refl _,Sub.refl _,u0⟩) z z z z z (Qs z z (x:=some (.box (Arr2_3.cl x_4))) (As z siz_97 z z z z z z z) (Rx (Ts (Td [[],[0],[],[2],[0,1,2,3],[0,1,2,3,4],[],[6],[],[8],[6,7,8,9],[6,7,8,9,10],[],[],[0,1,2,3,4,5,12,13],[0,1,2,3,4,5,6,7,8,9,10,11,12,13,14]] hmix (by kernel_rfl) (Qe 2 z (Q1 z z z (Ax.index_ptr (k:=.i64) (n:=0) z arr_97 z z z (by decide) (by decide)) (Qe 1 z ?_))))))))))))
    obtain⟨y,hy,h⟩:=bs h
    refine Q1 z z z (Ax.ix (cl:=Cell.cl) z slc_22 z z hy) (Qe 3 z (Q1 z z z (Ax.index_ptr (k:=.i64) (n:=1) z arr_97 z z z (by decide) (by decide)) (Qe 1 z ?_)))
    obtain⟨y_1,hy_1,h⟩:=bs h
    refine Q1 z z z (Ax.ix (cl:=Cell.cl) z slc_22 z z hy_1) (Qe 1 z (Qn z z z (v:=.ptr 10 0) (x:=some (.box (Cell.cl (⟨0,0,0,0⟩:Cell)))) (Al_ z z zer_56 z ⟨Sub.refl _,Sub.refl _,Sub.refl _,Sub.refl _,u0⟩) z z z z z (Qn z z z (v:=.ptr 11 0) (x:=some (.box (Cell.cl (⟨0,0,0,0⟩:Cell)))) (Al_ z z zer_56 z ⟨Sub.refl _,Sub.refl _,Sub.refl _,Sub.refl _,u0⟩) z z z z z (Qs z z (x:=some (.box (Cell.cl y))) (As z siz_56 z z z z z z z) (Qs z z (x:=some (.box (Cell.cl y_1))) (As z siz_56 z z z z z z z) (Rx ⟨by kernel_rfl,freshL_of [10,11] (by kernel_rfl) (by kernel_rfl),?_⟩))))))
    refine Ts (Tr (Qe 2 z ?_))
    obtain⟨x101,hc_12,h⟩:=bs h
    refine Qc z z z (args:=[.agg (Cell.cl y),.agg (Cell.cl y_1)]) (r:=Ab x101) (calv z z fnok_179 z) (f179_ok hc_12) z (Qd z (Tc (b:=(!x101)) z (fun hb_8=>?_) (fun hb_8=>?_)))
    ·have h:=cq hb_8 h
     exact Tri.exit (Xi (voo4_0_8,voo4_1_8) (An h (Ee [2,900000400,901000401,4,5] z ⟨imf Diff_im,imf Reason_im,u0⟩)))
    have h:=cw hb_8 h
    refine Tk (Ts (Tn (Ent.norm [] [(2,2,.box (Net.cl (⟨0,([]:List Diff)⟩:Net))),(4,4,.box [.hnd 22930001,.hnd 22930002]),(5,5,.box (Basin.cl a0.Basin)),(9,9,.box (Arr2_3.cl x_4)),(10,10,.box (Cell.cl y)),(11,11,.box (Cell.cl y_1)),(22930001,900000400,.arr 174 3 (voo4_0_8.map Diff.cl)),(22930002,901000401,.arr 42 4 (voo4_1_8.map Reason.cl))] [(1,.ipt (Scene.cl a0) 0),(2,.ptr 2 0),(4,.ptr 4 0),(5,.ptr 5 0),(6,Ai v6),(8,Ai v8),(9,.ptr 9 0),(10,.ptr 10 0),(11,.ptr 11 0)] z ⟨⟨_,z,.boxV ⟨.rfl' z,.rfl' z,u0⟩⟩,⟨_,z,.boxV ⟨.hnd (mt (mt (mt (mt (mt (mt mh)))))),.hnd (mt (mt (mt (mt (mt (mt (mt mh))))))),u0⟩⟩,⟨_,z,.boxV ⟨.rfl' z,.rfl' z,.rfl' z,.rfl' z,.rfl' z,u0⟩⟩,⟨_,z,.boxV ⟨.rfl' z,.rfl' z,u0⟩⟩,⟨_,z,.boxV ⟨.rfl' z,.rfl' z,.rfl' z,.rfl' z,u0⟩⟩,⟨_,z,.boxV ⟨.rfl' z,.rfl' z,.rfl' z,.rfl' z,u0⟩⟩,⟨_,z,.arr (im_flat Diff_im voo4_0_8)⟩,⟨_,z,.arr (im_flat Reason_im voo4_1_8)⟩,u0⟩ ⟨.rfl' z,.ptr mh,.ptr (mt mh),.ptr (mt (mt mh)),.rfl' z,.rfl' z,.ptr (mt (mt (mt mh))),.ptr (mt (mt (mt (mt mh)))),.ptr (mt (mt (mt (mt (mt mh))))),u0⟩) (Td [[],[],[],[2],[],[1,2,3,4],[],[],[7],[],[1,2,3,4,5,6,7,8,9],[],[],[1,2,3,4,5,6,7,8,9,10,11,12],[],[],[15],[],[15,16,17],[15,16,17,18],[14,15,16,17,18,19],[0,1,2,3,4,5,6,7,8,9,10,11,12,13,14,15,16,17,18,19,20],[0,1,2,3,4,5,6,7,8,9,10,11,12,13,14,15,16,17,18,19,20,21]] hmix (by kernel_rfl) (Qe 2 z (Q1 z z z (Ax.index_ptr (k:=.i64) (n:=0) z arr_97 z z z (by decide) (by decide)) (Qe 2 z ?_))))))
    obtain⟨x108,hc_13,h⟩:=bs h
    refine Qc z z z (args:=[.agg (Scene.cl a0),Ai x_4.a0,Ai v6]) (r:=Ai x108) (calv z z fnok_205 z) (f205_ok hc_13) z (Qe 1 z (Q1 z z z (Ax.index_ptr (k:=.i64) (n:=1) z arr_97 z z z (by decide) (by decide)) (Qe 2 z ?_)))
    obtain⟨x113,hc_14,h⟩:=bs h
    refine Qc z z z (args:=[.agg (Scene.cl a0),Ai x_4.a1,Ai v6]) (r:=Ai x113) (calv z z fnok_205 z) (f205_ok hc_14) z (Qe 2 z ?_)
    obtain⟨x116,hc_15,h⟩:=bs h
    refine Qc z z z (args:=[.agg (Basin.cl a0.Basin),.agg (Arr2_3.cl x_4)]) (r:=Ai x116) (calv z z fnok_180 z) (f180_ok hc_15) z (Qe 4 z (Q1 z z z (Ax.ix (cl:=icl) z slc_26 z z hx) (Qe 1 z (Q1 z z z (v:=.agg (Reason.cl (⟨3,v8,x,false⟩:Reason))) (Ab_ z zer_42 (bld plc_42 zer_42) z ⟨Sub.refl _,Sub.refl _,Sub.refl _,Sub.refl _,u0⟩) ?_))))
    obtain⟨x124,hc_16,h⟩:=bs h
    refine Qo [(22930001,.arr 174 3 (voo4_0_8.map Diff.cl)),(22930002,.arr 42 4 (voo4_1_8.map Reason.cl))] [(2235001,.arr 174 3 (x124.l.map Diff.cl)),(2235002,.arr 42 4 (x124.r.map Reason.cl))] [2235001,2235002] z z z (args:=[.agg [.hnd 22930001,.hnd 22930002],Ai x108,Ai x113,Ai x116,.agg (Reason.cl (⟨3,v8,x,false⟩:Reason))]) (r:=.agg [.hnd 2235001,.hnd 2235002]) (calv z z fnok_222 z) (f222_fr hc_16) ⟨z,z,u0⟩ z z z z z (Qs z z (x:=some (.box [.hnd 2235001,.hnd 2235002])) (As z siz_293 z z z z z z z) (Rx ⟨by kernel_rfl,freshL_of [2235001,2235002] (by kernel_rfl) (by kernel_rfl),?_⟩))
    refine Tp z (Ts (Tp z ?_))
    obtain⟨v12,hv,h⟩:=lt h
    refine Tri.join1 ⟨[(1,.ipt (Scene.cl a0) 0),(2,.ptr 2 0),(4,.ptr 4 0),(5,.ptr 5 0),(6,Ai v6),(8,Ai v8),(9,.ptr 9 0),(12,Ai v12)],[(2,some (.box (Net.cl (⟨0,([]:List Diff)⟩:Net)))),(2235001,some (.arr 174 3 (x124.l.map Diff.cl))),(2235002,some (.arr 42 4 (x124.r.map Reason.cl))),(4,some (.box [.hnd 2235001,.hnd 2235002])),(5,some (.box (Basin.cl a0.Basin))),(9,some (.box (Arr2_3.cl x_4)))]⟩ ?_ ?_
    ·refine Tn (Ent.norm [] [(2,2,.box (Net.cl (⟨0,([]:List Diff)⟩:Net))),(4,4,.box [.hnd 22930001,.hnd 22930002]),(5,5,.box (Basin.cl a0.Basin)),(9,9,.box (Arr2_3.cl x_4)),(22930001,2235001,.arr 174 3 (x124.l.map Diff.cl)),(22930002,2235002,.arr 42 4 (x124.r.map Reason.cl))] [(1,.ipt (Scene.cl a0) 0),(2,.ptr 2 0),(4,.ptr 4 0),(5,.ptr 5 0),(6,Ai v6),(8,Ai v8),(9,.ptr 9 0),(12,Ai v12)] z ⟨⟨_,z,.boxV ⟨.rfl' z,.rfl' z,u0⟩⟩,⟨_,z,.boxV ⟨.hnd (mt (mt (mt (mt mh)))),.hnd (mt (mt (mt (mt (mt mh))))),u0⟩⟩,⟨_,z,.boxV ⟨.rfl' z,.rfl' z,.rfl' z,.rfl' z,.rfl' z,u0⟩⟩,⟨_,z,.boxV ⟨.rfl' z,.rfl' z,u0⟩⟩,⟨_,z,.arr (im_flat Diff_im x124.l)⟩,⟨_,z,.arr (im_flat Reason_im x124.r)⟩,u0⟩ ⟨.rfl' z,.ptr mh,.ptr (mt mh),.ptr (mt (mt mh)),.rfl' z,.rfl' z,.ptr (mt (mt (mt mh))),.rfl' z,u0⟩) (Td [[],[],[],[2],[],[1,2,3,4],[],[],[7],[],[1,2,3,4,5,6,7,8,9],[],[],[],[13],[],[13,14,15],[13,14,15,16],[12,13,14,15,16,17],[0,1,2,3,4,5,6,7,8,9,10,11,12,13,14,15,16,17,18],[0,1,2,3,4,5,6,7,8,9,10,11,12,13,14,15,16,17,18,19]] hmix (by kernel_rfl) (Qe 2 z (Q1 z z z (Ax.index_ptr (k:=.i64) (n:=1) z arr_97 z z z (by decide) (by decide)) (Qe 2 z ?_))))
     obtain⟨x137,hc_17,h⟩:=bs h
     refine Qc z z z (args:=[.agg (Scene.cl a0),Ai x_4.a1,Ai v6]) (r:=Ai x137) (calv z z fnok_205 z) (f205_ok hc_17) z (Qe 1 z (Q1 z z z (Ax.index_ptr (k:=.i64) (n:=0) z arr_97 z z z (by decide) (by decide)) (Qe 2 z ?_)))
     obtain⟨x142,hc_18,h⟩:=bs h
     refine Qc z z z (args:=[.agg (Scene.cl a0),Ai x_4.a0,Ai v6]) (r:=Ai x142) (calv z z fnok_205 z) (f205_ok hc_18) z (Qe 5 z (Q1 z z z (Ax.ix (cl:=icl) z slc_26 z z hx) (Qe 1 z (Q1 z z z (v:=.agg (Reason.cl (⟨4,v8,x,false⟩:Reason))) (Ab_ z zer_42 (bld plc_42 zer_42) z ⟨Sub.refl _,Sub.refl _,Sub.refl _,Sub.refl _,u0⟩) ?_))))
     obtain⟨x151,hc_19,h⟩:=bs h
     refine Qo [(22930001,.arr 174 3 (x124.l.map Diff.cl)),(22930002,.arr 42 4 (x124.r.map Reason.cl))] [(2235001,.arr 174 3 (x151.l.map Diff.cl)),(2235002,.arr 42 4 (x151.r.map Reason.cl))] [2235001,2235002] z z z (args:=[.agg [.hnd 22930001,.hnd 22930002],Ai x137,Ai x142,Ai v12,.agg (Reason.cl (⟨4,v8,x,false⟩:Reason))]) (r:=.agg [.hnd 2235001,.hnd 2235002]) (calv z z fnok_222 z) (f222_fr hc_19) ⟨z,z,u0⟩ z z z z z (Qs z z (x:=some (.box [.hnd 2235001,.hnd 2235002])) (As z siz_293 z z z z z z z) (Rx ⟨by kernel_rfl,freshL_of [2235001,2235002] (by kernel_rfl) (by kernel_rfl),?_⟩))
     exact Xi (x151.l,x151.r) (An h (Ee [2,2235001,2235002,4,5] z ⟨imf Diff_im,imf Reason_im,u0⟩))
    refine Tc (b:=(y.Height==y_1.Height)) z (fun hb_9=>?_) (fun hb_9=>?_)
    ·exact Tq z ((Es [2,2235001,2235002,4,5,9] [12] z ⟨imf Diff_im,imf Reason_im,u0⟩ ⟨.imm (Sub.of_eq (show Ai v12=Ai a0.Basin.Slack by simp only [cond_true,cond_false,Bool.true_or,Bool.false_or,Bool.true_and,Bool.false_and,Bool.or_true,Bool.or_false,Bool.and_true,Bool.and_false,hv,hb_5,hb_7,hb_8,hb_9])) z,u0⟩))
    exact Tk ((Es [2,2235001,2235002,4,5,9] [12] z ⟨imf Diff_im,imf Reason_im,u0⟩ ⟨.imm (Sub.of_eq (show Ai v12=Ai 0 by simp only [cond_true,cond_false,Bool.true_or,Bool.false_or,Bool.true_and,Bool.false_and,Bool.or_true,Bool.or_false,Bool.and_true,Bool.and_false,hv,hb_5,hb_7,hb_8,hb_9])) z,u0⟩))
   exact(lt_t hi_4 hb_7).elim
  ·rintro v7 ⟨voo4_0_6,voo4_1_6⟩ hi_3 h
   refine Ts (Tr (Qe 3 z (Q1 z z z (Ax.ln (cl:=Cell.cl) z slc_22 z) (Qd z (Tc (b:=(decide (v7 < (a0.Basin.Cells.length:Int)))) z (fun hb_10=>?_) (fun hb_10=>?_))))))
   ·exact(lt_f hi_3 hb_10).elim
   exact Tri.exit (Xi (voo4_0_6,voo4_1_6) (An h (Ee [2,900000400,901000401,4,5] z ⟨imf Diff_im,imf Reason_im,u0⟩)))
  rintro nx_3 x_3 v7 ⟨voo4_0_6,voo4_1_6⟩ _ hi_3 hw_3 hx_3 h
  refine Ts (Tr (Qe 3 z (Q1 z z z (Ax.ln (cl:=Cell.cl) z slc_22 z) (Qd z (Tc (b:=(decide (v7 < (a0.Basin.Cells.length:Int)))) z (fun hb_11=>?_) (fun hb_11=>?_))))))
  ·refine Tk (Ts (Tri.block (Ts (Tn (Ent.norm [] [(2,2,.box (Net.cl (⟨0,([]:List Diff)⟩:Net))),(4,4,.box [.hnd 22930001,.hnd 22930002]),(5,5,.box (Basin.cl a0.Basin)),(22930001,900000400,.arr 174 3 (voo4_0_6.map Diff.cl)),(22930002,901000401,.arr 42 4 (voo4_1_6.map Reason.cl))] [(1,.ipt (Scene.cl a0) 0),(2,.ptr 2 0),(4,.ptr 4 0),(5,.ptr 5 0),(6,Ai v6),(7,Ai v7)] z ⟨⟨_,z,.boxV ⟨.rfl' z,.rfl' z,u0⟩⟩,⟨_,z,.boxV ⟨.hnd (mt (mt (mt mh))),.hnd (mt (mt (mt (mt mh)))),u0⟩⟩,⟨_,z,.boxV ⟨.rfl' z,.rfl' z,.rfl' z,.rfl' z,.rfl' z,u0⟩⟩,⟨_,z,.arr (im_flat Diff_im voo4_0_6)⟩,⟨_,z,.arr (im_flat Reason_im voo4_1_6)⟩,u0⟩ ⟨.rfl' z,.ptr mh,.ptr (mt mh),.ptr (mt (mt mh)),.rfl' z,.rfl' z,u0⟩) (Td [[],[],[],[],[1,2,3],[],[5],[],[7],[],[7,8,9],[7,8,9,10],[7,8,9,10,11],[],[13],[],[13,14,15],[13,14,15,16],[7,8,9,10,11,12,13,14,15,16,17],[0,1,2,3,4,5,6,7,8,9,10,11,12,13,14,15,16,17,18],[0,1,2,3,4,5,6,7,8,9,10,11,12,13,14,15,16,17,18,19]] hmix (by kernel_rfl) (Qe 4 z ?_))))))
   obtain⟨x41,hc_20,h⟩:=bs h
   refine Qc z z z (args:=[.agg (Scene.cl a0),Ai v7,Ai v6]) (r:=Ai x41) (calv z z fnok_205 z) (f205_ok hc_20) z (Qe 5 z (Q1 z z z (Ax.ix (cl:=Cell.cl) z slc_22 z z hx_3) (Qe 5 z (Q1 z z z (Ax.ix (cl:=icl) z slc_26 z z hx) (Qe 1 z (Q1 z z z (v:=.agg (Reason.cl (⟨1,x_3.No,x,false⟩:Reason))) (Ab_ z zer_42 (bld plc_42 zer_42) z ⟨Sub.refl _,Sub.refl _,Sub.refl _,Sub.refl _,u0⟩) ?_))))))
   obtain⟨x56,hc_21,h⟩:=bs h
   refine Qo [(22930001,.arr 174 3 (voo4_0_6.map Diff.cl)),(22930002,.arr 42 4 (voo4_1_6.map Reason.cl))] [(2235001,.arr 174 3 (x56.l.map Diff.cl)),(2235002,.arr 42 4 (x56.r.map Reason.cl))] [2235001,2235002] z z z (args:=[.agg [.hnd 22930001,.hnd 22930002],Ai 0,Ai x41,Ai a0.Basin.Deep,.agg (Reason.cl (⟨1,x_3.No,x,false⟩:Reason))]) (r:=.agg [.hnd 2235001,.hnd 2235002]) (calv z z fnok_222 z) (f222_fr hc_21) ⟨z,z,u0⟩ z z z z z (Qs z z (x:=some (.box [.hnd 2235001,.hnd 2235002])) (As z siz_293 z z z z z z z) (Rx ⟨by kernel_rfl,freshL_of [2235001,2235002] (by kernel_rfl) (by kernel_rfl),?_⟩))
   refine Tn (Ent.norm [] [(2,2,.box (Net.cl (⟨0,([]:List Diff)⟩:Net))),(4,4,.box [.hnd 22930001,.hnd 22930002]),(5,5,.box (Basin.cl a0.Basin)),(22930001,2235001,.arr 174 3 (x56.l.map Diff.cl)),(22930002,2235002,.arr 42 4 (x56.r.map Reason.cl))] [(1,.ipt (Scene.cl a0) 0),(2,.ptr 2 0),(4,.ptr 4 0),(5,.ptr 5 0),(6,Ai v6),(7,Ai v7)] z ⟨⟨_,z,.boxV ⟨.rfl' z,.rfl' z,u0⟩⟩,⟨_,z,.boxV ⟨.hnd (mt (mt (mt mh))),.hnd (mt (mt (mt (mt mh)))),u0⟩⟩,⟨_,z,.boxV ⟨.rfl' z,.rfl' z,.rfl' z,.rfl' z,.rfl' z,u0⟩⟩,⟨_,z,.arr (im_flat Diff_im x56.l)⟩,⟨_,z,.arr (im_flat Reason_im x56.r)⟩,u0⟩ ⟨.rfl' z,.ptr mh,.ptr (mt mh),.ptr (mt (mt mh)),.rfl' z,.rfl' z,u0⟩) (Td [[],[],[],[],[1,2,3],[],[5],[],[5,6,7],[5,6,7,8],[5,6,7,8,9],[],[11],[],[11,12,13],[11,12,13,14],[5,6,7,8,9,10,11,12,13,14,15],[0,1,2,3,4,5,6,7,8,9,10,11,12,13,14,15,16],[0,1,2,3,4,5,6,7,8,9,10,11,12,13,14,15,16,17]] hmix (by kernel_rfl) (Qe 4 z ?_))
   obtain⟨x61,hc_22,h⟩:=bs h
   refine Qc z z z (args:=[.agg (Scene.cl a0),Ai v7,Ai v6]) (r:=Ai x61) (calv z z fnok_205 z) (f205_ok hc_22) z (Qe 3 z (Q1 z z z (Ax.ix (cl:=Cell.cl) z slc_22 z z hx_3) (Qe 5 z (Q1 z z z (Ax.ix (cl:=icl) z slc_26 z z hx) (Qe 1 z (Q1 z z z (v:=.agg (Reason.cl (⟨2,x_3.No,x,false⟩:Reason))) (Ab_ z zer_42 (bld plc_42 zer_42) z ⟨Sub.refl _,Sub.refl _,Sub.refl _,Sub.refl _,u0⟩) ?_))))))
   obtain⟨x74,hc_23,h⟩:=bs h
   refine Qo [(22930001,.arr 174 3 (x56.l.map Diff.cl)),(22930002,.arr 42 4 (x56.r.map Reason.cl))] [(2235001,.arr 174 3 (x74.l.map Diff.cl)),(2235002,.arr 42 4 (x74.r.map Reason.cl))] [2235001,2235002] z z z (args:=[.agg [.hnd 22930001,.hnd 22930002],Ai x61,Ai 0,Ai 0,.agg (Reason.cl (⟨2,x_3.No,x,false⟩:Reason))]) (r:=.agg [.hnd 2235001,.hnd 2235002]) (calv z z fnok_222 z) (f222_fr hc_23) ⟨z,z,u0⟩ z z z z z (Qs z z (x:=some (.box [.hnd 2235001,.hnd 2235002])) (As z siz_293 z z z z z z z) (Rx ⟨by kernel_rfl,freshL_of [2235001,2235002] (by kernel_rfl) (by kernel_rfl),?_⟩))
   exact Tq z (Xi (v7+1,(x74.l,x74.r)) (An (An z h) (Es [2,2235001,2235002,4,5] [7] z ⟨imf Diff_im,imf Reason_im,u0⟩ ⟨.imm (Sub.of_eq (show Ai (v7+1)=Ai (W (v7+1)) from congrArg Ai hw_3.symm)) z,u0⟩)))
  exact(lt_t hi_3 hb_11).elim
 exact(lt_t hi hb_5).elim
theorem f230_ok {K:Nat} {a0:Net} {a1:List Bool} {r:List Int × List Bool × Bool} (h:f230 K a0 a1=some r):CallOK Tryz.prog 230 [.agg (Net.cl a0),.lst 1 (a1.map bcl)] [] (.tup [.lst 1 (r.1.map icl),.lst 1 (r.2.1.map bcl),Ab r.2.2]) []:=by
 refine Co Tryz.func230 z z (nl z) ?_
 unfold f230 at h
 refine Tr (Qe 1 z (Qn z z z (v:=.hnd 4) (x:=some (.arr 3 1 (([]:List Int).map icl))) (Ax.nil_new 3 1 (.inr z) z) z z z z z (Qn z z z (v:=.hnd 5) (x:=some (.arr 4 1 (([]:List Bool).map bcl))) (Ax.nil_new 4 1 (.inr z) z) z z z z z (Qd z (Ts (Tp z ?_))))))
 obtain⟨⟨vo4_1,vo5_1⟩,hj,h⟩:=bs h
 refine Tri.rngNv hj (fun p=>⟨[(1,.lst 1 (a1.map bcl)),(2,.ipt (Net.cl a0) 0),(4,.hnd 4),(5,.hnd 5),(7,Ai p.1)],[(4,some (.arr 3 1 (p.2.1.map icl))),(5,some (.arr 4 1 (p.2.2.map bcl)))]⟩) (fun(y:List Int × List Bool)=>⟨[(2,.ipt (Net.cl a0) 0),(4,.hnd 4),(5,.hnd 5)],[(4,some (.arr 3 1 (y.1.map icl))),(5,some (.arr 4 1 (y.2.map bcl)))]⟩) (Ee [4,5] z ⟨im_flat icl_im ([]:List Int),im_flat bcl_im ([]:List Bool),u0⟩) ?_ ?_ ?_
 ·refine Ts (Tp z ?_)
  obtain⟨j_1,hj_1,h⟩:=jo h
  refine Tri.whl h (fun p=>⟨[(2,.ipt (Net.cl a0) 0),(4,.hnd 4),(5,.hnd 5),(8,Ai p.2.2)],[(4,some (.arr 3 1 (p.1.map icl))),(5,some (.arr 4 1 (p.2.1.map bcl)))]⟩) (fun y=>j_1 y=some r) (fun(y:List Int × List Bool)=>⟨[(4,.hnd 4),(5,.hnd 5)],[(4,some (.arr 3 1 (y.1.map icl))),(5,some (.arr 4 1 (y.2.map bcl)))]⟩) (Ee [4,5] z ⟨imf icl_im,imf bcl_im,u0⟩) ?_ ?_
  ·rintro⟨vo4_3,vo5_3⟩ h
   subst hj_1
   refine Tp z (Te ?_)
   refine RetQ.eq2 (fun r=>.tup [.lst 1 (r.1.map icl),.lst 1 (r.2.1.map bcl),Ab r.2.2]) (fun r=>[]) (Option.some.inj h) ?_
   exact RetQ.mk (vs:=[.hnd 4,.hnd 5,Ab false]) (.inr z) ⟨_,_,z,.tmp z,⟨_,_,z,.tmp z,⟨_,_,z,.tmp z,z⟩⟩⟩ [4,5] [] z z u0 (.tupV ⟨.frz (.hnd mh z (im_flat icl_im vo4_3)) z,.frz (.hnd (mt mh) z (im_flat bcl_im vo5_3)) z,.rfl' z,u0⟩)
  rintro nx_1 ⟨vo4_2,vo5_2,v8⟩ h
  refine Ts (Tp z (Tc (b:=(decide (v8≤a0.Nodes))) z (fun hb=>?_) (fun hb=>?_)))
  ·have h:=cq hb h
   refine Tk (Ts (Tri.block (Tp z (Ts (Tp z ?_)))))
   obtain⟨⟨vo4_5,vo5_5,v9_1⟩,hj_2,h⟩:=bs h
   refine Tri.rngLv hj_2 (fun p=>⟨[(2,.ipt (Net.cl a0) 0),(4,.hnd 4),(5,.hnd 5),(8,Ai v8),(9,Ab p.2.2.2),(10,Ai p.1)],[(4,some (.arr 3 1 (p.2.1.map icl))),(5,some (.arr 4 1 (p.2.2.1.map bcl)))]⟩) (fun(y:List Int × List Bool × Bool)=>⟨[(2,.ipt (Net.cl a0) 0),(4,.hnd 4),(5,.hnd 5),(8,Ai v8),(9,Ab y.2.2)],[(4,some (.arr 3 1 (y.1.map icl))),(5,some (.arr 4 1 (y.2.1.map bcl)))]⟩) (Ee [4,5] z ⟨imf icl_im,imf bcl_im,u0⟩) ?_ ?_ ?_
   ·refine Tp z (Tc (b:=(!v9_1)) z (fun hb_1=>?_) (fun hb_1=>?_))
    ·have h:=cq hb_1 h
     refine Tp z (Te ?_)
     refine RetQ.eq2 (fun r=>.tup [.lst 1 (r.1.map icl),.lst 1 (r.2.1.map bcl),Ab r.2.2]) (fun r=>[]) (Option.some.inj h) ?_
     exact RetQ.mk (vs:=[.hnd 4,.hnd 5,Ab true]) (.inr z) ⟨_,_,z,.tmp z,⟨_,_,z,.tmp z,⟨_,_,z,.tmp z,z⟩⟩⟩ [4,5] [] z z u0 (.tupV ⟨.frz (.hnd mh z (im_flat icl_im vo4_5)) z,.frz (.hnd (mt mh) z (im_flat bcl_im vo5_5)) z,.rfl' z,u0⟩)
    have h:=cw hb_1 h
    exact Tk (Tq z (Xi (vo4_5,vo5_5,(W (v8+1))) (An h (Ee [4,5] z ⟨imf icl_im,imf bcl_im,u0⟩))))
   ·rintro v10 ⟨vo4_4,vo5_4,v9⟩ hi_2 h
    refine Ts (Tr (Qe 3 z (Q1 z z z (Ax.ln (cl:=Diff.cl) z slc_32 z) (Qd z (Tc (b:=(decide (v10 < (a0.Diffs.length:Int)))) z (fun hb_2=>?_) (fun hb_2=>?_))))))
    ·exact(lt_f hi_2 hb_2).elim
    exact Tri.exit (Xi (vo4_4,vo5_4,v9) (An h (Ee [4,5] z ⟨imf icl_im,imf bcl_im,u0⟩)))
   rintro nx_2 x v10 ⟨vo4_4,vo5_4,v9⟩ _ hi_2 hw_2 hx h
   refine Ts (Tr (Qe 3 z (Q1 z z z (Ax.ln (cl:=Diff.cl) z slc_32 z) (Qd z (Tc (b:=(decide (v10 < (a0.Diffs.length:Int)))) z (fun hb_3=>?_) (fun hb_3=>?_))))))
   ·refine Tk (Ts (Tri.block (Tr (Qe 3 z (Q1 z z z (Ax.ix (cl:=Diff.cl) z slc_32 z z hx) (Qe 1 z (Qn z z z (v:=.ptr 11 0) (x:=some (.box (Diff.cl (⟨0,0,0⟩:Diff)))) (Al_ z z zer_174 z ⟨Sub.refl _,Sub.refl _,Sub.refl _,u0⟩) z z z z z (Qs z z (x:=some (.box (Diff.cl x))) (As z siz_174 z z z z z z z) (Rx (Ts ?_))))))))))
    obtain⟨v74,hj_4,h⟩:=bs h
    refine Tri.joinv v74 (fun(y:Bool)=>⟨[(2,.ipt (Net.cl a0) 0),(4,.hnd 4),(5,.hnd 5),(8,Ai v8),(9,Ab v9),(10,Ai v10),(11,.ptr 11 0),(74,Ab y)],[(4,some (.arr 3 1 (vo4_4.map icl))),(5,some (.arr 4 1 (vo5_4.map bcl))),(11,some (.box (Diff.cl x)))]⟩) ?_ ?_
    ·obtain⟨⟨vo4_6,vo5_6,v9_2⟩,hj_3,h⟩:=bs h
     refine Tri.joinv (vo4_6,vo5_6,v9_2) (fun(y:List Int × List Bool × Bool)=>⟨[(2,.ipt (Net.cl a0) 0),(4,.hnd 4),(5,.hnd 5),(8,Ai v8),(9,Ab y.2.2),(10,Ai v10)],[(4,some (.arr 3 1 (y.1.map icl))),(5,some (.arr 4 1 (y.2.1.map bcl)))]⟩) ?_ ?_
     ·exact Tq z (Xi (v10+1,(vo4_6,vo5_6,v9_2)) (An (An z h) (Es [4,5] [10] z ⟨imf icl_im,imf bcl_im,u0⟩ ⟨.imm (Sub.of_eq (show Ai (v10+1)=Ai (W (v10+1)) from congrArg Ai hw_2.symm)) z,u0⟩)))
     have h:=hj_3
     refine Tc (b:=v74) z (fun hb_4=>?_) (fun hb_4=>?_)
     ·have h:=cq hb_4 h
      refine Ts (Td [[],[],[1],[],[],[4],[3,4,5],[3,4,5,6],[],[8],[3,4,5,6,7,8,9],[0,1,2,3,4,5,6,7,8,9,10],[0,1,2,3,4,5,6,7,8,9,10,11]] hmix (by kernel_rfl) (Qe 6 z ?_))
      obtain⟨y,hy,h⟩:=bs h
      refine Q1 z z z (Ax.ixh (cl:=icl) z slc_26 z z z hy) (Q1 z z z (Ax.l1_arr (cl:=icl) z siz_3 z z hy z) (Qe 3 z ?_))
      obtain⟨y_1,hy_1,h⟩:=bs h
      refine Q1 z z z (Ax.ixh (cl:=icl) z slc_26 z z z hy_1) (Qs z z (x:=some (.arr 3 1 ((vo4_4.set (Int.toNat x.To) (W (y+x.Most))).map icl))) (Ax.st_arr (cl:=icl) (q:=(W (y+x.Most))) z siz_3 z z hy_1 z z z z z z) (Rx ⟨by kernel_rfl,freshL_of [] (by kernel_rfl) (by kernel_rfl),?_⟩))
      refine Tr (Qe 3 z ?_)
      obtain⟨y_2,hy_2,h⟩:=bs h
      exact Q1 z z z (Ax.ixh (cl:=bcl) z slc_191 z z z hy_2) (Qs z z (x:=some (.arr 4 1 ((vo5_4.set (Int.toNat x.To) true).map bcl))) (Ax.st_arr (cl:=bcl) (q:=true) z siz_4 z z hy_2 z z z z z z) (Rx (Tq z (Xi ((vo4_4.set (Int.toNat x.To) (W (y+x.Most))),(vo5_4.set (Int.toNat x.To) true),true) (An h (Ee [4,5] z ⟨imf icl_im,imf bcl_im,u0⟩))))))
     have h:=cw hb_4 h
     exact Tk (Xi (vo4_4,vo5_4,v9) (An h (Ee [4,5] z ⟨imf icl_im,imf bcl_im,u0⟩)))
    have h:=hj_4
    refine Td [] hmix (by kernel_rfl) (Qe 3 z ?_)
    obtain⟨y_3,hy_3,h⟩:=bs h
    refine Q1 z z z (Ax.ixh (cl:=bcl) z slc_191 z z z hy_3) (Q1 z z z (Ax.l1_arr (cl:=bcl) z siz_4 z z hy_3 z) (Qe 1 z ?_))
    rcases b2 y_3 with hb_5 | hb_5
    ·have h:=cq hb_5 h
     refine Qk 51 hb_5 z (Qe 3 z ?_)
     obtain⟨y_4,hy_4,h⟩:=bs h
     refine Q1 z z z (Ax.ixh (cl:=bcl) z slc_191 z z z hy_4) (Q1 z z z (Ax.l1_arr (cl:=bcl) z siz_4 z z hy_4 z) (Qe 2 z ?_))
     rcases b2 (!y_4) with hb_6 | hb_6
     ·have h:=cq hb_6 h
      refine Qk 58 hb_6 z (Qe 16 z (Rx ⟨by kernel_rfl,freshL_of [] (by kernel_rfl) (by kernel_rfl),?_⟩))
      exact Xi true (An h (Ee [4,5,11] z ⟨imf icl_im,imf bcl_im,u0⟩))
     have h:=cw hb_6 h
     refine Qk 58 hb_6 z (Qe 3 z ?_)
     obtain⟨y_5,hy_5,h⟩:=bs h
     refine Q1 z z z (Ax.ixh (cl:=icl) z slc_26 z z z hy_5) (Q1 z z z (Ax.l1_arr (cl:=icl) z siz_3 z z hy_5 z) (Qe 6 z ?_))
     obtain⟨y_6,hy_6,h⟩:=bs h
     refine Q1 z z z (Ax.ixh (cl:=icl) z slc_26 z z z hy_6) (Q1 z z z (Ax.l1_arr (cl:=icl) z siz_3 z z hy_6 z) (Qe 3 z (Rx ⟨by kernel_rfl,freshL_of [] (by kernel_rfl) (by kernel_rfl),?_⟩)))
     exact Xi (decide ((W (y_5+x.Most)) < y_6)) (An h (Ee [4,5,11] z ⟨imf icl_im,imf bcl_im,u0⟩))
    have h:=cw hb_5 h
    refine Qk 51 hb_5 z (Qe 23 z (Rx ⟨by kernel_rfl,freshL_of [] (by kernel_rfl) (by kernel_rfl),?_⟩))
    exact Xi false (An h (Ee [4,5,11] z ⟨imf icl_im,imf bcl_im,u0⟩))
   exact(lt_t hi_2 hb_3).elim
  have h:=cw hb h
  exact Tri.exit (Xi (vo4_2,vo5_2) (An h (Ee [4,5] z ⟨imf icl_im,imf bcl_im,u0⟩)))
 ·rintro v7 ⟨vo4,vo5⟩ hi _ h
  refine Ts (Tp z (Tc (b:=(decide (v7 < a0.Nodes))) z (fun hb_7=>?_) (fun hb_7=>?_)))
  ·exact(lt_f hi hb_7).elim
  exact Tri.exit (Xi (vo4,vo5) (An h (Ee [4,5] z ⟨imf icl_im,imf bcl_im,u0⟩)))
 rintro nx v7 ⟨vo4,vo5⟩ _ hi hw h
 refine Ts (Tp z (Tc (b:=(decide (v7 < a0.Nodes))) z (fun hb_8=>?_) (fun hb_8=>?_)))
 ·refine Tk (Ts (Tri.block (Tr (Qe 1 z (Q1 z z z (v:=.lst 1 (([0]:List Int).map icl)) (Ax.sl (xs:=([0]:List Int)) z slc_26 z z ⟨Sub.refl _,u0⟩ z icl_len icl_one icl_im) ?_)))))
  obtain⟨z20,hz,h⟩:=bs h
  refine Qa z z z (v:=.hnd 20) (x:=some (.arr 3 1 (z20.map icl))) (Ax.app_l (cl:=icl) z z slc_26 z z z icl_one icl_im hz z z) z z z z z (Qd z (Tri.region (Qe 3 z ?_)))
  obtain⟨y_7,hy_7,h⟩:=bs h
  refine Q1 z z z (Ax.ix (cl:=bcl) z slc_191 z z hy_7) (Qe 1 z (Q1 z z z (v:=.lst 1 (([y_7]:List Bool).map bcl)) (Ax.sl (xs:=([y_7]:List Bool)) z slc_191 z z ⟨Sub.refl _,u0⟩ z bcl_len bcl_one bcl_im) ?_))
  obtain⟨z27,hz_1,h⟩:=bs h
  exact Qa z z z (v:=.hnd 27) (x:=some (.arr 4 1 (z27.map bcl))) (Ax.app_l (cl:=bcl) z z slc_191 z z z bcl_one bcl_im hz_1 z z) z z z z z (Qd z (Tq z (Xi (v7+1,(z20,z27)) (An (An z h) (Es [20,27] [7] z ⟨imf icl_im,imf bcl_im,u0⟩ ⟨.imm (Sub.of_eq (show Ai (v7+1)=Ai (W (v7+1)) from congrArg Ai hw.symm)) z,u0⟩)))))
 exact(lt_t hi hb_8).elim
theorem f230_fr {K:Nat} {a0:Net} {a1:List Bool} {r:List Int × List Bool × Bool} (h:f230 K a0 a1=some r):CallOK Tryz.prog 230 [.agg (Net.cl a0),.lst 1 (a1.map bcl)] [] (.tup [.hnd 2315000,.hnd 2315100,Ab r.2.2]) [(2315000,.arr 3 1 (r.1.map icl)),(2315100,.arr 4 1 (r.2.1.map bcl))]:=by
 refine Co Tryz.func230 z z (nl z) ?_
 unfold f230 at h
 refine Tr (Qe 1 z (Qn z z z (v:=.hnd 4) (x:=some (.arr 3 1 (([]:List Int).map icl))) (Ax.nil_new 3 1 (.inr z) z) z z z z z (Qn z z z (v:=.hnd 5) (x:=some (.arr 4 1 (([]:List Bool).map bcl))) (Ax.nil_new 4 1 (.inr z) z) z z z z z (Qd z (Ts (Tp z ?_))))))
 obtain⟨⟨vo4_1,vo5_1⟩,hj,h⟩:=bs h
 refine Tri.rngNv hj (fun p=>⟨[(1,.lst 1 (a1.map bcl)),(2,.ipt (Net.cl a0) 0),(4,.hnd 4),(5,.hnd 5),(7,Ai p.1)],[(4,some (.arr 3 1 (p.2.1.map icl))),(5,some (.arr 4 1 (p.2.2.map bcl)))]⟩) (fun(y:List Int × List Bool)=>⟨[(2,.ipt (Net.cl a0) 0),(4,.hnd 4),(5,.hnd 5)],[(4,some (.arr 3 1 (y.1.map icl))),(5,some (.arr 4 1 (y.2.map bcl)))]⟩) (Ee [4,5] z ⟨im_flat icl_im ([]:List Int),im_flat bcl_im ([]:List Bool),u0⟩) ?_ ?_ ?_
 ·refine Ts (Tp z ?_)
  obtain⟨j_1,hj_1,h⟩:=jo h
  refine Tri.whl h (fun p=>⟨[(2,.ipt (Net.cl a0) 0),(4,.hnd 4),(5,.hnd 5),(8,Ai p.2.2)],[(4,some (.arr 3 1 (p.1.map icl))),(5,some (.arr 4 1 (p.2.1.map bcl)))]⟩) (fun y=>j_1 y=some r) (fun(y:List Int × List Bool)=>⟨[(4,.hnd 4),(5,.hnd 5)],[(4,some (.arr 3 1 (y.1.map icl))),(5,some (.arr 4 1 (y.2.map bcl)))]⟩) (Ee [4,5] z ⟨imf icl_im,imf bcl_im,u0⟩) ?_ ?_
  ·rintro⟨vo4_3,vo5_3⟩ h
   subst hj_1
   refine Tp z (Te ?_)
   refine Rr (fun r=>.tup [.hnd 2315000,.hnd 2315100,Ab r.2.2]) (fun r=>[(2315000,.arr 3 1 (r.1.map icl)),(2315100,.arr 4 1 (r.2.1.map bcl))]) [4,5] h ?_ ?_
   ·rfl
   exact⟨imf icl_im,imf bcl_im,u0⟩
  rintro nx_1 ⟨vo4_2,vo5_2,v8⟩ h
  refine Ts (Tp z (Tc (b:=(decide (v8≤a0.Nodes))) z (fun hb=>?_) (fun hb=>?_)))
  ·have h:=cq hb h
   refine Tk (Ts (Tri.block (Tp z (Ts (Tp z ?_)))))
   obtain⟨⟨vo4_5,vo5_5,v9_1⟩,hj_2,h⟩:=bs h
   refine Tri.rngLv hj_2 (fun p=>⟨[(2,.ipt (Net.cl a0) 0),(4,.hnd 4),(5,.hnd 5),(8,Ai v8),(9,Ab p.2.2.2),(10,Ai p.1)],[(4,some (.arr 3 1 (p.2.1.map icl))),(5,some (.arr 4 1 (p.2.2.1.map bcl)))]⟩) (fun(y:List Int × List Bool × Bool)=>⟨[(2,.ipt (Net.cl a0) 0),(4,.hnd 4),(5,.hnd 5),(8,Ai v8),(9,Ab y.2.2)],[(4,some (.arr 3 1 (y.1.map icl))),(5,some (.arr 4 1 (y.2.1.map bcl)))]⟩) (Ee [4,5] z ⟨imf icl_im,imf bcl_im,u0⟩) ?_ ?_ ?_
   ·refine Tp z (Tc (b:=(!v9_1)) z (fun hb_1=>?_) (fun hb_1=>?_))
    ·have h:=cq hb_1 h
     refine Tp z (Te ?_)
     refine Rr (fun r=>.tup [.hnd 2315000,.hnd 2315100,Ab r.2.2]) (fun r=>[(2315000,.arr 3 1 (r.1.map icl)),(2315100,.arr 4 1 (r.2.1.map bcl))]) [4,5] h ?_ ?_
     ·rfl
     exact⟨imf icl_im,imf bcl_im,u0⟩
    have h:=cw hb_1 h
    exact Tk (Tq z (Xi (vo4_5,vo5_5,(W (v8+1))) (An h (Ee [4,5] z ⟨imf icl_im,imf bcl_im,u0⟩))))
   ·rintro v10 ⟨vo4_4,vo5_4,v9⟩ hi_2 h
    refine Ts (Tr (Qe 3 z (Q1 z z z (Ax.ln (cl:=Diff.cl) z slc_32 z) (Qd z (Tc (b:=(decide (v10 < (a0.Diffs.length:Int)))) z (fun hb_2=>?_) (fun hb_2=>?_))))))
    ·exact(lt_f hi_2 hb_2).elim
    exact Tri.exit (Xi (vo4_4,vo5_4,v9) (An h (Ee [4,5] z ⟨imf icl_im,imf bcl_im,u0⟩)))
   rintro nx_2 x v10 ⟨vo4_4,vo5_4,v9⟩ _ hi_2 hw_2 hx h
   refine Ts (Tr (Qe 3 z (Q1 z z z (Ax.ln (cl:=Diff.cl) z slc_32 z) (Qd z (Tc (b:=(decide (v10 < (a0.Diffs.length:Int)))) z (fun hb_3=>?_) (fun hb_3=>?_))))))
   ·refine Tk (Ts (Tri.block (Tr (Qe 3 z (Q1 z z z (Ax.ix (cl:=Diff.cl) z slc_32 z z hx) (Qe 1 z (Qn z z z (v:=.ptr 11 0) (x:=some (.box (Diff.cl (⟨0,0,0⟩:Diff)))) (Al_ z z zer_174 z ⟨Sub.refl _,Sub.refl _,Sub.refl _,u0⟩) z z z z z (Qs z z (x:=some (.box (Diff.cl x))) (As z siz_174 z z z z z z z) (Rx (Ts ?_))))))))))
    obtain⟨v74,hj_4,h⟩:=bs h
    refine Tri.joinv v74 (fun(y:Bool)=>⟨[(2,.ipt (Net.cl a0) 0),(4,.hnd 4),(5,.hnd 5),(8,Ai v8),(9,Ab v9),(10,Ai v10),(11,.ptr 11 0),(74,Ab y)],[(4,some (.arr 3 1 (vo4_4.map icl))),(5,some (.arr 4 1 (vo5_4.map bcl))),(11,some (.box (Diff.cl x)))]⟩) ?_ ?_
    ·obtain⟨⟨vo4_6,vo5_6,v9_2⟩,hj_3,h⟩:=bs h
     refine Tri.joinv (vo4_6,vo5_6,v9_2) (fun(y:List Int × List Bool × Bool)=>⟨[(2,.ipt (Net.cl a0) 0),(4,.hnd 4),(5,.hnd 5),(8,Ai v8),(9,Ab y.2.2),(10,Ai v10)],[(4,some (.arr 3 1 (y.1.map icl))),(5,some (.arr 4 1 (y.2.1.map bcl)))]⟩) ?_ ?_
     ·exact Tq z (Xi (v10+1,(vo4_6,vo5_6,v9_2)) (An (An z h) (Es [4,5] [10] z ⟨imf icl_im,imf bcl_im,u0⟩ ⟨.imm (Sub.of_eq (show Ai (v10+1)=Ai (W (v10+1)) from congrArg Ai hw_2.symm)) z,u0⟩)))
     have h:=hj_3
     refine Tc (b:=v74) z (fun hb_4=>?_) (fun hb_4=>?_)
     ·have h:=cq hb_4 h
      refine Ts (Td [[],[],[1],[],[],[4],[3,4,5],[3,4,5,6],[],[8],[3,4,5,6,7,8,9],[0,1,2,3,4,5,6,7,8,9,10],[0,1,2,3,4,5,6,7,8,9,10,11]] hmix (by kernel_rfl) (Qe 6 z ?_))
      obtain⟨y,hy,h⟩:=bs h
      refine Q1 z z z (Ax.ixh (cl:=icl) z slc_26 z z z hy) (Q1 z z z (Ax.l1_arr (cl:=icl) z siz_3 z z hy z) (Qe 3 z ?_))
      obtain⟨y_1,hy_1,h⟩:=bs h
      refine Q1 z z z (Ax.ixh (cl:=icl) z slc_26 z z z hy_1) (Qs z z (x:=some (.arr 3 1 ((vo4_4.set (Int.toNat x.To) (W (y+x.Most))).map icl))) (Ax.st_arr (cl:=icl) (q:=(W (y+x.Most))) z siz_3 z z hy_1 z z z z z z) (Rx ⟨by kernel_rfl,freshL_of [] (by kernel_rfl) (by kernel_rfl),?_⟩))
      refine Tr (Qe 3 z ?_)
      obtain⟨y_2,hy_2,h⟩:=bs h
      exact Q1 z z z (Ax.ixh (cl:=bcl) z slc_191 z z z hy_2) (Qs z z (x:=some (.arr 4 1 ((vo5_4.set (Int.toNat x.To) true).map bcl))) (Ax.st_arr (cl:=bcl) (q:=true) z siz_4 z z hy_2 z z z z z z) (Rx (Tq z (Xi ((vo4_4.set (Int.toNat x.To) (W (y+x.Most))),(vo5_4.set (Int.toNat x.To) true),true) (An h (Ee [4,5] z ⟨imf icl_im,imf bcl_im,u0⟩))))))
     have h:=cw hb_4 h
     exact Tk (Xi (vo4_4,vo5_4,v9) (An h (Ee [4,5] z ⟨imf icl_im,imf bcl_im,u0⟩)))
    have h:=hj_4
    refine Td [] hmix (by kernel_rfl) (Qe 3 z ?_)
    obtain⟨y_3,hy_3,h⟩:=bs h
    refine Q1 z z z (Ax.ixh (cl:=bcl) z slc_191 z z z hy_3) (Q1 z z z (Ax.l1_arr (cl:=bcl) z siz_4 z z hy_3 z) (Qe 1 z ?_))
    rcases b2 y_3 with hb_5 | hb_5
    ·have h:=cq hb_5 h
     refine Qk 51 hb_5 z (Qe 3 z ?_)
     obtain⟨y_4,hy_4,h⟩:=bs h
     refine Q1 z z z (Ax.ixh (cl:=bcl) z slc_191 z z z hy_4) (Q1 z z z (Ax.l1_arr (cl:=bcl) z siz_4 z z hy_4 z) (Qe 2 z ?_))
     rcases b2 (!y_4) with hb_6 | hb_6
     ·have h:=cq hb_6 h
      refine Qk 58 hb_6 z (Qe 16 z (Rx ⟨by kernel_rfl,freshL_of [] (by kernel_rfl) (by kernel_rfl),?_⟩))
      exact Xi true (An h (Ee [4,5,11] z ⟨imf icl_im,imf bcl_im,u0⟩))
     have h:=cw hb_6 h
     refine Qk 58 hb_6 z (Qe 3 z ?_)
     obtain⟨y_5,hy_5,h⟩:=bs h
     refine Q1 z z z (Ax.ixh (cl:=icl) z slc_26 z z z hy_5) (Q1 z z z (Ax.l1_arr (cl:=icl) z siz_3 z z hy_5 z) (Qe 6 z ?_))
     obtain⟨y_6,hy_6,h⟩:=bs h
     refine Q1 z z z (Ax.ixh (cl:=icl) z slc_26 z z z hy_6) (Q1 z z z (Ax.l1_arr (cl:=icl) z siz_3 z z hy_6 z) (Qe 3 z (Rx ⟨by kernel_rfl,freshL_of [] (by kernel_rfl) (by kernel_rfl),?_⟩)))
     exact Xi (decide ((W (y_5+x.Most)) < y_6)) (An h (Ee [4,5,11] z ⟨imf icl_im,imf bcl_im,u0⟩))
    have h:=cw hb_5 h
    refine Qk 51 hb_5 z (Qe 23 z (Rx ⟨by kernel_rfl,freshL_of [] (by kernel_rfl) (by kernel_rfl),?_⟩))
    exact Xi false (An h (Ee [4,5,11] z ⟨imf icl_im,imf bcl_im,u0⟩))
   exact(lt_t hi_2 hb_3).elim
  have h:=cw hb h
  exact Tri.exit (Xi (vo4_2,vo5_2) (An h (Ee [4,5] z ⟨imf icl_im,imf bcl_im,u0⟩)))
 ·rintro v7 ⟨vo4,vo5⟩ hi _ h
  refine Ts (Tp z (Tc (b:=(decide (v7 < a0.Nodes))) z (fun hb_7=>?_) (fun hb_7=>?_)))
  ·exact(lt_f hi hb_7).elim
  exact Tri.exit (Xi (vo4,vo5) (An h (Ee [4,5] z ⟨imf icl_im,imf bcl_im,u0⟩)))
 rintro nx v7 ⟨vo4,vo5⟩ _ hi hw h
 refine Ts (Tp z (Tc (b:=(decide (v7 < a0.Nodes))) z (fun hb_8=>?_) (fun hb_8=>?_)))
 ·refine Tk (Ts (Tri.block (Tr (Qe 1 z (Q1 z z z (v:=.lst 1 (([0]:List Int).map icl)) (Ax.sl (xs:=([0]:List Int)) z slc_26 z z ⟨Sub.refl _,u0⟩ z icl_len icl_one icl_im) ?_)))))
  obtain⟨z20,hz,h⟩:=bs h
  refine Qa z z z (v:=.hnd 20) (x:=some (.arr 3 1 (z20.map icl))) (Ax.app_l (cl:=icl) z z slc_26 z z z icl_one icl_im hz z z) z z z z z (Qd z (Tri.region (Qe 3 z ?_)))
  obtain⟨y_7,hy_7,h⟩:=bs h
  refine Q1 z z z (Ax.ix (cl:=bcl) z slc_191 z z hy_7) (Qe 1 z (Q1 z z z (v:=.lst 1 (([y_7]:List Bool).map bcl)) (Ax.sl (xs:=([y_7]:List Bool)) z slc_191 z z ⟨Sub.refl _,u0⟩ z bcl_len bcl_one bcl_im) ?_))
  obtain⟨z27,hz_1,h⟩:=bs h
  exact Qa z z z (v:=.hnd 27) (x:=some (.arr 4 1 (z27.map bcl))) (Ax.app_l (cl:=bcl) z z slc_191 z z z bcl_one bcl_im hz_1 z z) z z z z z (Qd z (Tq z (Xi (v7+1,(z20,z27)) (An (An z h) (Es [20,27] [7] z ⟨imf icl_im,imf bcl_im,u0⟩ ⟨.imm (Sub.of_eq (show Ai (v7+1)=Ai (W (v7+1)) from congrArg Ai hw.symm)) z,u0⟩)))))
 exact(lt_t hi hb_8).elim
theorem f231_ok {K:Nat} {a0:Net} {a1:Bool} {a2:Int} {r:List Bool} (h:f231 K a0 a1 a2=some r):CallOK Tryz.prog 231 [.agg (Net.cl a0),Ab a1,Ai a2] [] (.lst 1 (r.map bcl)) []:=by
 refine Co Tryz.func231 z z (nl z) ?_
 unfold f231 at h
 refine Tr (Qe 1 z (Qn z z z (v:=.hnd 6) (x:=some (.arr 4 1 (([]:List Bool).map bcl))) (Ax.nil_new 4 1 (.inr z) z) z z z z z (Rx (Tr (Qn z z z (v:=.hnd 7) (x:=some (.arr 4 1 (([]:List Bool).map bcl))) (Ax.nil_new 4 1 (.inr z) z) z z z z z (Rx (Ts (Tp z ?_))))))))
 obtain⟨vo7_1,hj,h⟩:=bs h
 refine Tri.rngNv hj (fun p=>⟨[(1,Ab a1),(2,Ai a2),(3,.ipt (Net.cl a0) 0),(7,.hnd 7),(8,Ai p.1)],[(7,some (.arr 4 1 (p.2.map bcl)))]⟩) (fun(y:List Bool)=>⟨[(7,.hnd 7)],[(7,some (.arr 4 1 (y.map bcl)))]⟩) (Ee [7] z ⟨im_flat bcl_im ([]:List Bool),u0⟩) ?_ ?_ ?_
 ·refine Tp z (Te ?_)
  refine RetQ.eq2 (fun r=>.lst 1 (r.map bcl)) (fun r=>[]) (Option.some.inj h) ?_
  exact RetQ.mk (vs:=[.hnd 7]) (.inr z) ⟨_,_,z,.tmp z,z⟩ [7] [] z z u0 (.frz (.hnd mh z (im_flat bcl_im vo7_1)) z)
 ·rintro v8 vo7 hi _ h
  refine Ts (Tp z (Tc (b:=(decide (v8 < a0.Nodes))) z (fun hb=>?_) (fun hb=>?_)))
  ·exact(lt_f hi hb).elim
  exact Tri.exit (Xi vo7 (An h (Ee [7] z ⟨imf bcl_im,u0⟩)))
 rintro nx v8 vo7 _ hi hw h
 refine Ts (Tp z (Tc (b:=(decide (v8 < a0.Nodes))) z (fun hb_1=>?_) (fun hb_1=>?_)))
 ·refine Tk (Ts (Tri.block ?_))
  obtain⟨vo7_2,hj_1,h⟩:=bs h
  refine Tri.joinv vo7_2 (fun(y:List Bool)=>⟨[(1,Ab a1),(2,Ai a2),(3,.ipt (Net.cl a0) 0),(7,.hnd 23),(8,Ai v8)],[(23,some (.arr 4 1 (y.map bcl)))]⟩) ?_ ?_
  ·exact Tq z (Xi (v8+1,vo7_2) (An (An z h) (Es [23] [8] z ⟨imf bcl_im,u0⟩ ⟨.imm (Sub.of_eq (show Ai (v8+1)=Ai (W (v8+1)) from congrArg Ai hw.symm)) z,u0⟩)))
  have h:=hj_1
  refine Tri.region (Qe 3 z ?_)
  rcases b2 a1 with hb_2 | hb_2
  ·have h:=cq hb_2 h
   refine Qk 17 hb_2 z (Qe 4 z (Q1 z z z (v:=.lst 1 (([true]:List Bool).map bcl)) (Ax.sl (xs:=([true]:List Bool)) z slc_191 z z ⟨Sub.refl _,u0⟩ z bcl_len bcl_one bcl_im) ?_))
   obtain⟨z23,hz,h⟩:=bs h
   exact Qa z z z (v:=.hnd 23) (x:=some (.arr 4 1 (z23.map bcl))) (Ax.app_l (cl:=bcl) z z slc_191 z z z bcl_one bcl_im hz z z) z z z z z (Qd z (Xi z23 (An h (Ee [23] z ⟨imf bcl_im,u0⟩))))
  have h:=cw hb_2 h
  refine Qk 17 hb_2 z (Qe 4 z (Q1 z z z (v:=.lst 1 (([(v8==a2)]:List Bool).map bcl)) (Ax.sl (xs:=([(v8==a2)]:List Bool)) z slc_191 z z ⟨Sub.refl _,u0⟩ z bcl_len bcl_one bcl_im) ?_))
  obtain⟨z23_1,hz_1,h⟩:=bs h
  exact Qa z z z (v:=.hnd 23) (x:=some (.arr 4 1 (z23_1.map bcl))) (Ax.app_l (cl:=bcl) z z slc_191 z z z bcl_one bcl_im hz_1 z z) z z z z z (Qd z (Xi z23_1 (An h (Ee [23] z ⟨imf bcl_im,u0⟩))))
 exact(lt_t hi hb_1).elim
theorem f231_fr {K:Nat} {a0:Net} {a1:Bool} {a2:Int} {r:List Bool} (h:f231 K a0 a1 a2=some r):CallOK Tryz.prog 231 [.agg (Net.cl a0),Ab a1,Ai a2] [] (.hnd 2325000) [(2325000,.arr 4 1 (r.map bcl))]:=by
 refine Co Tryz.func231 z z (nl z) ?_
 unfold f231 at h
 refine Tr (Qe 1 z (Qn z z z (v:=.hnd 6) (x:=some (.arr 4 1 (([]:List Bool).map bcl))) (Ax.nil_new 4 1 (.inr z) z) z z z z z (Rx (Tr (Qn z z z (v:=.hnd 7) (x:=some (.arr 4 1 (([]:List Bool).map bcl))) (Ax.nil_new 4 1 (.inr z) z) z z z z z (Rx (Ts (Tp z ?_))))))))
 obtain⟨vo7_1,hj,h⟩:=bs h
 refine Tri.rngNv hj (fun p=>⟨[(1,Ab a1),(2,Ai a2),(3,.ipt (Net.cl a0) 0),(7,.hnd 7),(8,Ai p.1)],[(7,some (.arr 4 1 (p.2.map bcl)))]⟩) (fun(y:List Bool)=>⟨[(7,.hnd 7)],[(7,some (.arr 4 1 (y.map bcl)))]⟩) (Ee [7] z ⟨im_flat bcl_im ([]:List Bool),u0⟩) ?_ ?_ ?_
 ·refine Tp z (Te ?_)
  refine Rr (fun r=>.hnd 2325000) (fun r=>[(2325000,.arr 4 1 (r.map bcl))]) [7] h ?_ ?_
  ·rfl
  exact⟨imf bcl_im,u0⟩
 ·rintro v8 vo7 hi _ h
  refine Ts (Tp z (Tc (b:=(decide (v8 < a0.Nodes))) z (fun hb=>?_) (fun hb=>?_)))
  ·exact(lt_f hi hb).elim
  exact Tri.exit (Xi vo7 (An h (Ee [7] z ⟨imf bcl_im,u0⟩)))
 rintro nx v8 vo7 _ hi hw h
 refine Ts (Tp z (Tc (b:=(decide (v8 < a0.Nodes))) z (fun hb_1=>?_) (fun hb_1=>?_)))
 ·refine Tk (Ts (Tri.block ?_))
  obtain⟨vo7_2,hj_1,h⟩:=bs h
  refine Tri.joinv vo7_2 (fun(y:List Bool)=>⟨[(1,Ab a1),(2,Ai a2),(3,.ipt (Net.cl a0) 0),(7,.hnd 23),(8,Ai v8)],[(23,some (.arr 4 1 (y.map bcl)))]⟩) ?_ ?_
  ·exact Tq z (Xi (v8+1,vo7_2) (An (An z h) (Es [23] [8] z ⟨imf bcl_im,u0⟩ ⟨.imm (Sub.of_eq (show Ai (v8+1)=Ai (W (v8+1)) from congrArg Ai hw.symm)) z,u0⟩)))
  have h:=hj_1
  refine Tri.region (Qe 3 z ?_)
  rcases b2 a1 with hb_2 | hb_2
  ·have h:=cq hb_2 h
   refine Qk 17 hb_2 z (Qe 4 z (Q1 z z z (v:=.lst 1 (([true]:List Bool).map bcl)) (Ax.sl (xs:=([true]:List Bool)) z slc_191 z z ⟨Sub.refl _,u0⟩ z bcl_len bcl_one bcl_im) ?_))
   obtain⟨z23,hz,h⟩:=bs h
   exact Qa z z z (v:=.hnd 23) (x:=some (.arr 4 1 (z23.map bcl))) (Ax.app_l (cl:=bcl) z z slc_191 z z z bcl_one bcl_im hz z z) z z z z z (Qd z (Xi z23 (An h (Ee [23] z ⟨imf bcl_im,u0⟩))))
  have h:=cw hb_2 h
  refine Qk 17 hb_2 z (Qe 4 z (Q1 z z z (v:=.lst 1 (([(v8==a2)]:List Bool).map bcl)) (Ax.sl (xs:=([(v8==a2)]:List Bool)) z slc_191 z z ⟨Sub.refl _,u0⟩ z bcl_len bcl_one bcl_im) ?_))
  obtain⟨z23_1,hz_1,h⟩:=bs h
  exact Qa z z z (v:=.hnd 23) (x:=some (.arr 4 1 (z23_1.map bcl))) (Ax.app_l (cl:=bcl) z z slc_191 z z z bcl_one bcl_im hz_1 z z) z z z z z (Qd z (Xi z23_1 (An h (Ee [23] z ⟨imf bcl_im,u0⟩))))
 exact(lt_t hi hb_1).elim
theorem f188_ok {K:Nat} {a0:Net} {r:Bool} (h:f188 K a0=some r):CallOK Tryz.prog 188 [.agg (Net.cl a0)] [] (Ab r) []:=by
 refine Co Tryz.func188 z z (nl z) ?_
 unfold f188 at h
 refine Tp z (Ts (Td [[],[],[1],[0,1,2],[0,1,2,3],[0,1,2,3,4],[0,1,2,3,4],[0,1,2,3,4],[0,1,2,3,4,5],[0,1,2,3,4,5,6,8],[0,1,2,3,4,5,6,7,8,9]] hmix (by kernel_rfl) (Qe 2 z ?_)))
 obtain⟨x9,hc,h⟩:=bs h
 refine Qo [] [(2325000,.arr 4 1 (x9.map bcl))] [2325000] z z z (args:=[.agg (Net.cl a0),Ab true,Ai 0]) (r:=.hnd 2325000) (calv z z fnok_231 z) (f231_fr hc) u0 z z z z z ?_
 obtain⟨⟨x10_0,x10_1,x10_2⟩,hc_1,h⟩:=bs h
 refine Qlf [2325000] [(2315000,.arr 3 1 (x10_0.map icl)),(2315100,.arr 4 1 (x10_1.map bcl))] [2315000,2315100] z z z (args:=[.agg (Net.cl a0),.hnd 2325000]) (args':=[.agg (Net.cl a0),.lst 1 (x9.map bcl)]) (r:=.tup [.hnd 2315000,.hnd 2315100,Ab x10_2]) (calv z z fnok_230 z) ⟨.im z,.hnd mh z (im_flat bcl_im x9),u0⟩ (f230_fr hc_1) z z z (by first | rfl | (simp only [List.all_cons,List.all_nil,AO.solid,Bool.and_true,Bool.and_self,solid_flat (cl:=icl) (fun _=>z),solid_flat (cl:=bcl) (fun _=>z)])) z z z z (Qe 7 z (Rx ⟨by kernel_rfl,freshL_of [2325000,2315000,2315100] (by kernel_rfl) (by kernel_rfl),?_⟩))
 refine Tp z (Te ?_)
 exact Rb h z
theorem f80_ok {K:Nat} {a0:Scene} {r:Bool} (h:f80 K a0=some r):CallOK Tryz.prog 80 [.agg (Scene.cl a0)] [] (Ab r) []:=by
 refine Co Tryz.func80 z z (nl z) ?_
 unfold f80 at h
 refine Tp z (Tr (Qe 1 z ?_))
 obtain⟨⟨x7_0,x7_1⟩,hc,h⟩:=bs h
 refine Qc z z z (args:=[.agg (Scene.cl a0)]) (r:=.tup [.agg (Net.cl x7_0),.lst 4 (x7_1.map Reason.cl)]) (calv z z fnok_103 z) (f103_ok hc) z (Qe 3 z (Qn z z z (v:=.ptr 3 0) (x:=some (.box (Net.cl (⟨0,([]:List Diff)⟩:Net)))) (Al_ z z zer_34 z ⟨Sub.refl _,Sub.nil _,u0⟩) z z z z z (Qs z z (x:=some (.box (Net.cl x7_0))) (As z siz_34 z z z z z z z) (Qd z (Tr (Qe 1 z ?_))))))
 obtain⟨x11,hc_1,h⟩:=bs h
 refine Qc z z z (args:=[.agg (Net.cl x7_0)]) (r:=Ab x11) (calv z z fnok_188 z) (f188_ok hc_1) z (Qd z (Te ?_))
 exact Rb h z
theorem f185_ok {K:Nat} {a0:List Int} {r:Bool} (h:f185 K a0=some r):CallOK Tryz.prog 185 [.lst 1 (a0.map icl)] [] (Ab r) []:=by
 refine Co Tryz.func185 z z (nl z) ?_
 unfold f185 at h
 refine Tp z (Ts (Tp z ?_))
 obtain⟨j,hj,h⟩:=jo h
 refine Tri.rngN h (fun p=>⟨[(0,.lst 1 (a0.map icl)),(3,Ai p.1)],[]⟩) (fun y=>j y=some r) (fun(y:Unit)=>⟨[],[]⟩) (E0 z) ?_ ?_ ?_
 ·rintro⟨⟩ h
  subst hj
  refine Tp z (Te ?_)
  exact Rb h z
 ·rintro v3 ⟨⟩ hi _ h
  refine Ts (Tr (Qe 2 z (Q1 z z z (Ax.ln (cl:=icl) z slc_26 z) (Qd z (Tc (b:=(decide (v3 < (a0.length:Int)))) z (fun hb=>?_) (fun hb=>?_))))))
  ·exact(lt_f hi hb).elim
  exact Tri.exit (Xi () (An h (E0 z)))
 rintro nx v3 ⟨⟩ _ hi hw h
 refine Ts (Tr (Qe 2 z (Q1 z z z (Ax.ln (cl:=icl) z slc_26 z) (Qd z (Tc (b:=(decide (v3 < (a0.length:Int)))) z (fun hb_1=>?_) (fun hb_1=>?_))))))
 ·refine Tk (Ts (Tri.block (Ts (Td [] hmix (by kernel_rfl) (Qe 3 z ?_)))))
  obtain⟨y,hy,h⟩:=bs h
  refine Q1 z z z (Ax.ix (cl:=icl) z slc_26 z z hy) (Qe 3 z ?_)
  obtain⟨y_1,hy_1,h⟩:=bs h
  refine Q1 z z z (Ax.ix (cl:=icl) z slc_26 z z hy_1) (Qe 2 z (Rx ⟨by kernel_rfl,freshL_of [] (by kernel_rfl) (by kernel_rfl),?_⟩))
  refine Tc (b:=(decide (y≥y_1))) z (fun hb_2=>?_) (fun hb_2=>?_)
  ·have h:=cq hb_2 h
   refine Tp z (Te ?_)
   exact Rb h z
  have h:=cw hb_2 h
  exact Tk (Tq z (Xi (v3+1,()) (An (An z h) (Es0 [3] z ⟨.imm (Sub.of_eq (show Ai (v3+1)=Ai (W (v3+1)) from congrArg Ai hw.symm)) z,u0⟩))))
 exact(lt_t hi hb_1).elim
theorem f281_ok {K:Nat} {a0:List Int} {a1:Int} {r:Bool} (h:f281 K a0 a1=some r):CallOK Tryz.prog 281 [.lst 1 (a0.map icl),Ai a1] [] (Ab r) []:=by
 refine Co Tryz.func281 z z (nl z) ?_
 unfold f281 at h
 refine Tp z (Ts (Tp z ?_))
 obtain⟨j,hj,h⟩:=jo h
 refine Tri.rngL h (fun p=>⟨[(0,.lst 1 (a0.map icl)),(1,Ai a1),(5,Ai p.1)],[]⟩) (fun y=>j y=some r) (fun(y:Unit)=>⟨[],[]⟩) (E0 z) ?_ ?_ ?_
 ·rintro⟨⟩ h
  subst hj
  refine Tp z (Te ?_)
  exact Rb h z
 ·rintro v5 ⟨⟩ hi h
  refine Ts (Tr (Qe 2 z (Q1 z z z (Ax.ln (cl:=icl) z slc_26 z) (Qd z (Tc (b:=(decide (v5 < (a0.length:Int)))) z (fun hb=>?_) (fun hb=>?_))))))
  ·exact(lt_f hi hb).elim
  exact Tri.exit (Xi () (An h (E0 z)))
 rintro nx x v5 ⟨⟩ _ hi hw hx h
 refine Ts (Tr (Qe 2 z (Q1 z z z (Ax.ln (cl:=icl) z slc_26 z) (Qd z (Tc (b:=(decide (v5 < (a0.length:Int)))) z (fun hb_1=>?_) (fun hb_1=>?_))))))
 ·refine Tk (Ts (Tri.block (Tr (Qe 2 z (Q1 z z z (Ax.ix (cl:=icl) z slc_26 z z hx) (Qd z (Tc (b:=(x==a1)) z (fun hb_2=>?_) (fun hb_2=>?_))))))))
  ·have h:=cq hb_2 h
   refine Tp z (Te ?_)
   exact Rb h z
  have h:=cw hb_2 h
  exact Tk (Tq z (Xi (v5+1,()) (An (An z h) (Es0 [5] z ⟨.imm (Sub.of_eq (show Ai (v5+1)=Ai (W (v5+1)) from congrArg Ai hw.symm)) z,u0⟩))))
 exact(lt_t hi hb_1).elim
theorem f186_ok {K:Nat} {a0:Scene} {a1:List Int} {r:Scene} (h:f186 K a0 a1=some r):CallOK Tryz.prog 186 [.agg (Scene.cl a0),.lst 1 (a1.map icl)] [] (.agg (Scene.cl r)) []:=by
 refine Co Tryz.func186 z z (nl z) ?_
 unfold f186 at h
 refine Tr (Qe 1 z (Qn z z z (v:=.ptr 4 0) (x:=some (.box (Scene.cl (⟨(⟨([]:List Cell),([]:List Arr2_3),0,0,0⟩:Basin),([]:List Int),([]:List Sight),([]:List Change)⟩:Scene)))) (Al_ z z zer_30 z ⟨Sub.nil _,Sub.nil _,Sub.refl _,Sub.refl _,Sub.refl _,Sub.nil _,Sub.nil _,Sub.nil _,u0⟩) z z z z z (Rx (Tr (Qe 6 z (Q1 z z z (v:=.agg [.lst 4 (a0.Basin.Cells.map Cell.cl),.lst 2 (a0.Basin.Pairs.map Arr2_3.cl),Ai a0.Basin.Gain,Ai a0.Basin.Slack,Ai a0.Basin.Deep,.lst 1 (a0.Days.map icl),.sc (.slice none 0 0),.lst 5 (a0.Changes.map Change.cl)]) (Ab_ z zer_30 (bld plc_30 zer_30) z ⟨Sub.refl _,Sub.refl _,Sub.refl _,Sub.refl _,Sub.refl _,Sub.refl _,Sub.refl _,Sub.refl _,u0⟩) (Qn z z z (v:=.ptr 5 0) (x:=some (.box [.lst 4 (([]:List Cell).map Cell.cl),.lst 2 (([]:List Arr2_3).map Arr2_3.cl),Ai 0,Ai 0,Ai 0,.lst 1 (([]:List Int).map icl),.sc (.slice none 0 0),.lst 5 (([]:List Change).map Change.cl)])) (Al_ z z zer_30 z ⟨Sub.nil _,Sub.nil _,Sub.refl _,Sub.refl _,Sub.refl _,Sub.nil _,Sub.refl _,Sub.nil _,u0⟩) z z z z z (Qs z z (x:=some (.box [.lst 4 (a0.Basin.Cells.map Cell.cl),.lst 2 (a0.Basin.Pairs.map Arr2_3.cl),Ai a0.Basin.Gain,Ai a0.Basin.Slack,Ai a0.Basin.Deep,.lst 1 (a0.Days.map icl),.sc (.slice none 0 0),.lst 5 (a0.Changes.map Change.cl)])) (As z siz_30 z z z z z z z) (Rx (Tn (Eg 5 6 900000506 64 5 (cells':=[.lst 4 (a0.Basin.Cells.map Cell.cl),.lst 2 (a0.Basin.Pairs.map Arr2_3.cl),Ai a0.Basin.Gain,Ai a0.Basin.Slack,Ai a0.Basin.Deep,.lst 1 (a0.Days.map icl),.hnd 900000506,.lst 5 (a0.Changes.map Change.cl)]) z z z z) (Ts (Tp z ?_))))))))))))
 obtain⟨voo5_6_1,hj,h⟩:=bs h
 refine Tri.rngLv hj (fun p=>⟨[(1,.lst 1 (a1.map icl)),(2,.ipt (Scene.cl a0) 0),(4,.ptr 4 0),(5,.ptr 5 0),(6,Ai p.1)],[(4,some (.box (Scene.cl (⟨(⟨([]:List Cell),([]:List Arr2_3),0,0,0⟩:Basin),([]:List Int),([]:List Sight),([]:List Change)⟩:Scene)))),(900000506,some (.arr 64 5 (p.2.map Sight.cl))),(5,some (.box [.lst 4 (a0.Basin.Cells.map Cell.cl),.lst 2 (a0.Basin.Pairs.map Arr2_3.cl),Ai a0.Basin.Gain,Ai a0.Basin.Slack,Ai a0.Basin.Deep,.lst 1 (a0.Days.map icl),.hnd 900000506,.lst 5 (a0.Changes.map Change.cl)]))]⟩) (fun(y:List Sight)=>⟨[(4,.ptr 4 0),(5,.ptr 5 0)],[(4,some (.box (Scene.cl (⟨(⟨([]:List Cell),([]:List Arr2_3),0,0,0⟩:Basin),([]:List Int),([]:List Sight),([]:List Change)⟩:Scene)))),(900000506,some (.arr 64 5 (y.map Sight.cl))),(5,some (.box [.lst 4 (a0.Basin.Cells.map Cell.cl),.lst 2 (a0.Basin.Pairs.map Arr2_3.cl),Ai a0.Basin.Gain,Ai a0.Basin.Slack,Ai a0.Basin.Deep,.lst 1 (a0.Days.map icl),.hnd 900000506,.lst 5 (a0.Changes.map Change.cl)]))]⟩) (Ee [4,900000506,5] z ⟨im_flat Sight_im ([]:List Sight),u0⟩) ?_ ?_ ?_
 ·refine Tr (Qe 1 z (Qs z z (x:=some (.box [.lst 4 (a0.Basin.Cells.map Cell.cl),.lst 2 (a0.Basin.Pairs.map Arr2_3.cl),Ai a0.Basin.Gain,Ai a0.Basin.Slack,Ai a0.Basin.Deep,.lst 1 (a0.Days.map icl),.hnd 900000506,.lst 5 (a0.Changes.map Change.cl)])) (As z siz_30 z z z z z z z) (Rx (Te ?_))))
  refine RetQ.eq2 (fun r=>.agg (Scene.cl r)) (fun r=>[]) (Option.some.inj h) ?_
  exact RetQ.mk (vs:=[.agg [.lst 4 (a0.Basin.Cells.map Cell.cl),.lst 2 (a0.Basin.Pairs.map Arr2_3.cl),Ai a0.Basin.Gain,Ai a0.Basin.Slack,Ai a0.Basin.Deep,.lst 1 (a0.Days.map icl),.hnd 900000506,.lst 5 (a0.Changes.map Change.cl)]]) (.inr z) ⟨_,_,z,.cell_box z siz_30 z z z,z⟩ [900000506] [] z z u0 (.frz (.aggV ⟨(.imm z),(.imm z),(.imm z),(.imm z),(.imm z),(.imm z),(.hnd mh z (im_flat Sight_im voo5_6_1)),(.imm z),u0⟩) z)
 ·rintro v6 voo5_6 hi h
  refine Ts (Tr (Qe 3 z (Q1 z z z (Ax.ln (cl:=Sight.cl) z slc_27 z) (Qd z (Tc (b:=(decide (v6 < (a0.Sights.length:Int)))) z (fun hb=>?_) (fun hb=>?_))))))
  ·exact(lt_f hi hb).elim
  exact Tri.exit (Xi voo5_6 (An h (Ee [4,900000506,5] z ⟨imf Sight_im,u0⟩)))
 rintro nx x v6 voo5_6 _ hi hw hx h
 refine Ts (Tr (Qe 3 z (Q1 z z z (Ax.ln (cl:=Sight.cl) z slc_27 z) (Qd z (Tc (b:=(decide (v6 < (a0.Sights.length:Int)))) z (fun hb_1=>?_) (fun hb_1=>?_))))))
 ·refine Tk (Ts (Tri.block (Tr (Qe 4 z (Q1 z z z (Ax.ix (cl:=Sight.cl) z slc_27 z z hx) (Qe 2 z ?_))))))
  obtain⟨x28,hc,h⟩:=bs h
  refine Qc z z z (args:=[.lst 1 (a1.map icl),Ai x.No]) (r:=Ab x28) (calv z z fnok_281 z) (f281_ok hc) z (Rx ?_)
  obtain⟨voo5_6_2,hj_1,h⟩:=bs h
  refine Tri.joinv voo5_6_2 (fun(y:List Sight)=>⟨[(1,.lst 1 (a1.map icl)),(2,.ipt (Scene.cl a0) 0),(4,.ptr 4 0),(5,.ptr 5 0),(6,Ai v6)],[(4,some (.box (Scene.cl (⟨(⟨([]:List Cell),([]:List Arr2_3),0,0,0⟩:Basin),([]:List Int),([]:List Sight),([]:List Change)⟩:Scene)))),(37,some (.arr 64 5 (y.map Sight.cl))),(5,some (.box [.lst 4 (a0.Basin.Cells.map Cell.cl),.lst 2 (a0.Basin.Pairs.map Arr2_3.cl),Ai a0.Basin.Gain,Ai a0.Basin.Slack,Ai a0.Basin.Deep,.lst 1 (a0.Days.map icl),.hnd 37,.lst 5 (a0.Changes.map Change.cl)]))]⟩) ?_ ?_
  ·exact Tq z (Xi (v6+1,voo5_6_2) (An (An z h) (Es [4,37,5] [6] z ⟨imf Sight_im,u0⟩ ⟨.imm (Sub.of_eq (show Ai (v6+1)=Ai (W (v6+1)) from congrArg Ai hw.symm)) z,u0⟩)))
  have h:=hj_1
  refine Tc (b:=x28) z (fun hb_2=>?_) (fun hb_2=>?_)
  ·have h:=cq hb_2 h
   refine Td [[],[0],[],[2],[],[2,3,4],[2,3,4,5],[2,3,4,5,6],[0,1,2,3,4,5,6,7],[0,1,2,3,4,5,6,7,8],[0,1,2,3,4,5,6,7,8,9]] hmix (by kernel_rfl) (Qe 5 z (Q1 z z z (Ax.ix (cl:=Sight.cl) z slc_27 z z hx) (Qe 1 z (Q1 z z z (v:=.lst 5 (([x]:List Sight).map Sight.cl)) (Ax.sl (xs:=([x]:List Sight)) z slc_27 z z ⟨Sub.refl _,Sub.refl _,Sub.refl _,Sub.refl _,Sub.refl _,u0⟩ z Sight_len Sight_one Sight_im) ?_))))
   obtain⟨z37,hz,h⟩:=bs h
   refine Qa z z z (v:=.hnd 37) (x:=some (.arr 64 5 (z37.map Sight.cl))) (Ax.app_l (cl:=Sight.cl) z z slc_27 z z z Sight_one Sight_im hz z z) z z z z z (Qe 1 z (Qs z z (x:=some (.box [.lst 4 (a0.Basin.Cells.map Cell.cl),.lst 2 (a0.Basin.Pairs.map Arr2_3.cl),Ai a0.Basin.Gain,Ai a0.Basin.Slack,Ai a0.Basin.Deep,.lst 1 (a0.Days.map icl),.hnd 37,.lst 5 (a0.Changes.map Change.cl)])) (As z siz_27 z z z z z z z) (Rx ⟨by kernel_rfl,freshL_of [37] (by kernel_rfl) (by kernel_rfl),?_⟩)))
   exact Xi z37 (An h (Ee [4,37,5] z ⟨imf Sight_im,u0⟩))
  have h:=cw hb_2 h
  exact Tk (Xi voo5_6 (An h (Ee [4,900000506,5] z ⟨imf Sight_im,u0⟩)))
 exact(lt_t hi hb_1).elim
theorem f187_ok {K:Nat} {a0:List Int} {a1:Int} {r:List Int} (h:f187 K a0 a1=some r):CallOK Tryz.prog 187 [.lst 1 (a0.map icl),Ai a1] [] (.lst 1 (r.map icl)) []:=by
 refine Co Tryz.func187 z z (nl z) ?_
 unfold f187 at h
 refine Tr (Q1 z z z (v:=.lst 1 (([]:List Int).map icl)) (Ax.nl 1 z z) (Rx (Tr (Qn z z z (v:=.hnd 5) (x:=some (.arr 3 1 (([]:List Int).map icl))) (Ax.nil_new 3 1 (.inr z) z) z z z z z (Rx (Ts (Tp z ?_)))))))
 obtain⟨vo5_1,hj,h⟩:=bs h
 refine Tri.rngLv hj (fun p=>⟨[(0,.lst 1 (a0.map icl)),(1,Ai a1),(5,.hnd 5),(6,Ai p.1)],[(5,some (.arr 3 1 (p.2.map icl)))]⟩) (fun(y:List Int)=>⟨[(5,.hnd 5)],[(5,some (.arr 3 1 (y.map icl)))]⟩) (Ee [5] z ⟨im_flat icl_im ([]:List Int),u0⟩) ?_ ?_ ?_
 ·refine Tp z (Te ?_)
  refine RetQ.eq2 (fun r=>.lst 1 (r.map icl)) (fun r=>[]) (Option.some.inj h) ?_
  exact RetQ.mk (vs:=[.hnd 5]) (.inr z) ⟨_,_,z,.tmp z,z⟩ [5] [] z z u0 (.frz (.hnd mh z (im_flat icl_im vo5_1)) z)
 ·rintro v6 vo5 hi h
  refine Ts (Tr (Qe 2 z (Q1 z z z (Ax.ln (cl:=icl) z slc_26 z) (Qd z (Tc (b:=(decide (v6 < (a0.length:Int)))) z (fun hb=>?_) (fun hb=>?_))))))
  ·exact(lt_f hi hb).elim
  exact Tri.exit (Xi vo5 (An h (Ee [5] z ⟨imf icl_im,u0⟩)))
 rintro nx x v6 vo5 _ hi hw hx h
 refine Ts (Tr (Qe 2 z (Q1 z z z (Ax.ln (cl:=icl) z slc_26 z) (Qd z (Tc (b:=(decide (v6 < (a0.length:Int)))) z (fun hb_1=>?_) (fun hb_1=>?_))))))
 ·refine Tk (Ts (Tri.block (Tp z ?_)))
  obtain⟨vo5_2,hj_1,h⟩:=bs h
  refine Tri.joinv vo5_2 (fun(y:List Int)=>⟨[(0,.lst 1 (a0.map icl)),(1,Ai a1),(5,.hnd 22),(6,Ai v6)],[(22,some (.arr 3 1 (y.map icl)))]⟩) ?_ ?_
  ·exact Tq z (Xi (v6+1,vo5_2) (An (An z h) (Es [22] [6] z ⟨imf icl_im,u0⟩ ⟨.imm (Sub.of_eq (show Ai (v6+1)=Ai (W (v6+1)) from congrArg Ai hw.symm)) z,u0⟩)))
  have h:=hj_1
  refine Tc (b:=(v6 != a1)) z (fun hb_2=>?_) (fun hb_2=>?_)
  ·have h:=cq hb_2 h
   refine Tri.region (Qe 3 z (Q1 z z z (Ax.ix (cl:=icl) z slc_26 z z hx) (Qe 1 z (Q1 z z z (v:=.lst 1 (([x]:List Int).map icl)) (Ax.sl (xs:=([x]:List Int)) z slc_26 z z ⟨Sub.refl _,u0⟩ z icl_len icl_one icl_im) ?_))))
   obtain⟨z22,hz,h⟩:=bs h
   exact Qa z z z (v:=.hnd 22) (x:=some (.arr 3 1 (z22.map icl))) (Ax.app_l (cl:=icl) z z slc_26 z z z icl_one icl_im hz z z) z z z z z (Qd z (Xi z22 (An h (Ee [22] z ⟨imf icl_im,u0⟩))))
  have h:=cw hb_2 h
  exact Tk (Xi vo5 (An h (Ee [5] z ⟨imf icl_im,u0⟩)))
 exact(lt_t hi hb_1).elim
theorem f197_ok {K:Nat} {a0:Basin} {a1:List Int} {r:Bool} (h:f197 K a0 a1=some r):CallOK Tryz.prog 197 [.agg (Basin.cl a0),.lst 1 (a1.map icl)] [] (Ab r) []:=by
 refine Co Tryz.func197 z z (nl z) ?_
 unfold f197 at h
 refine Tp z (Ts (Tp z ?_))
 obtain⟨j,hj,h⟩:=jo h
 refine Tri.rngL h (fun p=>⟨[(1,.lst 1 (a1.map icl)),(2,.ipt (Basin.cl a0) 0),(5,Ai p.1)],[]⟩) (fun y=>j y=some r) (fun(y:Unit)=>⟨[(1,.lst 1 (a1.map icl))],[]⟩) (E0 z) ?_ ?_ ?_
 ·rintro⟨⟩ h
  subst hj
  refine Tr (Qe 1 z (Q1 z z z (Ax.ln (cl:=icl) z slc_26 z) (Qd z (Te ?_))))
  exact Rb h z
 ·rintro v5 ⟨⟩ hi h
  refine Ts (Tr (Qe 2 z (Q1 z z z (Ax.ln (cl:=icl) z slc_26 z) (Qd z (Tc (b:=(decide (v5 < (a1.length:Int)))) z (fun hb=>?_) (fun hb=>?_))))))
  ·exact(lt_f hi hb).elim
  exact Tri.exit (Xi () (An h (E0 z)))
 rintro nx x v5 ⟨⟩ _ hi hw hx h
 refine Ts (Tr (Qe 2 z (Q1 z z z (Ax.ln (cl:=icl) z slc_26 z) (Qd z (Tc (b:=(decide (v5 < (a1.length:Int)))) z (fun hb_1=>?_) (fun hb_1=>?_))))))
 ·refine Tk (Ts (Tri.block (Ts ?_)))
  obtain⟨v34,hj_1,h⟩:=bs h
  refine Tri.joinv v34 (fun(y:Bool)=>⟨[(1,.lst 1 (a1.map icl)),(2,.ipt (Basin.cl a0) 0),(5,Ai v5),(34,Ab y)],[]⟩) ?_ ?_
  ·refine Tc (b:=v34) z (fun hb_2=>?_) (fun hb_2=>?_)
   ·have h:=cq hb_2 h
    refine Tp z (Te ?_)
    exact Rb h z
   have h:=cw hb_2 h
   exact Tk (Tq z (Xi (v5+1,()) (An (An z h) (Es0 [5] z ⟨.imm (Sub.of_eq (show Ai (v5+1)=Ai (W (v5+1)) from congrArg Ai hw.symm)) z,u0⟩))))
  have h:=hj_1
  refine Td [[],[],[],[1,2],[1,2,3],[0,1,2,3,4],[0,1,2,3,4,5],[0,1,2,3,4,5,6],[0,1,2,3,4,5,6,7],[0,1,2,3,4,5,6,7,8],[0,1,2,3,4,5,6,7,8,9],[0,1,2,3,4,5,6,7,8,9,10],[0,1,2,3,4,5,6,7,8,9,10],[0,1,2,3,4,5,6,7,8,9,10,12],[0,1,2,3,4,5,6,7,8,9,10,11,12,13],[0,1,2,3,4,5,6,7,8,9,10,11,12,13,14],[0,1,2,3,4,5,6,7,8,9,10],[0,1,2,3,4,5,6,7,8,9,10],[0,1,2,3,4,5,6,7,8,9,10,16,17],[0,1,2,3,4,5,6,7,8,9,10,16,17,18],[0,1,2,3,4,5,6,7,8,9,10,11,12,13,14,15,16,17,18,19],[0,1,2,3,4,5,6,7,8,9,10,11,12,13,14,15,16,17,18,19,20],[0,1,2,3,4,5,6,7,8,9,10,11,12,13,14,15,16,17,18,19,20,21]] hmix (by kernel_rfl) (Qe 3 z (Q1 z z z (Ax.ix (cl:=icl) z slc_26 z z hx) (Qe 1 z ?_)))
  obtain⟨x17,hc,h⟩:=bs h
  refine Qc z z z (args:=[.agg (Basin.cl a0),Ai x]) (r:=Ai x17) (calv z z fnok_116 z) (f116_ok hc) z (Qe 2 z ?_)
  rcases b2 (decide (x17 < 0)) with hb_3 | hb_3
  ·have h:=cq hb_3 h
   refine Qk 19 hb_3 z (Qe 15 z (Rx ⟨by kernel_rfl,freshL_of [] (by kernel_rfl) (by kernel_rfl),?_⟩))
   exact Xi true (An h (E0 z))
  have h:=cw hb_3 h
  refine Qk 19 hb_3 z (Qe 3 z ?_)
  rcases b2 (decide (v5 > 0)) with hb_4 | hb_4
  ·have h:=cq hb_4 h
   refine Qk 22 hb_4 z (Qe 3 z ?_)
   obtain⟨y,hy,h⟩:=bs h
   refine Q1 z z z (Ax.ix (cl:=icl) z slc_26 z z hy) (Qe 3 z (Q1 z z z (Ax.ix (cl:=icl) z slc_26 z z hx) (Qe 4 z (Rx ⟨by kernel_rfl,freshL_of [] (by kernel_rfl) (by kernel_rfl),?_⟩))))
   exact Xi (decide (y≥x)) (An h (E0 z))
  have h:=cw hb_4 h
  refine Qk 22 hb_4 z (Qe 12 z (Rx ⟨by kernel_rfl,freshL_of [] (by kernel_rfl) (by kernel_rfl),?_⟩))
  exact Xi false (An h (E0 z))
 exact(lt_t hi hb_1).elim
theorem f285_ok {K:Nat} {a0:Int} {a1:Int} {r:Bool} (h:f285 K a0 a1=some r):CallOK Tryz.prog 285 [Ai a0,Ai a1] [] (Ab r) []:=by
 refine Co Tryz.func285 z z (nl z) ?_
 unfold f285 at h
 refine Tp z (Ts (Tri.join1 ⟨[(4,Ab ((decide (a0≥0))&&(decide (a0 < a1))))],[]⟩ ?_ ?_))
 ·refine Te ?_
  exact Rb h z
 refine Tri.region (Qe 3 z ?_)
 rcases b2 (decide (a0≥0)) with hb | hb
 ·exact Qk 7 hb z (Qd z ((Es0 [4] z ⟨.imm (Sub.of_eq (show Ab ((decide (a0≥0))&&(decide (a0 < a1)))=Ab (decide (a0 < a1)) by simp only [cond_true,cond_false,Bool.true_or,Bool.false_or,Bool.true_and,Bool.false_and,Bool.or_true,Bool.or_false,Bool.and_true,Bool.and_false,hb])) z,u0⟩)))
 exact Qk 7 hb z (Qd z ((Es0 [4] z ⟨.imm (Sub.of_eq (show Ab ((decide (a0≥0))&&(decide (a0 < a1)))=Ab false by simp only [cond_true,cond_false,Bool.true_or,Bool.false_or,Bool.true_and,Bool.false_and,Bool.or_true,Bool.or_false,Bool.and_true,Bool.and_false,hb])) z,u0⟩)))
theorem f302_ok {K:Nat} {a0:Diff} {a1:Int} {r:Bool} (h:f302 K a0 a1=some r):CallOK Tryz.prog 302 [.agg (Diff.cl a0),Ai a1] [] (Ab r) []:=by
 refine Co Tryz.func302 z z (nl z) ?_
 unfold f302 at h
 refine Tp z (Ts ?_)
 obtain⟨v4,hj,h⟩:=bs h
 refine Tri.joinv v4 (fun(y:Bool)=>⟨[(4,Ab y)],[]⟩) ?_ ?_
 ·refine Te ?_
  exact Rb h z
 have h:=hj
 refine Tri.region (Qe 3 z ?_)
 obtain⟨x8,hc,h⟩:=bs h
 refine Qc z z z (args:=[Ai a0.From,Ai a1]) (r:=Ab x8) (calv z z fnok_285 z) (f285_ok hc) z (Qe 1 z ?_)
 rcases b2 x8 with hb | hb
 ·have h:=cq hb h
  refine Qk 9 hb z (Qe 3 z ?_)
  obtain⟨x13,hc_1,h⟩:=bs h
  refine Qc z z z (args:=[Ai a0.To,Ai a1]) (r:=Ab x13) (calv z z fnok_285 z) (f285_ok hc_1) z (Qe 2 z ?_)
  rcases b2 x13 with hb_1 | hb_1
  ·have h:=cq hb_1 h
   refine Qk 15 hb_1 z (Qe 5 z ?_)
   rcases b2 (decide (a0.Most≥(-1073741824))) with hb_2 | hb_2
   ·have h:=cq hb_2 h
    exact Qk 20 hb_2 z (Qd z (Xi (decide (a0.Most≤1073741824)) (An h (E0 z))))
   have h:=cw hb_2 h
   exact Qk 20 hb_2 z (Qd z (Xi false (An h (E0 z))))
  have h:=cw hb_1 h
  exact Qk 15 hb_1 z (Qd z (Xi false (An h (E0 z))))
 have h:=cw hb h
 exact Qk 9 hb z (Qd z (Xi false (An h (E0 z))))
theorem f229_ok {K:Nat} {a0:Net} {r:Int} (h:f229 K a0=some r):CallOK Tryz.prog 229 [.agg (Net.cl a0)] [] (Ai r) []:=by
 refine Co Tryz.func229 z z (nl z) ?_
 unfold f229 at h
 refine Tp z (Ts (Ts (Tri.join1 ⟨[(1,.ipt (Net.cl a0) 0),(17,Ab ((decide (a0.Nodes < 1))||((decide (a0.Nodes > 256))||(decide ((a0.Diffs.length:Int) > 4096)))))],[]⟩ ?_ ?_)))
 ·refine Tc (b:=((decide (a0.Nodes < 1))||((decide (a0.Nodes > 256))||(decide ((a0.Diffs.length:Int) > 4096))))) z (fun hb=>?_) (fun hb=>?_)
  ·have h:=cq hb h
   refine Tp z (Te ?_)
   exact Ri h z
  have h:=cw hb h
  refine Tk (Ts (Tp z ?_))
  obtain⟨j,hj,h⟩:=jo h
  refine Tri.rngL h (fun p=>⟨[(1,.ipt (Net.cl a0) 0),(3,Ai p.1)],[]⟩) (fun y=>j y=some r) (fun(y:Unit)=>⟨[],[]⟩) (E0 z) ?_ ?_ ?_
  ·rintro⟨⟩ h
   subst hj
   refine Tp z (Te ?_)
   exact Ri h z
  ·rintro v3 ⟨⟩ hi h
   refine Ts (Tr (Qe 3 z (Q1 z z z (Ax.ln (cl:=Diff.cl) z slc_32 z) (Qd z (Tc (b:=(decide (v3 < (a0.Diffs.length:Int)))) z (fun hb_1=>?_) (fun hb_1=>?_))))))
   ·exact(lt_f hi hb_1).elim
   exact Tri.exit (Xi () (An h (E0 z)))
  rintro nx x v3 ⟨⟩ _ hi hw hx h
  refine Ts (Tr (Qe 3 z (Q1 z z z (Ax.ln (cl:=Diff.cl) z slc_32 z) (Qd z (Tc (b:=(decide (v3 < (a0.Diffs.length:Int)))) z (fun hb_2=>?_) (fun hb_2=>?_))))))
  ·refine Tk (Ts (Tri.block (Ts (Td [[],[0],[],[0,1,2],[0,1,2,3],[],[5],[0,1,2,3,4,5,6],[0,1,2,3,4,5,6,7]] hmix (by kernel_rfl) (Qe 3 z (Q1 z z z (Ax.ix (cl:=Diff.cl) z slc_32 z z hx) (Qe 3 z ?_)))))))
   obtain⟨x32,hc,h⟩:=bs h
   refine Qc z z z (args:=[.agg (Diff.cl x),Ai a0.Nodes]) (r:=Ab x32) (calv z z fnok_302 z) (f302_ok hc) z (Qe 1 z (Rx ⟨by kernel_rfl,freshL_of [] (by kernel_rfl) (by kernel_rfl),?_⟩))
   refine Tc (b:=(!x32)) z (fun hb_3=>?_) (fun hb_3=>?_)
   ·have h:=cq hb_3 h
    refine Tp z (Te ?_)
    exact Ri h z
   have h:=cw hb_3 h
   exact Tk (Tq z (Xi (v3+1,()) (An (An z h) (Es0 [3] z ⟨.imm (Sub.of_eq (show Ai (v3+1)=Ai (W (v3+1)) from congrArg Ai hw.symm)) z,u0⟩))))
  exact(lt_t hi hb_2).elim
 refine Tri.region (Qe 4 z ?_)
 rcases b2 (decide (a0.Nodes < 1)) with hb_4 | hb_4
 ·exact Qk 7 hb_4 z (Qd z ((Es0 [17] z ⟨.imm (Sub.of_eq (show Ab ((decide (a0.Nodes < 1))||((decide (a0.Nodes > 256))||(decide ((a0.Diffs.length:Int) > 4096))))=Ab true by simp only [cond_true,cond_false,Bool.true_or,Bool.false_or,Bool.true_and,Bool.false_and,Bool.or_true,Bool.or_false,Bool.and_true,Bool.and_false,hb_4])) z,u0⟩)))
 refine Qk 7 hb_4 z (Qe 5 z ?_)
 rcases b2 (decide (a0.Nodes > 256)) with hb_5 | hb_5
 ·exact Qk 12 hb_5 z (Qd z ((Es0 [17] z ⟨.imm (Sub.of_eq (show Ab ((decide (a0.Nodes < 1))||((decide (a0.Nodes > 256))||(decide ((a0.Diffs.length:Int) > 4096))))=Ab true by simp only [cond_true,cond_false,Bool.true_or,Bool.false_or,Bool.true_and,Bool.false_and,Bool.or_true,Bool.or_false,Bool.and_true,Bool.and_false,hb_4,hb_5])) z,u0⟩)))
 exact Qk 12 hb_5 z (Qe 2 z (Q1 z z z (Ax.ln (cl:=Diff.cl) z slc_32 z) (Qd z ((Es0 [17] z ⟨.imm (Sub.of_eq (show Ab ((decide (a0.Nodes < 1))||((decide (a0.Nodes > 256))||(decide ((a0.Diffs.length:Int) > 4096))))=Ab (decide ((a0.Diffs.length:Int) > 4096)) by simp only [cond_true,cond_false,Bool.true_or,Bool.false_or,Bool.true_and,Bool.false_and,Bool.or_true,Bool.or_false,Bool.and_true,Bool.and_false,hb_4,hb_5])) z,u0⟩)))))
theorem f109_ok {K:Nat} {a0:Net} {r:List Int × Int} (h:f109 K a0=some r):CallOK Tryz.prog 109 [.agg (Net.cl a0)] [] (.tup [.lst 1 (r.1.map icl),Ai r.2]) []:=by
 refine Co Tryz.func109 z z (nl z) ?_
 unfold f109 at h
 refine Tr (Qe 1 z (Q1 z z z (v:=.lst 1 (([]:List Int).map icl)) (Ax.nl 1 z z) (Qd z (Ts (Tr (Qe 1 z ?_))))))
 obtain⟨x9,hc,h⟩:=bs h
 refine Qc z z z (args:=[.agg (Net.cl a0)]) (r:=Ai x9) (calv z z fnok_229 z) (f229_ok hc) z (Qd z (Tc (b:=(x9 != 0)) z (fun hb=>?_) (fun hb=>?_)))
 ·have h:=cq hb h
  refine Tr (Q1 z z z (v:=.lst 1 (([]:List Int).map icl)) (Ax.nl 1 z z) (Qd z (Te ?_)))
  refine Rr (fun r=>.tup [.lst 1 (r.1.map icl),Ai r.2]) (fun r=>[]) [] h ?_ u0
  rfl
 have h:=cw hb h
 refine Tk (Ts (Tr (Qe 1 z ?_)))
 obtain⟨x12,hc_1,h⟩:=bs h
 refine Qc z z z (args:=[.agg (Net.cl a0)]) (r:=Ab x12) (calv z z fnok_188 z) (f188_ok hc_1) z (Qd z (Tc (b:=(!x12)) z (fun hb_1=>?_) (fun hb_1=>?_)))
 ·have h:=cq hb_1 h
  refine Tr (Q1 z z z (v:=.lst 1 (([]:List Int).map icl)) (Ax.nl 1 z z) (Qd z (Te ?_)))
  refine Rr (fun r=>.tup [.lst 1 (r.1.map icl),Ai r.2]) (fun r=>[]) [] h ?_ u0
  rfl
 have h:=cw hb_1 h
 refine Tk (Ts (Td [[],[],[1],[0,1,2],[0,1,2,3],[0,1,2,3,4],[0,1,2,3,4],[0,1,2,3,4],[0,1,2,3,4,5],[0,1,2,3,4,5,6,8],[0,1,2,3,4,5,6,7,8,9]] hmix (by kernel_rfl) (Qe 2 z ?_)))
 obtain⟨x17,hc_2,h⟩:=bs h
 refine Qo [] [(2325000,.arr 4 1 (x17.map bcl))] [2325000] z z z (args:=[.agg (Net.cl a0),Ab false,Ai 0]) (r:=.hnd 2325000) (calv z z fnok_231 z) (f231_fr hc_2) u0 z z z z z ?_
 obtain⟨⟨x18_0,x18_1,x18_2⟩,hc_3,h⟩:=bs h
 refine Qlf [2325000] [(2315000,.arr 3 1 (x18_0.map icl)),(2315100,.arr 4 1 (x18_1.map bcl))] [2315000,2315100] z z z (args:=[.agg (Net.cl a0),.hnd 2325000]) (args':=[.agg (Net.cl a0),.lst 1 (x17.map bcl)]) (r:=.tup [.hnd 2315000,.hnd 2315100,Ab x18_2]) (calv z z fnok_230 z) ⟨.im z,.hnd mh z (im_flat bcl_im x17),u0⟩ (f230_fr hc_3) z z z (by first | rfl | (simp only [List.all_cons,List.all_nil,AO.solid,Bool.and_true,Bool.and_self,solid_flat (cl:=icl) (fun _=>z),solid_flat (cl:=bcl) (fun _=>z)])) z z z z (Qe 7 z (Rx ⟨by kernel_rfl,freshL_of [2325000,2315000,2315100] (by kernel_rfl) (by kernel_rfl),?_⟩))
 refine Ts (Tp z ?_)
 obtain⟨j,hj,h⟩:=jo h
 refine Tri.rngN h (fun p=>⟨[(1,.ipt (Net.cl a0) 0),(4,.hnd 2315000),(5,.hnd 2315100),(7,Ai p.1)],[(2315000,some (.arr 3 1 (x18_0.map icl))),(2315100,some (.arr 4 1 (x18_1.map bcl)))]⟩) (fun y=>j y=some r) (fun(y:Unit)=>⟨[(4,.hnd 2315000)],[(2315000,some (.arr 3 1 (x18_0.map icl)))]⟩) (Ee [2315000,2315100] z ⟨imf icl_im,imf bcl_im,u0⟩) ?_ ?_ ?_
 ·rintro⟨⟩ h
  subst hj
  refine Tp z (Te ?_)
  refine RetQ.eq2 (fun r=>.tup [.lst 1 (r.1.map icl),Ai r.2]) (fun r=>[]) (Option.some.inj h) ?_
  exact RetQ.mk (vs:=[.hnd 2315000,Ai 0]) (.inr z) ⟨_,_,z,.tmp z,⟨_,_,z,.tmp z,z⟩⟩ [2315000] [] z z u0 (.tupV ⟨.frz (.hnd mh z (im_flat icl_im x18_0)) z,.rfl' z,u0⟩)
 ·rintro v7 ⟨⟩ hi _ h
  refine Ts (Tp z (Tc (b:=(decide (v7 < a0.Nodes))) z (fun hb_2=>?_) (fun hb_2=>?_)))
  ·exact(lt_f hi hb_2).elim
  exact Tri.exit (Xi () (An h (Ee [2315000] z ⟨imf icl_im,u0⟩)))
 rintro nx v7 ⟨⟩ _ hi hw h
 refine Ts (Tp z (Tc (b:=(decide (v7 < a0.Nodes))) z (fun hb_3=>?_) (fun hb_3=>?_)))
 ·refine Tk (Ts (Tri.block (Tr (Qe 2 z ?_))))
  obtain⟨y,hy,h⟩:=bs h
  refine Q1 z z z (Ax.ixh (cl:=bcl) z slc_191 z z z hy) (Q1 z z z (Ax.l1_arr (cl:=bcl) z siz_4 z z hy z) (Qd z (Tc (b:=(!y)) z (fun hb_4=>?_) (fun hb_4=>?_))))
  ·have h:=cq hb_4 h
   refine Tr (Q1 z z z (v:=.lst 1 (([]:List Int).map icl)) (Ax.nl 1 z z) (Qd z (Te ?_)))
   refine Rr (fun r=>.tup [.lst 1 (r.1.map icl),Ai r.2]) (fun r=>[]) [] h ?_ u0
   rfl
  have h:=cw hb_4 h
  exact Tk (Tq z (Xi (v7+1,()) (An (An z h) (Es [2315000,2315100] [7] z ⟨imf icl_im,imf bcl_im,u0⟩ ⟨.imm (Sub.of_eq (show Ai (v7+1)=Ai (W (v7+1)) from congrArg Ai hw.symm)) z,u0⟩))))
 exact(lt_t hi hb_3).elim
theorem f110_ok {K:Nat} {a0:Scene} {a1:List Int} {r:List (List Int)} (h:f110 K a0 a1=some r):CallOK Tryz.prog 110 [.agg (Scene.cl a0),.lst 1 (a1.map icl)] [] (.lst 1 (r.map cl26)) []:=by
 refine Co Tryz.func110 z z (nl z) ?_
 unfold f110 at h
 refine Tr (Qe 1 z (Q1 z z z (v:=.lst 1 (([]:List (List Int)).map cl26)) (Ax.nl 1 z z) (Rx (Tr (Qn z z z (v:=.hnd 5) (x:=some (.arr 26 1 (([]:List (List Int)).map cl26))) (Ax.nil_new 26 1 (.inr z) z) z z z z z (Rx (Ts (Tp z ?_))))))))
 obtain⟨vo5_1,hj,h⟩:=bs h
 refine Tri.rngNv hj (fun p=>⟨[(1,.lst 1 (a1.map icl)),(2,.ipt (Scene.cl a0) 0),(5,.hnd 5),(6,Ai p.1)],[(5,some (.arr 26 1 (p.2.map cl26)))]⟩) (fun(y:List (List Int))=>⟨[(5,.hnd 5)],[(5,some (.arr 26 1 (y.map cl26)))]⟩) (Ee [5] z ⟨im_flat cl26_im ([]:List (List Int)),u0⟩) ?_ ?_ ?_
 ·refine Tp z (Te ?_)
  refine RetQ.eq2 (fun r=>.lst 1 (r.map cl26)) (fun r=>[]) (Option.some.inj h) ?_
  exact RetQ.mk (vs:=[.hnd 5]) (.inr z) ⟨_,_,z,.tmp z,z⟩ [5] [] z z u0 (.frz (.hnd mh z (im_flat cl26_im vo5_1)) z)
 ·rintro v6 vo5 hi _ h
  refine Ts (Tr (Qe 3 z (Q1 z z z (Ax.ln (cl:=icl) z slc_26 z) (Qd z (Tc (b:=(decide (v6 < (a0.Days.length:Int)))) z (fun hb=>?_) (fun hb=>?_))))))
  ·exact(lt_f hi hb).elim
  exact Tri.exit (Xi vo5 (An h (Ee [5] z ⟨imf cl26_im,u0⟩)))
 rintro nx v6 vo5 _ hi hw h
 refine Ts (Tr (Qe 3 z (Q1 z z z (Ax.ln (cl:=icl) z slc_26 z) (Qd z (Tc (b:=(decide (v6 < (a0.Days.length:Int)))) z (fun hb_1=>?_) (fun hb_1=>?_))))))
 ·refine Tk (Ts (Tri.block (Tr (Qn z z z (v:=.hnd 7) (x:=some (.arr 3 1 (([]:List Int).map icl))) (Ax.nil_new 3 1 (.inr z) z) z z z z z (Rx (Ts (Tp z ?_)))))))
  obtain⟨vo7_1,hj_1,h⟩:=bs h
  refine Tri.rngNv hj_1 (fun p=>⟨[(1,.lst 1 (a1.map icl)),(2,.ipt (Scene.cl a0) 0),(5,.hnd 5),(6,Ai v6),(7,.hnd 7),(8,Ai p.1)],[(5,some (.arr 26 1 (vo5.map cl26))),(7,some (.arr 3 1 (p.2.map icl)))]⟩) (fun(y:List Int)=>⟨[(1,.lst 1 (a1.map icl)),(2,.ipt (Scene.cl a0) 0),(5,.hnd 5),(6,Ai v6),(7,.hnd 7)],[(5,some (.arr 26 1 (vo5.map cl26))),(7,some (.arr 3 1 (y.map icl)))]⟩) (Ee [5,7] z ⟨imf cl26_im,im_flat icl_im ([]:List Int),u0⟩) ?_ ?_ ?_
  ·refine Tn (Ent.norm [7] [(5,5,.arr 26 1 (vo5.map cl26))] [(1,.lst 1 (a1.map icl)),(2,.ipt (Scene.cl a0) 0),(5,.hnd 5),(6,Ai v6),(7,.lst 1 (vo7_1.map icl))] z ⟨⟨_,z,.arr (im_flat cl26_im vo5)⟩,u0⟩ ⟨.rfl' z,.rfl' z,.hnd mh,.rfl' z,.frz (.hnd mh z (im_flat icl_im vo7_1)) z,u0⟩) (Tri.region (Qe 2 z (Q1 z z z (v:=.lst 1 (([vo7_1]:List (List Int)).map cl26)) (Ax.sl (xs:=([vo7_1]:List (List Int))) z slc_44 z z ⟨Sub.refl _,u0⟩ z cl26_len cl26_one cl26_im) ?_)))
   obtain⟨z37,hz,h⟩:=bs h
   exact Qa z z z (v:=.hnd 37) (x:=some (.arr 26 1 (z37.map cl26))) (Ax.app_l (cl:=cl26) z z slc_44 z z z cl26_one cl26_im hz z z) z z z z z (Qd z (Tq z (Xi (v6+1,z37) (An (An z h) (Es [37] [6] z ⟨imf cl26_im,u0⟩ ⟨.imm (Sub.of_eq (show Ai (v6+1)=Ai (W (v6+1)) from congrArg Ai hw.symm)) z,u0⟩)))))
  ·rintro v8 vo7 hi_1 _ h
   refine Ts (Tr (Qe 4 z (Q1 z z z (Ax.ln (cl:=Cell.cl) z slc_22 z) (Qd z (Tc (b:=(decide (v8 < (a0.Basin.Cells.length:Int)))) z (fun hb_2=>?_) (fun hb_2=>?_))))))
   ·exact(lt_f hi_1 hb_2).elim
   exact Tri.exit (Xi vo7 (An h (Ee [5,7] z ⟨imf cl26_im,imf icl_im,u0⟩)))
  rintro nx_1 v8 vo7 _ hi_1 hw_1 h
  refine Ts (Tr (Qe 4 z (Q1 z z z (Ax.ln (cl:=Cell.cl) z slc_22 z) (Qd z (Tc (b:=(decide (v8 < (a0.Basin.Cells.length:Int)))) z (fun hb_3=>?_) (fun hb_3=>?_))))))
  ·refine Tk (Ts (Tri.block (Tri.region (Qe 5 z ?_))))
   obtain⟨x29,hc,h⟩:=bs h
   refine Qc z z z (args:=[.agg (Scene.cl a0),Ai v8,Ai v6]) (r:=Ai x29) (calv z z fnok_205 z) (f205_ok hc) z ?_
   obtain⟨y,hy,h⟩:=bs h
   refine Q1 z z z (Ax.ix (cl:=icl) z slc_26 z z hy) (Qe 1 z (Q1 z z z (v:=.lst 1 (([y]:List Int).map icl)) (Ax.sl (xs:=([y]:List Int)) z slc_26 z z ⟨Sub.refl _,u0⟩ z icl_len icl_one icl_im) ?_))
   obtain⟨z33,hz_1,h⟩:=bs h
   exact Qa z z z (v:=.hnd 33) (x:=some (.arr 3 1 (z33.map icl))) (Ax.app_l (cl:=icl) z z slc_26 z z z icl_one icl_im hz_1 z z) z z z z z (Qd z (Tq z (Xi (v8+1,z33) (An (An z h) (Es [5,33] [8] z ⟨imf cl26_im,imf icl_im,u0⟩ ⟨.imm (Sub.of_eq (show Ai (v8+1)=Ai (W (v8+1)) from congrArg Ai hw_1.symm)) z,u0⟩)))))
  exact(lt_t hi_1 hb_3).elim
 exact(lt_t hi hb_1).elim
theorem f30_ok {K:Nat} {a0:Scene} {r:List (List Int) × Int} (h:f30 K a0=some r):CallOK Tryz.prog 30 [.agg (Scene.cl a0)] [] (.tup [.lst 1 (r.1.map cl26),Ai r.2]) []:=by
 refine Co Tryz.func30 z z (nl z) ?_
 unfold f30 at h
 refine Tr (Qe 1 z (Q1 z z z (v:=.lst 1 (([]:List (List Int)).map cl26)) (Ax.nl 1 z z) (Qd z (Ts (Tr (Qe 1 z ?_))))))
 obtain⟨x10,hc,h⟩:=bs h
 refine Qc z z z (args:=[.agg (Scene.cl a0)]) (r:=Ai x10) (calv z z fnok_76 z) (f76_ok hc) z (Qd z (Tp z (Tc (b:=(x10 != 0)) z (fun hb=>?_) (fun hb=>?_))))
 ·have h:=cq hb h
  refine Tr (Qe 1 z (Q1 z z z (v:=.lst 1 (([]:List (List Int)).map cl26)) (Ax.nl 1 z z) (Qd z (Te ?_))))
  refine Rr (fun r=>.tup [.lst 1 (r.1.map cl26),Ai r.2]) (fun r=>[]) [] h ?_ u0
  rfl
 have h:=cw hb h
 refine Tk (Tr (Qe 1 z ?_))
 obtain⟨⟨x16_0,x16_1⟩,hc_1,h⟩:=bs h
 refine Qc z z z (args:=[.agg (Scene.cl a0)]) (r:=.tup [.agg (Net.cl x16_0),.lst 4 (x16_1.map Reason.cl)]) (calv z z fnok_103 z) (f103_ok hc_1) z (Qe 3 z (Qn z z z (v:=.ptr 5 0) (x:=some (.box (Net.cl (⟨0,([]:List Diff)⟩:Net)))) (Al_ z z zer_34 z ⟨Sub.refl _,Sub.nil _,u0⟩) z z z z z (Qs z z (x:=some (.box (Net.cl x16_0))) (As z siz_34 z z z z z z z) (Qd z (Tr (Qe 1 z ?_))))))
 obtain⟨⟨x21_0,x21_1⟩,hc_2,h⟩:=bs h
 refine Qc z z z (args:=[.agg (Net.cl x16_0)]) (r:=.tup [.lst 1 (x21_0.map icl),Ai x21_1]) (calv z z fnok_109 z) (f109_ok hc_2) z (Qd z (Ts (Tp z (Tc (b:=(x21_1 != 0)) z (fun hb_1=>?_) (fun hb_1=>?_)))))
 ·have h:=cq hb_1 h
  refine Tr (Qe 1 z (Q1 z z z (v:=.lst 1 (([]:List (List Int)).map cl26)) (Ax.nl 1 z z) (Qd z (Te ?_))))
  refine Rr (fun r=>.tup [.lst 1 (r.1.map cl26),Ai r.2]) (fun r=>[]) [] h ?_ u0
  rfl
 have h:=cw hb_1 h
 refine Tk (Tr (Qe 2 z ?_))
 obtain⟨x29,hc_3,h⟩:=bs h
 refine Qc z z z (args:=[.agg (Scene.cl a0),.lst 1 (x21_0.map icl)]) (r:=.lst 1 (x29.map cl26)) (calv z z fnok_110 z) (f110_ok hc_3) z (Qd z (Te ?_))
 refine Rr (fun r=>.tup [.lst 1 (r.1.map cl26),Ai r.2]) (fun r=>[]) [] h ?_ u0
 rfl
theorem f233_ok {K:Nat} {a0:Net} {r:Net} (h:f233 K a0=some r):CallOK Tryz.prog 233 [.agg (Net.cl a0)] [] (.agg (Net.cl r)) []:=by
 refine Co Tryz.func233 z z (nl z) ?_
 unfold f233 at h
 refine Tr (Qe 1 z (Qn z z z (v:=.ptr 2 0) (x:=some (.box (Net.cl (⟨0,([]:List Diff)⟩:Net)))) (Al_ z z zer_34 z ⟨Sub.refl _,Sub.nil _,u0⟩) z z z z z (Rx (Tr (Qe 2 z (Q1 z z z (v:=.agg [Ai a0.Nodes,.sc (.slice none 0 0)]) (Ab_ z zer_34 (bld plc_34 zer_34) z ⟨Sub.refl _,Sub.refl _,u0⟩) (Qn z z z (v:=.ptr 3 0) (x:=some (.box [Ai 0,.sc (.slice none 0 0)])) (Al_ z z zer_34 z ⟨Sub.refl _,Sub.refl _,u0⟩) z z z z z (Qs z z (x:=some (.box [Ai a0.Nodes,.sc (.slice none 0 0)])) (As z siz_34 z z z z z z z) (Rx (Tn (Eg 3 1 900000301 174 3 (cells':=[Ai a0.Nodes,.hnd 900000301]) z z z z) (Ts (Tp z ?_))))))))))))
 obtain⟨voo3_1_1,hj,h⟩:=bs h
 refine Tri.rngLv hj (fun p=>⟨[(1,.ipt (Net.cl a0) 0),(2,.ptr 2 0),(3,.ptr 3 0),(4,Ai p.1)],[(2,some (.box (Net.cl (⟨0,([]:List Diff)⟩:Net)))),(900000301,some (.arr 174 3 (p.2.map Diff.cl))),(3,some (.box [Ai a0.Nodes,.hnd 900000301]))]⟩) (fun(y:List Diff)=>⟨[(2,.ptr 2 0),(3,.ptr 3 0)],[(2,some (.box (Net.cl (⟨0,([]:List Diff)⟩:Net)))),(900000301,some (.arr 174 3 (y.map Diff.cl))),(3,some (.box [Ai a0.Nodes,.hnd 900000301]))]⟩) (Ee [2,900000301,3] z ⟨im_flat Diff_im ([]:List Diff),u0⟩) ?_ ?_ ?_
 ·refine Tr (Qe 1 z (Qs z z (x:=some (.box [Ai a0.Nodes,.hnd 900000301])) (As z siz_34 z z z z z z z) (Rx (Te ?_))))
  refine RetQ.eq2 (fun r=>.agg (Net.cl r)) (fun r=>[]) (Option.some.inj h) ?_
  exact RetQ.mk (vs:=[.agg [Ai a0.Nodes,.hnd 900000301]]) (.inr z) ⟨_,_,z,.cell_box z siz_34 z z z,z⟩ [900000301] [] z z u0 (.frz (.aggV ⟨(.imm z),(.hnd mh z (im_flat Diff_im voo3_1_1)),u0⟩) z)
 ·rintro v4 voo3_1 hi h
  refine Ts (Tr (Qe 3 z (Q1 z z z (Ax.ln (cl:=Diff.cl) z slc_32 z) (Qd z (Tc (b:=(decide (v4 < (a0.Diffs.length:Int)))) z (fun hb=>?_) (fun hb=>?_))))))
  ·exact(lt_f hi hb).elim
  exact Tri.exit (Xi voo3_1 (An h (Ee [2,900000301,3] z ⟨imf Diff_im,u0⟩)))
 rintro nx x v4 voo3_1 _ hi hw hx h
 refine Ts (Tr (Qe 3 z (Q1 z z z (Ax.ln (cl:=Diff.cl) z slc_32 z) (Qd z (Tc (b:=(decide (v4 < (a0.Diffs.length:Int)))) z (fun hb_1=>?_) (fun hb_1=>?_))))))
 ·refine Tk (Ts (Tri.block (Tr (Qe 3 z (Q1 z z z (Ax.ix (cl:=Diff.cl) z slc_32 z z hx) (Qe 1 z (Qn z z z (v:=.ptr 5 0) (x:=some (.box (Diff.cl (⟨0,0,0⟩:Diff)))) (Al_ z z zer_174 z ⟨Sub.refl _,Sub.refl _,Sub.refl _,u0⟩) z z z z z (Qs z z (x:=some (.box (Diff.cl x))) (As z siz_174 z z z z z z z) (Rx (Tri.region (Qe 8 z (Q1 z z z (v:=.agg (Diff.cl (⟨x.To,x.From,x.Most⟩:Diff))) (Ab_ z zer_174 (bld plc_174 zer_174) z ⟨Sub.refl _,Sub.refl _,Sub.refl _,u0⟩) ?_))))))))))))
  refine Q1 z z z (v:=.lst 3 (([(⟨x.To,x.From,x.Most⟩:Diff)]:List Diff).map Diff.cl)) (Ax.sl (xs:=([(⟨x.To,x.From,x.Most⟩:Diff)]:List Diff)) z slc_32 z z ⟨Sub.refl _,Sub.refl _,Sub.refl _,u0⟩ z Diff_len Diff_one Diff_im) ?_
  obtain⟨z31,hz,h⟩:=bs h
  exact Qa z z z (v:=.hnd 31) (x:=some (.arr 174 3 (z31.map Diff.cl))) (Ax.app_l (cl:=Diff.cl) z z slc_32 z z z Diff_one Diff_im hz z z) z z z z z (Qe 1 z (Qs z z (x:=some (.box [Ai a0.Nodes,.hnd 31])) (As z siz_32 z z z z z z z) (Rx (Tq z (Xi (v4+1,z31) (An (An z h) (Es [2,31,3] [4] z ⟨imf Diff_im,u0⟩ ⟨.imm (Sub.of_eq (show Ai (v4+1)=Ai (W (v4+1)) from congrArg Ai hw.symm)) z,u0⟩)))))))
 exact(lt_t hi hb_1).elim
theorem f112_ok {K:Nat} {a0:Net} {r:List Int × Int} (h:f112 K a0=some r):CallOK Tryz.prog 112 [.agg (Net.cl a0)] [] (.tup [.lst 1 (r.1.map icl),Ai r.2]) []:=by
 refine Co Tryz.func112 z z (nl z) ?_
 unfold f112 at h
 refine Tr (Qe 1 z (Q1 z z z (v:=.lst 1 (([]:List Int).map icl)) (Ax.nl 1 z z) (Qd z (Tr (Qe 1 z ?_)))))
 obtain⟨x10,hc,h⟩:=bs h
 refine Qc z z z (args:=[.agg (Net.cl a0)]) (r:=.agg (Net.cl x10)) (calv z z fnok_233 z) (f233_ok hc) z ?_
 obtain⟨⟨x11_0,x11_1⟩,hc_1,h⟩:=bs h
 refine Qc z z z (args:=[.agg (Net.cl x10)]) (r:=.tup [.lst 1 (x11_0.map icl),Ai x11_1]) (calv z z fnok_109 z) (f109_ok hc_1) z (Qd z (Ts (Tp z (Tc (b:=(x11_1 != 0)) z (fun hb=>?_) (fun hb=>?_)))))
 ·have h:=cq hb h
  refine Tr (Qe 1 z (Q1 z z z (v:=.lst 1 (([]:List Int).map icl)) (Ax.nl 1 z z) (Qd z (Te ?_))))
  refine Rr (fun r=>.tup [.lst 1 (r.1.map icl),Ai r.2]) (fun r=>[]) [] h ?_ u0
  rfl
 have h:=cw hb h
 refine Tk (Tr (Qn z z z (v:=.hnd 6) (x:=some (.arr 3 1 (([]:List Int).map icl))) (Ax.nil_new 3 1 (.inr z) z) z z z z z (Rx (Ts (Tp z ?_)))))
 obtain⟨vo6_1,hj,h⟩:=bs h
 refine Tri.rngLv hj (fun p=>⟨[(4,.lst 1 (x11_0.map icl)),(6,.hnd 6),(7,Ai p.1)],[(6,some (.arr 3 1 (p.2.map icl)))]⟩) (fun(y:List Int)=>⟨[(6,.hnd 6)],[(6,some (.arr 3 1 (y.map icl)))]⟩) (Ee [6] z ⟨im_flat icl_im ([]:List Int),u0⟩) ?_ ?_ ?_
 ·refine Tp z (Te ?_)
  refine RetQ.eq2 (fun r=>.tup [.lst 1 (r.1.map icl),Ai r.2]) (fun r=>[]) (Option.some.inj h) ?_
  exact RetQ.mk (vs:=[.hnd 6,Ai 0]) (.inr z) ⟨_,_,z,.tmp z,⟨_,_,z,.tmp z,z⟩⟩ [6] [] z z u0 (.tupV ⟨.frz (.hnd mh z (im_flat icl_im vo6_1)) z,.rfl' z,u0⟩)
 ·rintro v7 vo6 hi h
  refine Ts (Tr (Qe 2 z (Q1 z z z (Ax.ln (cl:=icl) z slc_26 z) (Qd z (Tc (b:=(decide (v7 < (x11_0.length:Int)))) z (fun hb_1=>?_) (fun hb_1=>?_))))))
  ·exact(lt_f hi hb_1).elim
  exact Tri.exit (Xi vo6 (An h (Ee [6] z ⟨imf icl_im,u0⟩)))
 rintro nx x v7 vo6 _ hi hw hx h
 refine Ts (Tr (Qe 2 z (Q1 z z z (Ax.ln (cl:=icl) z slc_26 z) (Qd z (Tc (b:=(decide (v7 < (x11_0.length:Int)))) z (fun hb_2=>?_) (fun hb_2=>?_))))))
 ·refine Tk (Ts (Tri.block (Tri.region (Qe 3 z (Q1 z z z (Ax.ix (cl:=icl) z slc_26 z z hx) (Qe 2 z (Q1 z z z (v:=.lst 1 (([(W (-x))]:List Int).map icl)) (Ax.sl (xs:=([(W (-x))]:List Int)) z slc_26 z z ⟨Sub.refl _,u0⟩ z icl_len icl_one icl_im) ?_)))))))
  obtain⟨z30,hz,h⟩:=bs h
  exact Qa z z z (v:=.hnd 30) (x:=some (.arr 3 1 (z30.map icl))) (Ax.app_l (cl:=icl) z z slc_26 z z z icl_one icl_im hz z z) z z z z z (Qd z (Tq z (Xi (v7+1,z30) (An (An z h) (Es [30] [7] z ⟨imf icl_im,u0⟩ ⟨.imm (Sub.of_eq (show Ai (v7+1)=Ai (W (v7+1)) from congrArg Ai hw.symm)) z,u0⟩)))))
 exact(lt_t hi hb_2).elim
theorem f32_ok {K:Nat} {a0:Scene} {r:List (List Int) × Int} (h:f32 K a0=some r):CallOK Tryz.prog 32 [.agg (Scene.cl a0)] [] (.tup [.lst 1 (r.1.map cl26),Ai r.2]) []:=by
 refine Co Tryz.func32 z z (nl z) ?_
 unfold f32 at h
 refine Tr (Qe 1 z (Q1 z z z (v:=.lst 1 (([]:List (List Int)).map cl26)) (Ax.nl 1 z z) (Qd z (Ts (Tr (Qe 1 z ?_))))))
 obtain⟨x10,hc,h⟩:=bs h
 refine Qc z z z (args:=[.agg (Scene.cl a0)]) (r:=Ai x10) (calv z z fnok_76 z) (f76_ok hc) z (Qd z (Tp z (Tc (b:=(x10 != 0)) z (fun hb=>?_) (fun hb=>?_))))
 ·have h:=cq hb h
  refine Tr (Qe 1 z (Q1 z z z (v:=.lst 1 (([]:List (List Int)).map cl26)) (Ax.nl 1 z z) (Qd z (Te ?_))))
  refine Rr (fun r=>.tup [.lst 1 (r.1.map cl26),Ai r.2]) (fun r=>[]) [] h ?_ u0
  rfl
 have h:=cw hb h
 refine Tk (Tr (Qe 1 z ?_))
 obtain⟨⟨x16_0,x16_1⟩,hc_1,h⟩:=bs h
 refine Qc z z z (args:=[.agg (Scene.cl a0)]) (r:=.tup [.agg (Net.cl x16_0),.lst 4 (x16_1.map Reason.cl)]) (calv z z fnok_103 z) (f103_ok hc_1) z (Qe 3 z (Qn z z z (v:=.ptr 5 0) (x:=some (.box (Net.cl (⟨0,([]:List Diff)⟩:Net)))) (Al_ z z zer_34 z ⟨Sub.refl _,Sub.nil _,u0⟩) z z z z z (Qs z z (x:=some (.box (Net.cl x16_0))) (As z siz_34 z z z z z z z) (Qd z (Tr (Qe 1 z ?_))))))
 obtain⟨⟨x21_0,x21_1⟩,hc_2,h⟩:=bs h
 refine Qc z z z (args:=[.agg (Net.cl x16_0)]) (r:=.tup [.lst 1 (x21_0.map icl),Ai x21_1]) (calv z z fnok_112 z) (f112_ok hc_2) z (Qd z (Ts (Tp z (Tc (b:=(x21_1 != 0)) z (fun hb_1=>?_) (fun hb_1=>?_)))))
 ·have h:=cq hb_1 h
  refine Tr (Qe 1 z (Q1 z z z (v:=.lst 1 (([]:List (List Int)).map cl26)) (Ax.nl 1 z z) (Qd z (Te ?_))))
  refine Rr (fun r=>.tup [.lst 1 (r.1.map cl26),Ai r.2]) (fun r=>[]) [] h ?_ u0
  rfl
 have h:=cw hb_1 h
 refine Tk (Tr (Qe 2 z ?_))
 obtain⟨x29,hc_3,h⟩:=bs h
 refine Qc z z z (args:=[.agg (Scene.cl a0),.lst 1 (x21_0.map icl)]) (r:=.lst 1 (x29.map cl26)) (calv z z fnok_110 z) (f110_ok hc_3) z (Qd z (Te ?_))
 refine Rr (fun r=>.tup [.lst 1 (r.1.map cl26),Ai r.2]) (fun r=>[]) [] h ?_ u0
 rfl
theorem f115_ok {K:Nat} {a0:Scene} {a1:Int} {a2:Int} {r:Int} (h:f115 K a0 a1 a2=some r):CallOK Tryz.prog 115 [.agg (Scene.cl a0),Ai a1,Ai a2] [] (Ai r) []:=by
 refine Co Tryz.func115 z z (nl z) ?_
 unfold f115 at h
 refine Tp z (Ts (Tr (Qe 1 z ?_)))
 obtain⟨x9,hc,h⟩:=bs h
 refine Qc z z z (args:=[.agg (Scene.cl a0)]) (r:=Ai x9) (calv z z fnok_76 z) (f76_ok hc) z (Qd z (Tp z (Tc (b:=(x9 != 0)) z (fun hb=>?_) (fun hb=>?_))))
 ·have h:=cq hb h
  refine Tp z (Te ?_)
  exact Ri h z
 have h:=cw hb h
 refine Tk (Ts (Ts ?_))
 obtain⟨v23,hj,h⟩:=bs h
 refine Tri.joinv v23 (fun(y:Bool)=>⟨[(23,Ab y)],[]⟩) ?_ ?_
 ·refine Tc (b:=v23) z (fun hb_1=>?_) (fun hb_1=>?_)
  ·have h:=cq hb_1 h
   refine Tp z (Te ?_)
   exact Ri h z
  have h:=cw hb_1 h
  refine Tk (Tp z (Te ?_))
  exact Ri h z
 have h:=hj
 refine Tri.region (Qe 3 z ?_)
 obtain⟨x16,hc_1,h⟩:=bs h
 refine Qc z z z (args:=[.agg (Basin.cl a0.Basin),Ai a1]) (r:=Ai x16) (calv z z fnok_116 z) (f116_ok hc_1) z (Qe 2 z ?_)
 rcases b2 (decide (x16 < 0)) with hb_2 | hb_2
 ·have h:=cq hb_2 h
  exact Qk 18 hb_2 z (Qd z (Xi true (An h (E0 z))))
 have h:=cw hb_2 h
 refine Qk 18 hb_2 z (Qe 2 z ?_)
 obtain⟨x21,hc_2,h⟩:=bs h
 exact Qc z z z (args:=[.agg (Scene.cl a0),Ai a2]) (r:=Ai x21) (calv z z fnok_117 z) (f117_ok hc_2) z (Qd z (Xi (decide (x21 < 0)) (An h (E0 z))))
theorem f34_ok {K:Nat} {a0:Scene} {a1:Int} {a2:Int} {r:Span × Int} (h:f34 K a0 a1 a2=some r):CallOK Tryz.prog 34 [.agg (Scene.cl a0),Ai a1,Ai a2] [] (.tup [.agg (Span.cl r.1),Ai r.2]) []:=by
 refine Co Tryz.func34 z z (nl z) ?_
 unfold f34 at h
 refine Tr (Qe 1 z (Qn z z z (v:=.ptr 6 0) (x:=some (.box (Span.cl (⟨0,0⟩:Span)))) (Al_ z z zer_49 z ⟨Sub.refl _,Sub.refl _,u0⟩) z z z z z (Qd z (Ts (Tr (Qe 3 z ?_))))))
 obtain⟨x18,hc,h⟩:=bs h
 refine Qc z z z (args:=[.agg (Scene.cl a0),Ai a1,Ai a2]) (r:=Ai x18) (calv z z fnok_115 z) (f115_ok hc) z (Qd z (Tp z (Tc (b:=(x18 != 0)) z (fun hb=>?_) (fun hb=>?_))))
 ·have h:=cq hb h
  refine Tr (Q1 z z z (v:=.agg (Span.cl (⟨0,0⟩:Span))) (Ab_ z zer_49 (bld plc_49 zer_49) z ⟨Sub.refl _,Sub.refl _,u0⟩) (Qe 1 z (Qs z z (x:=some (.box (Span.cl (⟨0,0⟩:Span)))) (As z siz_49 z z z z z z z) (Qd z (Te ?_)))))
  refine Rr (fun r=>.tup [.agg (Span.cl r.1),Ai r.2]) (fun r=>[]) [] h ?_ u0
  rfl
 have h:=cw hb h
 refine Tk (Tr (Qe 1 z ?_))
 obtain⟨⟨x25_0,x25_1⟩,hc_1,h⟩:=bs h
 refine Qc z z z (args:=[.agg (Scene.cl a0)]) (r:=.tup [.lst 1 (x25_0.map cl26),Ai x25_1]) (calv z z fnok_32 z) (f32_ok hc_1) z (Qd z (Ts (Tp z (Tc (b:=(x25_1 != 0)) z (fun hb_1=>?_) (fun hb_1=>?_)))))
 ·have h:=cq hb_1 h
  refine Tr (Q1 z z z (v:=.agg (Span.cl (⟨0,0⟩:Span))) (Ab_ z zer_49 (bld plc_49 zer_49) z ⟨Sub.refl _,Sub.refl _,u0⟩) (Qe 1 z (Qs z z (x:=some (.box (Span.cl (⟨0,0⟩:Span)))) (As z siz_49 z z z z z z z) (Qd z (Te ?_)))))
  refine Rr (fun r=>.tup [.agg (Span.cl r.1),Ai r.2]) (fun r=>[]) [] h ?_ u0
  rfl
 have h:=cw hb_1 h
 refine Tk (Tr (Qe 1 z ?_))
 obtain⟨⟨x34_0,x34_1⟩,hc_2,h⟩:=bs h
 refine Qc z z z (args:=[.agg (Scene.cl a0)]) (r:=.tup [.lst 1 (x34_0.map cl26),Ai x34_1]) (calv z z fnok_30 z) (f30_ok hc_2) z (Qd z (Ts (Td [[],[0],[],[0,1,2],[],[],[0,1,2,3,4,5],[0,1,2,3,4,5,6],[0,1,2,3,4,5,6,7]] hmix (by kernel_rfl) (Qe 3 z ?_))))
 obtain⟨x40,hc_3,h⟩:=bs h
 refine Qc z z z (args:=[.agg (Basin.cl a0.Basin),Ai a1]) (r:=Ai x40) (calv z z fnok_116 z) (f116_ok hc_3) z (Qe 2 z ?_)
 obtain⟨x43,hc_4,h⟩:=bs h
 refine Qc z z z (args:=[.agg (Scene.cl a0),Ai a2]) (r:=Ai x43) (calv z z fnok_117 z) (f117_ok hc_4) z (Qe 2 z (Rx ⟨by kernel_rfl,freshL_of [] (by kernel_rfl) (by kernel_rfl),?_⟩))
 refine Ts (Td [[],[],[0,1],[0,1,2],[],[0,1,2,3,4],[0,1,2,3,4,5],[],[],[7,8],[7,8,9],[],[7,8,9,10,11],[7,8,9,10,11,12],[0,1,2,3,4,5,6,7,8,9,10,11,12,13],[0,1,2,3,4,5,6,7,8,9,10,11,12,13,14],[]] hmix (by kernel_rfl) (Qe 2 z ?_))
 obtain⟨y,hy,h⟩:=bs h
 refine Q1 z z z (Ax.ix (cl:=cl26) z slc_44 z z hy) (Qe 2 z ?_)
 obtain⟨y_1,hy_1,h⟩:=bs h
 refine Q1 z z z (Ax.ix (cl:=icl) z slc_26 z z hy_1) (Qe 3 z ?_)
 obtain⟨y_2,hy_2,h⟩:=bs h
 refine Q1 z z z (Ax.ix (cl:=cl26) z slc_44 z z hy_2) (Qe 2 z ?_)
 obtain⟨y_3,hy_3,h⟩:=bs h
 refine Q1 z z z (Ax.ix (cl:=icl) z slc_26 z z hy_3) (Qe 1 z (Q1 z z z (v:=.agg (Span.cl (⟨y_1,y_3⟩:Span))) (Ab_ z zer_49 (bld plc_49 zer_49) z ⟨Sub.refl _,Sub.refl _,u0⟩) (Qs z z (x:=some (.box (Span.cl (⟨y_1,y_3⟩:Span)))) (As z siz_49 z z z z z z z) (Qe 1 z (Rx ⟨by kernel_rfl,freshL_of [] (by kernel_rfl) (by kernel_rfl),?_⟩)))))
 refine Te ?_
 refine Rr (fun r=>.tup [.agg (Span.cl r.1),Ai r.2]) (fun r=>[]) [] h ?_ u0
 rfl
theorem f198_ok {K:Nat} {a0:Scene} {a1:Scene} {a2:List Int} {a3:Int} {r:Bool} (h:f198 K a0 a1 a2 a3=some r):CallOK Tryz.prog 198 [.agg (Scene.cl a0),.agg (Scene.cl a1),.lst 1 (a2.map icl),Ai a3] [] (Ab r) []:=by
 refine Co Tryz.func198 z z (nl z) ?_
 unfold f198 at h
 refine Tp z (Ts (Tp z ?_))
 obtain⟨j,hj,h⟩:=jo h
 refine Tri.rngL h (fun p=>⟨[(2,.lst 1 (a2.map icl)),(3,Ai a3),(4,.ipt (Scene.cl a0) 0),(5,.ipt (Scene.cl a1) 0),(9,Ai p.1)],[]⟩) (fun y=>j y=some r) (fun(y:Unit)=>⟨[],[]⟩) (E0 z) ?_ ?_ ?_
 ·rintro⟨⟩ h
  subst hj
  refine Tp z (Te ?_)
  exact Rb h z
 ·rintro v9 ⟨⟩ hi h
  refine Ts (Tr (Qe 2 z (Q1 z z z (Ax.ln (cl:=icl) z slc_26 z) (Qd z (Tc (b:=(decide (v9 < (a2.length:Int)))) z (fun hb=>?_) (fun hb=>?_))))))
  ·exact(lt_f hi hb).elim
  exact Tri.exit (Xi () (An h (E0 z)))
 rintro nx x v9 ⟨⟩ _ hi hw hx h
 refine Ts (Tr (Qe 2 z (Q1 z z z (Ax.ln (cl:=icl) z slc_26 z) (Qd z (Tc (b:=(decide (v9 < (a2.length:Int)))) z (fun hb_1=>?_) (fun hb_1=>?_))))))
 ·refine Tk (Ts (Tri.block (Ts (Td [[],[],[],[1,2],[1,2,3],[],[0,1,2,3,4,5],[0,1,2,3,4,5,6],[0,1,2,3,4,5,6,7],[0,1,2,3,4,5,6,7],[],[0,1,2,3,4,5,6,7,8,10],[0,1,2,3,4,5,6,7,8,9,10,11]] hmix (by kernel_rfl) (Qe 3 z (Q1 z z z (Ax.ix (cl:=icl) z slc_26 z z hx) (Qe 2 z ?_)))))))
  obtain⟨⟨x27_0,x27_1⟩,hc,h⟩:=bs h
  refine Qc z z z (args:=[.agg (Scene.cl a0),Ai x,Ai a3]) (r:=.tup [.agg (Span.cl x27_0),Ai x27_1]) (calv z z fnok_34 z) (f34_ok hc) z (Qe 3 z (Qn z z z (v:=.ptr 10 0) (x:=some (.box (Span.cl (⟨0,0⟩:Span)))) (Al_ z z zer_49 z ⟨Sub.refl _,Sub.refl _,u0⟩) z z z z z (Qs z z (x:=some (.box (Span.cl x27_0))) (As z siz_49 z z z z z z z) (Qe 1 z (Rx ⟨by kernel_rfl,freshL_of [10] (by kernel_rfl) (by kernel_rfl),?_⟩)))))
  refine Ts (Td [[],[],[],[1,2],[1,2,3],[],[0,1,2,3,4,5],[0,1,2,3,4,5,6],[0,1,2,3,4,5,6,7],[0,1,2,3,4,5,6,7],[],[0,1,2,3,4,5,6,7,8,10],[0,1,2,3,4,5,6,7,8,9,10,11]] hmix (by kernel_rfl) (Qe 3 z (Q1 z z z (Ax.ix (cl:=icl) z slc_26 z z hx) (Qe 2 z ?_))))
  obtain⟨⟨x37_0,x37_1⟩,hc_1,h⟩:=bs h
  refine Qc z z z (args:=[.agg (Scene.cl a1),Ai x,Ai a3]) (r:=.tup [.agg (Span.cl x37_0),Ai x37_1]) (calv z z fnok_34 z) (f34_ok hc_1) z (Qe 3 z (Qn z z z (v:=.ptr 12 0) (x:=some (.box (Span.cl (⟨0,0⟩:Span)))) (Al_ z z zer_49 z ⟨Sub.refl _,Sub.refl _,u0⟩) z z z z z (Qs z z (x:=some (.box (Span.cl x37_0))) (As z siz_49 z z z z z z z) (Qe 1 z (Rx ⟨by kernel_rfl,freshL_of [12] (by kernel_rfl) (by kernel_rfl),?_⟩)))))
  refine Tr (Qe 2 z (Q1 z z z (v:=Ab (!(decide (x27_0=x37_0)))) (Ax.nes (xs:=[.int .i64 x27_0.Lo,.int .i64 x27_0.Hi]) (ys:=[.int .i64 x37_0.Lo,.int .i64 x37_0.Hi]) (fsp_49 x27_0 x37_0) z z z (eqs_49 x27_0 x37_0)) (Rx (Tc (b:=(!(decide (x27_0=x37_0)))) z (fun hb_2=>?_) (fun hb_2=>?_)))))
  ·have h:=cq hb_2 h
   refine Tp z (Te ?_)
   exact Rb h z
  have h:=cw hb_2 h
  exact Tk (Tq z (Xi (v9+1,()) (An (An z h) (Es0 [9] z ⟨.imm (Sub.of_eq (show Ai (v9+1)=Ai (W (v9+1)) from congrArg Ai hw.symm)) z,u0⟩))))
 exact(lt_t hi hb_1).elim
theorem f87_ok {K:Nat} {a0:Scene} {a1:List Int} {a2:Int} {a3:List Int} {r:Int} (h:f87 K a0 a1 a2 a3=some r):CallOK Tryz.prog 87 [.agg (Scene.cl a0),.lst 1 (a1.map icl),Ai a2,.lst 1 (a3.map icl)] [] (Ai r) []:=by
 refine Co Tryz.func87 z z (nl z) ?_
 unfold f87 at h
 refine Tp z (Ts (Tr (Qe 1 z ?_)))
 obtain⟨x12,hc,h⟩:=bs h
 refine Qc z z z (args:=[.agg (Scene.cl a0)]) (r:=Ai x12) (calv z z fnok_76 z) (f76_ok hc) z (Qd z (Tp z (Tc (b:=(x12 != 0)) z (fun hb=>?_) (fun hb=>?_))))
 ·have h:=cq hb h
  refine Tp z (Te ?_)
  exact Ri h z
 have h:=cw hb h
 refine Tk (Ts (Ts ?_))
 obtain⟨v31,hj_1,h⟩:=bs h
 refine Tri.joinv v31 (fun(y:Bool)=>⟨[(1,.lst 1 (a1.map icl)),(2,Ai a2),(3,.lst 1 (a3.map icl)),(4,.ipt (Scene.cl a0) 0),(31,Ab y)],[]⟩) ?_ ?_
 ·refine Tc (b:=v31) z (fun hb_1=>?_) (fun hb_1=>?_)
  ·have h:=cq hb_1 h
   refine Tp z (Te ?_)
   exact Ri h z
  have h:=cw hb_1 h
  refine Tk (Ts (Tr (Qe 1 z ?_)))
  obtain⟨x33,hc_1,h⟩:=bs h
  refine Qc z z z (args:=[.agg (Scene.cl a0)]) (r:=Ab x33) (calv z z fnok_80 z) (f80_ok hc_1) z (Qd z (Tc (b:=(!x33)) z (fun hb_2=>?_) (fun hb_2=>?_)))
  ·have h:=cq hb_2 h
   refine Tp z (Te ?_)
   exact Ri h z
  have h:=cw hb_2 h
  refine Tk (Ts (Ts (Td [[],[],[],[1,2],[],[],[0,1,2,3,4,5],[0,1,2,3,4,5,6]] hmix (by kernel_rfl) (Qe 3 z ?_))))
  obtain⟨x38,hc_2,h⟩:=bs h
  refine Qc z z z (args:=[.agg (Scene.cl a0),.lst 1 (a3.map icl)]) (r:=.agg (Scene.cl x38)) (calv z z fnok_186 z) (f186_ok hc_2) z (Qe 2 z ?_)
  obtain⟨x41,hc_3,h⟩:=bs h
  refine Qc z z z (args:=[.agg (Scene.cl a0),.agg (Scene.cl x38),.lst 1 (a1.map icl),Ai a2]) (r:=Ab x41) (calv z z fnok_198 z) (f198_ok hc_3) z (Qe 1 z (Rx ⟨by kernel_rfl,freshL_of [] (by kernel_rfl) (by kernel_rfl),?_⟩))
  refine Tc (b:=(!x41)) z (fun hb_3=>?_) (fun hb_3=>?_)
  ·have h:=cq hb_3 h
   refine Tp z (Te ?_)
   exact Ri h z
  have h:=cw hb_3 h
  refine Tk (Ts (Tp z ?_))
  obtain⟨j,hj,h⟩:=jo h
  refine Tri.rngN h (fun p=>⟨[(1,.lst 1 (a1.map icl)),(2,Ai a2),(3,.lst 1 (a3.map icl)),(4,.ipt (Scene.cl a0) 0),(10,Ai p.1)],[]⟩) (fun y=>j y=some r) (fun(y:Unit)=>⟨[],[]⟩) (E0 z) ?_ ?_ ?_
  ·rintro⟨⟩ h
   subst hj
   refine Tp z (Te ?_)
   exact Ri h z
  ·rintro v10 ⟨⟩ hi _ h
   refine Ts (Tr (Qe 2 z (Q1 z z z (Ax.ln (cl:=icl) z slc_26 z) (Qd z (Tc (b:=(decide (v10 < (a3.length:Int)))) z (fun hb_4=>?_) (fun hb_4=>?_))))))
   ·exact(lt_f hi hb_4).elim
   exact Tri.exit (Xi () (An h (E0 z)))
  rintro nx v10 ⟨⟩ _ hi hw h
  refine Ts (Tr (Qe 2 z (Q1 z z z (Ax.ln (cl:=icl) z slc_26 z) (Qd z (Tc (b:=(decide (v10 < (a3.length:Int)))) z (fun hb_5=>?_) (fun hb_5=>?_))))))
  ·refine Tk (Ts (Tri.block (Ts (Td [[],[],[],[],[2,3],[1,2,3,4],[],[],[0,1,2,3,4,5,6,7]] hmix (by kernel_rfl) (Qe 4 z ?_)))))
   obtain⟨x53,hc_4,h⟩:=bs h
   refine Qc z z z (args:=[.lst 1 (a3.map icl),Ai v10]) (r:=.lst 1 (x53.map icl)) (calv z z fnok_187 z) (f187_ok hc_4) z ?_
   obtain⟨x54,hc_5,h⟩:=bs h
   refine Qc z z z (args:=[.agg (Scene.cl a0),.lst 1 (x53.map icl)]) (r:=.agg (Scene.cl x54)) (calv z z fnok_186 z) (f186_ok hc_5) z (Qe 2 z ?_)
   obtain⟨x57,hc_6,h⟩:=bs h
   refine Qc z z z (args:=[.agg (Scene.cl a0),.agg (Scene.cl x54),.lst 1 (a1.map icl),Ai a2]) (r:=Ab x57) (calv z z fnok_198 z) (f198_ok hc_6) z (Rx ⟨by kernel_rfl,freshL_of [] (by kernel_rfl) (by kernel_rfl),?_⟩)
   refine Tc (b:=x57) z (fun hb_6=>?_) (fun hb_6=>?_)
   ·have h:=cq hb_6 h
    refine Tp z (Te ?_)
    exact Ri h z
   have h:=cw hb_6 h
   exact Tk (Tq z (Xi (v10+1,()) (An (An z h) (Es0 [10] z ⟨.imm (Sub.of_eq (show Ai (v10+1)=Ai (W (v10+1)) from congrArg Ai hw.symm)) z,u0⟩))))
  exact(lt_t hi hb_5).elim
 have h:=hj_1
 refine Tri.region (Qe 3 z ?_)
 obtain⟨x19,hc_7,h⟩:=bs h
 refine Qc z z z (args:=[.agg (Basin.cl a0.Basin),.lst 1 (a1.map icl)]) (r:=Ab x19) (calv z z fnok_197 z) (f197_ok hc_7) z (Qe 2 z ?_)
 rcases b2 (!x19) with hb_7 | hb_7
 ·have h:=cq hb_7 h
  exact Qk 21 hb_7 z (Qd z (Xi true (An h (E0 z))))
 have h:=cw hb_7 h
 refine Qk 21 hb_7 z (Qe 2 z ?_)
 obtain⟨x24,hc_8,h⟩:=bs h
 refine Qc z z z (args:=[.agg (Scene.cl a0),Ai a2]) (r:=Ai x24) (calv z z fnok_117 z) (f117_ok hc_8) z (Qe 3 z ?_)
 rcases b2 (decide (x24 < 0)) with hb_8 | hb_8
 ·have h:=cq hb_8 h
  exact Qk 27 hb_8 z (Qd z (Xi true (An h (E0 z))))
 have h:=cw hb_8 h
 refine Qk 27 hb_8 z (Qe 1 z ?_)
 obtain⟨x29,hc_9,h⟩:=bs h
 exact Qc z z z (args:=[.lst 1 (a3.map icl)]) (r:=Ab x29) (calv z z fnok_185 z) (f185_ok hc_9) z (Qd z (Xi (!x29) (An h (E0 z))))
theorem f199_ok {K:Nat} {a0:Scene} {a1:List Int} {a2:List Int} {r:Int} (h:f199 K a0 a1 a2=some r):CallOK Tryz.prog 199 [.agg (Scene.cl a0),.lst 1 (a1.map icl),.lst 1 (a2.map icl)] [] (Ai r) []:=by
 refine Co Tryz.func199 z z (nl z) ?_
 unfold f199 at h
 refine Tp z (Tp z (Ts (Tp z ?_)))
 obtain⟨v7_1,hj,h⟩:=bs h
 refine Tri.rngLv hj (fun p=>⟨[(1,.lst 1 (a1.map icl)),(2,.lst 1 (a2.map icl)),(3,.ipt (Scene.cl a0) 0),(7,Ai p.2),(8,Ai p.1)],[]⟩) (fun(y:Int)=>⟨[(7,Ai y)],[]⟩) (E0 z) ?_ ?_ ?_
 ·refine Tp z (Te ?_)
  exact Ri h z
 ·rintro v8 v7 hi h
  refine Ts (Tr (Qe 2 z (Q1 z z z (Ax.ln (cl:=icl) z slc_26 z) (Qd z (Tc (b:=(decide (v8 < (a1.length:Int)))) z (fun hb=>?_) (fun hb=>?_))))))
  ·exact(lt_f hi hb).elim
  exact Tri.exit (Xi v7 (An h (E0 z)))
 rintro nx x v8 v7 _ hi hw hx h
 refine Ts (Tr (Qe 2 z (Q1 z z z (Ax.ln (cl:=icl) z slc_26 z) (Qd z (Tc (b:=(decide (v8 < (a1.length:Int)))) z (fun hb_1=>?_) (fun hb_1=>?_))))))
 ·refine Tk (Ts (Tri.block (Ts (Td [[],[0],[],[],[2,3],[2,3,4],[0,1,2,3,4,5],[0,1,2,3,4,5,6]] hmix (by kernel_rfl) (Qe 4 z (Q1 z z z (Ax.ix (cl:=icl) z slc_26 z z hx) (Qe 1 z ?_)))))))
  obtain⟨x22,hc,h⟩:=bs h
  refine Qc z z z (args:=[.agg (Basin.cl a0.Basin),Ai x]) (r:=Ai x22) (calv z z fnok_116 z) (f116_ok hc) z (Qe 1 z (Rx ⟨by kernel_rfl,freshL_of [] (by kernel_rfl) (by kernel_rfl),?_⟩))
  refine Td [] hmix (by kernel_rfl) (Qe 5 z ?_)
  obtain⟨y,hy,h⟩:=bs h
  refine Q1 z z z (Ax.ix (cl:=Cell.cl) z slc_22 z z hy) (Qe 4 z ?_)
  obtain⟨y_1,hy_1,h⟩:=bs h
  refine Q1 z z z (Ax.ix (cl:=icl) z slc_26 z z hy_1) (Qe 4 z (Rx ⟨by kernel_rfl,freshL_of [] (by kernel_rfl) (by kernel_rfl),?_⟩))
  exact Tq z (Xi (v8+1,(W (v7+(W (y.Area*y_1))))) (An (An z h) (Es0 [8] z ⟨.imm (Sub.of_eq (show Ai (v8+1)=Ai (W (v8+1)) from congrArg Ai hw.symm)) z,u0⟩)))
 exact(lt_t hi hb_1).elim
theorem f88_ok {K:Nat} {a0:Scene} {a1:List Int} {a2:Int} {r:Span × Int} (h:f88 K a0 a1 a2=some r):CallOK Tryz.prog 88 [.agg (Scene.cl a0),.lst 1 (a1.map icl),Ai a2] [] (.tup [.agg (Span.cl r.1),Ai r.2]) []:=by
 refine Co Tryz.func88 z z (nl z) ?_
 unfold f88 at h
 refine Tr (Qe 1 z (Qn z z z (v:=.ptr 6 0) (x:=some (.box (Span.cl (⟨0,0⟩:Span)))) (Al_ z z zer_49 z ⟨Sub.refl _,Sub.refl _,u0⟩) z z z z z (Qd z (Ts (Tr (Qe 1 z ?_))))))
 obtain⟨x15,hc,h⟩:=bs h
 refine Qc z z z (args:=[.agg (Scene.cl a0)]) (r:=Ai x15) (calv z z fnok_76 z) (f76_ok hc) z (Qd z (Tp z (Tc (b:=(x15 != 0)) z (fun hb=>?_) (fun hb=>?_))))
 ·have h:=cq hb h
  refine Tr (Q1 z z z (v:=.agg (Span.cl (⟨0,0⟩:Span))) (Ab_ z zer_49 (bld plc_49 zer_49) z ⟨Sub.refl _,Sub.refl _,u0⟩) (Qe 1 z (Qs z z (x:=some (.box (Span.cl (⟨0,0⟩:Span)))) (As z siz_49 z z z z z z z) (Qd z (Te ?_)))))
  refine Rr (fun r=>.tup [.agg (Span.cl r.1),Ai r.2]) (fun r=>[]) [] h ?_ u0
  rfl
 have h:=cw hb h
 refine Tk (Ts (Ts ?_))
 obtain⟨v30,hj,h⟩:=bs h
 refine Tri.joinv v30 (fun(y:Bool)=>⟨[(1,.lst 1 (a1.map icl)),(2,Ai a2),(3,.ipt (Scene.cl a0) 0),(6,.ptr 6 0),(30,Ab y)],[(6,some (.box (Span.cl (⟨0,0⟩:Span))))]⟩) ?_ ?_
 ·refine Tc (b:=v30) z (fun hb_1=>?_) (fun hb_1=>?_)
  ·have h:=cq hb_1 h
   refine Tr (Q1 z z z (v:=.agg (Span.cl (⟨0,0⟩:Span))) (Ab_ z zer_49 (bld plc_49 zer_49) z ⟨Sub.refl _,Sub.refl _,u0⟩) (Qs z z (x:=some (.box (Span.cl (⟨0,0⟩:Span)))) (As z siz_49 z z z z z z z) (Qd z (Te ?_))))
   refine Rr (fun r=>.tup [.agg (Span.cl r.1),Ai r.2]) (fun r=>[]) [] h ?_ u0
   rfl
  have h:=cw hb_1 h
  refine Tk (Tr (Qe 1 z ?_))
  obtain⟨⟨x34_0,x34_1⟩,hc_1,h⟩:=bs h
  refine Qc z z z (args:=[.agg (Scene.cl a0)]) (r:=.tup [.lst 1 (x34_0.map cl26),Ai x34_1]) (calv z z fnok_32 z) (f32_ok hc_1) z (Qd z (Ts (Tp z (Tc (b:=(x34_1 != 0)) z (fun hb_2=>?_) (fun hb_2=>?_)))))
  ·have h:=cq hb_2 h
   refine Tr (Q1 z z z (v:=.agg (Span.cl (⟨0,0⟩:Span))) (Ab_ z zer_49 (bld plc_49 zer_49) z ⟨Sub.refl _,Sub.refl _,u0⟩) (Qe 1 z (Qs z z (x:=some (.box (Span.cl (⟨0,0⟩:Span)))) (As z siz_49 z z z z z z z) (Qd z (Te ?_)))))
   refine Rr (fun r=>.tup [.agg (Span.cl r.1),Ai r.2]) (fun r=>[]) [] h ?_ u0
   rfl
  have h:=cw hb_2 h
  refine Tk (Tr (Qe 1 z ?_))
  obtain⟨⟨x43_0,x43_1⟩,hc_2,h⟩:=bs h
  refine Qc z z z (args:=[.agg (Scene.cl a0)]) (r:=.tup [.lst 1 (x43_0.map cl26),Ai x43_1]) (calv z z fnok_30 z) (f30_ok hc_2) z (Qd z (Tr (Qe 2 z ?_)))
  obtain⟨x48,hc_3,h⟩:=bs h
  refine Qc z z z (args:=[.agg (Scene.cl a0),Ai a2]) (r:=Ai x48) (calv z z fnok_117 z) (f117_ok hc_3) z (Qd z (Ts (Td [[],[],[],[],[2,3],[2,3,4],[0,1,2,3,4,5],[],[],[],[],[9,10],[9,10,11],[0,1,2,3,4,5,6,7,8,9,10,11,12],[0,1,2,3,4,5,6,7,8,9,10,11,12,13],[0,1,2,3,4,5,6,7,8,9,10,11,12,13,14],[0,1,2,3,4,5,6,7,8,9,10,11,12,13,14,15]] hmix (by kernel_rfl) (Qe 4 z ?_))))
  obtain⟨y,hy,h⟩:=bs h
  refine Q1 z z z (Ax.ix (cl:=cl26) z slc_44 z z hy) (Qe 1 z ?_)
  obtain⟨x55,hc_4,h⟩:=bs h
  refine Qc z z z (args:=[.agg (Scene.cl a0),.lst 1 (a1.map icl),.lst 1 (y.map icl)]) (r:=Ai x55) (calv z z fnok_199 z) (f199_ok hc_4) z (Qe 4 z ?_)
  obtain⟨y_1,hy_1,h⟩:=bs h
  refine Q1 z z z (Ax.ix (cl:=cl26) z slc_44 z z hy_1) (Qe 1 z ?_)
  obtain⟨x62,hc_5,h⟩:=bs h
  refine Qc z z z (args:=[.agg (Scene.cl a0),.lst 1 (a1.map icl),.lst 1 (y_1.map icl)]) (r:=Ai x62) (calv z z fnok_199 z) (f199_ok hc_5) z (Q1 z z z (v:=.agg (Span.cl (⟨x55,x62⟩:Span))) (Ab_ z zer_49 (bld plc_49 zer_49) z ⟨Sub.refl _,Sub.refl _,u0⟩) (Qs z z (x:=some (.box (Span.cl (⟨x55,x62⟩:Span)))) (As z siz_49 z z z z z z z) (Qe 1 z (Rx ⟨by kernel_rfl,freshL_of [] (by kernel_rfl) (by kernel_rfl),?_⟩))))
  refine Te ?_
  refine Rr (fun r=>.tup [.agg (Span.cl r.1),Ai r.2]) (fun r=>[]) [] h ?_ u0
  rfl
 have h:=hj
 refine Tri.region (Qe 3 z ?_)
 obtain⟨x23,hc_6,h⟩:=bs h
 refine Qc z z z (args:=[.agg (Basin.cl a0.Basin),.lst 1 (a1.map icl)]) (r:=Ab x23) (calv z z fnok_197 z) (f197_ok hc_6) z (Qe 2 z ?_)
 rcases b2 (!x23) with hb_3 | hb_3
 ·have h:=cq hb_3 h
  exact Qk 25 hb_3 z (Qd z (Xi true (An h (Ee [6] z u0))))
 have h:=cw hb_3 h
 refine Qk 25 hb_3 z (Qe 2 z ?_)
 obtain⟨x28,hc_7,h⟩:=bs h
 exact Qc z z z (args:=[.agg (Scene.cl a0),Ai a2]) (r:=Ai x28) (calv z z fnok_117 z) (f117_ok hc_7) z (Qd z (Xi (decide (x28 < 0)) (An h (Ee [6] z u0))))
theorem f15_ok {K:Nat} {a0:Scene} {a1:List Int} {a2:Int} {a3:List Int} {r:Bool} (h:f15 K a0 a1 a2 a3=some r):CallOK Tryz.prog 15 [.agg (Scene.cl a0),.lst 1 (a1.map icl),Ai a2,.lst 1 (a3.map icl)] [] (Ab r) []:=by
 refine Co Tryz.func15 z z (nl z) ?_
 unfold f15 at h
 refine Tp z (Ts (Tr ?_))
 obtain⟨x13,hc,h⟩:=bs h
 refine Qc z z z (args:=[]) (r:=Ab x13) (calv z z fnok_21 z) (f21_ok hc) z (Qd z (Tc (b:=(!x13)) z (fun hb=>?_) (fun hb=>?_)))
 ·have h:=cq hb h
  refine Tp z (Te ?_)
  exact Rb h z
 have h:=cw hb h
 refine Tk (Ts (Ts ?_))
 obtain⟨v21,hj_1,h⟩:=bs h
 refine Tri.joinv v21 (fun(y:Bool)=>⟨[(1,.lst 1 (a1.map icl)),(2,Ai a2),(3,.lst 1 (a3.map icl)),(4,.ipt (Scene.cl a0) 0),(21,Ab y)],[]⟩) ?_ ?_
 ·refine Tc (b:=v21) z (fun hb_1=>?_) (fun hb_1=>?_)
  ·have h:=cq hb_1 h
   refine Tp z (Te ?_)
   exact Rb h z
  have h:=cw hb_1 h
  refine Tk (Ts (Ts (Td [[],[],[],[],[0,1,2,3],[],[],[],[],[0,1,2,3,4,5,6,7,8],[0,1,2,3,4,5,6,7,8,9]] hmix (by kernel_rfl) (Qe 4 z ?_))))
  obtain⟨x26,hc_1,h⟩:=bs h
  refine Qc z z z (args:=[.agg (Scene.cl a0),.lst 1 (a1.map icl),Ai a2,.lst 1 (a3.map icl)]) (r:=Ai x26) (calv z z fnok_86 z) (f86_ok hc_1) z (Qe 4 z ?_)
  obtain⟨x31,hc_2,h⟩:=bs h
  refine Qc z z z (args:=[.agg (Scene.cl a0),.lst 1 (a1.map icl),Ai a2,.lst 1 (a3.map icl)]) (r:=Ai x31) (calv z z fnok_87 z) (f87_ok hc_2) z (Qe 1 z (Rx ⟨by kernel_rfl,freshL_of [] (by kernel_rfl) (by kernel_rfl),?_⟩))
  refine Tc (b:=(x26 != x31)) z (fun hb_2=>?_) (fun hb_2=>?_)
  ·have h:=cq hb_2 h
   refine Tp z (Te ?_)
   exact Rb h z
  have h:=cw hb_2 h
  refine Tk (Tr (Qe 3 z ?_))
  obtain⟨⟨x37_0,x37_1⟩,hc_3,h⟩:=bs h
  refine Qc z z z (args:=[.agg (Scene.cl a0),.lst 1 (a1.map icl),Ai a2]) (r:=.tup [.lst 1 (x37_0.map icl),Ai x37_1]) (calv z z fnok_81 z) (f81_ok hc_3) z (Qd z (Tr (Qe 3 z ?_)))
  obtain⟨⟨x44_0,x44_1⟩,hc_4,h⟩:=bs h
  refine Qc z z z (args:=[.agg (Scene.cl a0),.lst 1 (a1.map icl),Ai a2]) (r:=.tup [.agg (Span.cl x44_0),Ai x44_1]) (calv z z fnok_88 z) (f88_ok hc_4) z (Qe 3 z (Qn z z z (v:=.ptr 11 0) (x:=some (.box (Span.cl (⟨0,0⟩:Span)))) (Al_ z z zer_49 z ⟨Sub.refl _,Sub.refl _,u0⟩) z z z z z (Qs z z (x:=some (.box (Span.cl x44_0))) (As z siz_49 z z z z z z z) (Qd z (Ts (Tp z (Tc (b:=(x37_1 != 0)) z (fun hb_3=>?_) (fun hb_3=>?_))))))))
  ·have h:=cq hb_3 h
   refine Ts (Tri.join1 ⟨[(8,Ab ((x37_1==x44_1)&&((x37_0.length:Int)==0)))],[]⟩ ?_ ?_)
   ·refine Te ?_
    exact Rb h z
   refine Tri.region (Qe 4 z ?_)
   rcases b2 (x37_1==x44_1) with hb_4 | hb_4
   ·exact Qk 52 hb_4 z (Qe 1 z (Q1 z z z (Ax.ln (cl:=icl) z slc_26 z) (Qd z ((Es0 [8] z ⟨.imm (Sub.of_eq (show Ab ((x37_1==x44_1)&&((x37_0.length:Int)==0))=Ab ((x37_0.length:Int)==0) by simp only [cond_true,cond_false,Bool.true_or,Bool.false_or,Bool.true_and,Bool.false_and,Bool.or_true,Bool.or_false,Bool.and_true,Bool.and_false,hb,hb_1,hb_2,hb_3,hb_4])) z,u0⟩)))))
   exact Qk 52 hb_4 z (Qd z ((Es0 [8] z ⟨.imm (Sub.of_eq (show Ab ((x37_1==x44_1)&&((x37_0.length:Int)==0))=Ab false by simp only [cond_true,cond_false,Bool.true_or,Bool.false_or,Bool.true_and,Bool.false_and,Bool.or_true,Bool.or_false,Bool.and_true,Bool.and_false,hb,hb_1,hb_2,hb_3,hb_4])) z,u0⟩)))
  have h:=cw hb_3 h
  refine Tk (Ts ?_)
  obtain⟨v8_1,hj,h⟩:=bs h
  refine Tri.joinv v8_1 (fun(y:Bool)=>⟨[(8,Ab y)],[]⟩) ?_ ?_
  ·refine Te ?_
   exact Rb h z
  have h:=hj
  refine Tri.region (Qe 3 z ?_)
  rcases b2 (x44_1==0) with hb_5 | hb_5
  ·have h:=cq hb_5 h
   refine Qk 59 hb_5 z (Qe 4 z ?_)
   obtain⟨x64,hc_5,h⟩:=bs h
   exact Qc z z z (args:=[.agg (Scene.cl a0),.lst 1 (a1.map icl),Ai a2,.lst 1 (x37_0.map icl)]) (r:=Ai x64) (calv z z fnok_87 z) (f87_ok hc_5) z (Qd z (Xi (x64==0) (An h (E0 z))))
  have h:=cw hb_5 h
  exact Qk 59 hb_5 z (Qd z (Xi false (An h (E0 z))))
 have h:=hj_1
 refine Tri.region (Qe 1 z ?_)
 obtain⟨x16,hc_6,h⟩:=bs h
 refine Qc z z z (args:=[.agg (Scene.cl a0)]) (r:=Ab x16) (calv z z fnok_28 z) (f28_ok hc_6) z (Qe 1 z ?_)
 rcases b2 x16 with hb_6 | hb_6
 ·have h:=cq hb_6 h
  exact Qk 17 hb_6 z (Qd z (Xi true (An h (E0 z))))
 have h:=cw hb_6 h
 exact Qk 17 hb_6 z (Qe 1 z (Q1 z z z (Ax.ln (cl:=icl) z slc_26 z) (Qd z (Xi (decide ((a3.length:Int) > 20)) (An h (E0 z))))))
end Go.Proofs.YthlchdnbokhclaaGreat.Ql

import Derived.Test.YthlchdnbokhclaaGreatQt
import Derived.Test.YthlchdnbokhclaaGreatQg1
import Derived.Test.YthlchdnbokhclaaGreatQg2
import Derived.Test.YthlchdnbokhclaaGreatQg3
set_option linter.all false
namespace Go.Proofs.YthlchdnbokhclaaGreat.Ql
open Go Go.Proofs
set_option maxRecDepth 100000
set_option maxHeartbeats 0
def f182 (K:Nat) (a0:Int) (a1:Int):Option (Bool):=
  some ((decide (a0≥0))&&(decide (a0≤a1)))
def f178 (K:Nat) (a0:Cell):Option (Bool):=
  Option.bind (
    (f182 K a0.No 4095).bind fun x5=>
    bif x5 then
      (f182 K a0.Height 9000).bind fun x9=>
      bif x9 then
        (f182 K a0.Aspect 7).bind fun x14=>
        bif x14 then
          bif (decide (a0.Area≥1)) then
            some (decide (a0.Area≤4096))
          else
            some false
        else
          some false
      else
        some false
    else
      some false) fun(v2:Bool)=>
  some v2
def f75 (K:Nat) (a0:Basin):Option (Int):=
  Option.bind (
    bif (decide ((a0.Cells.length:Int) < 1)) then
      some true
    else
      bif (decide ((a0.Cells.length:Int) > 12)) then
        some true
      else
        bif (decide ((a0.Pairs.length:Int) > 24)) then
          some true
        else
          (f182 K a0.Gain 65536).bind fun x27=>
          bif (!x27) then
            some true
          else
            (f182 K a0.Slack 65536).bind fun x33=>
            bif (!x33) then
              some true
            else
              (f182 K a0.Deep 65536).bind fun x39=>
              some (!x39)) fun(v41:Bool)=>
  bif v41 then
    some 50
  else
    Jo (α:=Unit→Option (Int)) (fun(_:Unit)=>
      Jo (α:=Unit→Option (Int)) (fun(_:Unit)=>
        some 0) fun(j_1:Unit→Option (Int))=>
      rngL a0.Pairs () (fun(v4:Int) (_:Unit)=>
          j_1 ()) fun nx_1 x_1 v4 (_:Unit)=>
        Option.bind (
          (f182 K x_1.a0 (W ((a0.Cells.length:Int) - 1))).bind fun x94=>
          bif (!x94) then
            some true
          else
            (f182 K x_1.a1 (W ((a0.Cells.length:Int) - 1))).bind fun x103=>
            bif (!x103) then
              some true
            else
              bif (x_1.a0==x_1.a1) then
                some true
              else
                (ix a0.Cells x_1.a0).bind fun y_1=>
                (ix a0.Cells x_1.a1).bind fun y_2=>
                some (decide (y_1.Height > y_2.Height))) fun(v129:Bool)=>
        bif v129 then
          some 50
        else
          Jo (α:=Unit→Option (Int)) (fun(_:Unit)=>
            nx_1 (v4+1) ()) fun(j_2:Unit→Option (Int))=>
          rngN 0 v4 () (fun(v6:Int) (_:Unit)=>
              j_2 ()) fun nx_2 v6 (_:Unit)=>
            (ix a0.Pairs v6).bind fun y=>
            bif (bif (y.a0==x_1.a0) then ((y.a1==x_1.a1)||((y.a0==x_1.a1)&&(y.a1==x_1.a0))) else ((y.a0==x_1.a1)&&(y.a1==x_1.a0))) then
              some 50
            else
              nx_2 (v6+1) ()) fun(j:Unit→Option (Int))=>
    rngL a0.Cells () (fun(v3:Int) (_:Unit)=>
        j ()) fun nx x v3 (_:Unit)=>
      Option.bind (
        (f178 K x).bind fun x54=>
        bif (!x54) then
          some true
        else
          bif (decide (v3 > 0)) then
            (ix a0.Cells (W (v3 - 1))).bind fun y_3=>
            some (decide (y_3.No≥x.No))
          else
            some false) fun(v75:Bool)=>
      bif v75 then
        some 50
      else
        nx (v3+1) ()
def f116 (K:Nat) (a0:Basin) (a1:Int):Option (Int):=
  Jo (α:=Unit→Option (Int)) (fun(_:Unit)=>
    some (-1)) fun(j:Unit→Option (Int))=>
  rngL a0.Cells () (fun(v5:Int) (_:Unit)=>
      j ()) fun nx x v5 (_:Unit)=>
    bif (x.No==a1) then
      some v5
    else
      nx (v5+1) ()
def f117 (K:Nat) (a0:Scene) (a1:Int):Option (Int):=
  Jo (α:=Unit→Option (Int)) (fun(_:Unit)=>
    some (-1)) fun(j:Unit→Option (Int))=>
  rngL a0.Days () (fun(v5:Int) (_:Unit)=>
      j ()) fun nx x v5 (_:Unit)=>
    bif (x==a1) then
      some v5
    else
      nx (v5+1) ()
def f181 (K:Nat) (a0:Scene) (a1:Sight):Option (Bool):=
  Option.bind (
    (f182 K a1.No 8191).bind fun x7=>
    bif x7 then
      (f116 K a0.Basin a1.Cell).bind fun x13=>
      bif (decide (x13≥0)) then
        (f117 K a0 a1.Day).bind fun x20=>
        bif (decide (x20≥0)) then
          bif (decide (a1.Lo≥0)) then
            bif (decide (a1.Lo≤a1.Hi)) then
              some (decide (a1.Hi≤65536))
            else
              some false
          else
            some false
        else
          some false
      else
        some false
    else
      some false) fun(v4:Bool)=>
  some v4
def f183 (K:Nat) (a0:Scene) (a1:Change):Option (Bool):=
  Option.bind (
    (f116 K a0.Basin a1.Cell).bind fun x9=>
    bif (decide (x9≥0)) then
      (f117 K a0 a1.From).bind fun x15=>
      bif (decide (x15≥0)) then
        (f117 K a0 a1.To).bind fun x22=>
        bif (decide (x22≥0)) then
          bif (decide (a1.From < a1.To)) then
            bif (decide (a1.Lo≥(-65536))) then
              bif (decide (a1.Lo≤a1.Hi)) then
                some (decide (a1.Hi≤65536))
              else
                some false
            else
              some false
          else
            some false
        else
          some false
      else
        some false
    else
      some false) fun(v4:Bool)=>
  some v4
def f76 (K:Nat) (a0:Scene):Option (Int):=
  (f75 K a0.Basin).bind fun x8=>
  bif (x8 != 0) then
    some 50
  else
    bif ((decide ((a0.Days.length:Int) < 1))||(decide ((a0.Days.length:Int) > 16))) then
      some 1
    else
      Jo (α:=Unit→Option (Int)) (fun(_:Unit)=>
        bif ((decide ((a0.Sights.length:Int) > 256))||(decide ((a0.Changes.length:Int) > 256))) then
          some 2
        else
          Jo (α:=Unit→Option (Int)) (fun(_:Unit)=>
            Jo (α:=Unit→Option (Int)) (fun(_:Unit)=>
              some 0) fun(j_2:Unit→Option (Int))=>
            rngL a0.Changes () (fun(v5:Int) (_:Unit)=>
                j_2 ()) fun nx_2 x_2 v5 (_:Unit)=>
              (f183 K a0 x_2).bind fun x90=>
              bif (!x90) then
                some 52
              else
                nx_2 (v5+1) ()) fun(j_1:Unit→Option (Int))=>
          rngL a0.Sights () (fun(v4:Int) (_:Unit)=>
              j_1 ()) fun nx_1 x_1 v4 (_:Unit)=>
            (f181 K a0 x_1).bind fun x75=>
            bif (!x75) then
              some 51
            else
              nx_1 (v4+1) ()) fun(j:Unit→Option (Int))=>
      rngL a0.Days () (fun(v3:Int) (_:Unit)=>
          j ()) fun nx x v3 (_:Unit)=>
        Option.bind (
          (f182 K x 1048576).bind fun x32=>
          bif (!x32) then
            some true
          else
            bif (decide (v3 > 0)) then
              (ix a0.Days (W (v3 - 1))).bind fun y=>
              some (decide (y≥x))
            else
              some false) fun(v51:Bool)=>
        bif v51 then
          some 1
        else
          nx (v3+1) ()
def f179 (K:Nat) (a0:Cell) (a1:Cell):Option (Bool):=
  some (((if (W (a1.Aspect - a0.Aspect)) > (W (a0.Aspect - a1.Aspect)) then (W (a1.Aspect - a0.Aspect)) else (W (a0.Aspect - a1.Aspect)))==0)||(((if (W (a1.Aspect - a0.Aspect)) > (W (a0.Aspect - a1.Aspect)) then (W (a1.Aspect - a0.Aspect)) else (W (a0.Aspect - a1.Aspect)))==1)||((if (W (a1.Aspect - a0.Aspect)) > (W (a0.Aspect - a1.Aspect)) then (W (a1.Aspect - a0.Aspect)) else (W (a0.Aspect - a1.Aspect)))==7)))
def f180 (K:Nat) (a0:Basin) (a1:Arr2_3):Option (Int):=
  (ix a0.Cells a1.a1).bind fun y=>
  (ix a0.Cells a1.a0).bind fun y_1=>
  some (W (a0.Slack+(W (Int.tdiv (W (a0.Gain*(W (y.Height - y_1.Height)))) 100))))
def f205 (K:Nat) (a0:Scene) (a1:Int) (a2:Int):Option (Int):=
  some (W ((W (1+(W (a2*(a0.Basin.Cells.length:Int)))))+a1))
def f222 (K:Nat) (a0:Laid_snowlineref05) (a1:Int) (a2:Int) (a3:Int) (a4:Reason):Option (Laid_snowlineref05):=
  (app a0.l ([(⟨a1,a2,a3⟩:Diff)]:List Diff)).bind fun z18=>
  (app a0.r ([a4]:List Reason)).bind fun z23=>
  some (⟨z18,z23⟩:Laid_snowlineref05)
def f103 (K:Nat) (a0:Scene):Option (Net × List Reason):=
  Option.bind (
    rngL a0.Days (([]:List Diff),([]:List Reason)) (fun(v6:Int) ((voo4_0,voo4_1):List Diff × List Reason)=>
        some (voo4_0,voo4_1)) fun nx x v6 ((voo4_0,voo4_1):List Diff × List Reason)=>
      Option.bind (
        rngL a0.Basin.Cells (voo4_0,voo4_1) (fun(v7:Int) ((voo4_0_6,voo4_1_6):List Diff × List Reason)=>
            some (voo4_0_6,voo4_1_6)) fun nx_3 x_3 v7 ((voo4_0_6,voo4_1_6):List Diff × List Reason)=>
          (f205 K a0 v7 v6).bind fun x41=>
          (f222 K (⟨voo4_0_6,voo4_1_6⟩:Laid_snowlineref05) 0 x41 a0.Basin.Deep (⟨1,x_3.No,x,false⟩:Reason)).bind fun x56=>
          (f205 K a0 v7 v6).bind fun x61=>
          (f222 K x56 x61 0 0 (⟨2,x_3.No,x,false⟩:Reason)).bind fun x74=>
          nx_3 (v7+1) (x74.l,x74.r)) fun((voo4_0_7,voo4_1_7):List Diff × List Reason)=>
      Option.bind (
        rngL a0.Basin.Pairs (voo4_0_7,voo4_1_7) (fun(v8:Int) ((voo4_0_8,voo4_1_8):List Diff × List Reason)=>
            some (voo4_0_8,voo4_1_8)) fun nx_4 x_4 v8 ((voo4_0_8,voo4_1_8):List Diff × List Reason)=>
          Option.bind (
            (ix a0.Basin.Cells x_4.a0).bind fun y=>
            (ix a0.Basin.Cells x_4.a1).bind fun y_1=>
            (f179 K y y_1).bind fun x101=>
            bif (!x101) then
              some (voo4_0_8,voo4_1_8)
            else
              (f205 K a0 x_4.a0 v6).bind fun x108=>
              (f205 K a0 x_4.a1 v6).bind fun x113=>
              (f180 K a0.Basin x_4).bind fun x116=>
              (f222 K (⟨voo4_0_8,voo4_1_8⟩:Laid_snowlineref05) x108 x113 x116 (⟨3,v8,x,false⟩:Reason)).bind fun x124=>
              Lt (bif (y.Height==y_1.Height) then a0.Basin.Slack else 0) fun v12=>
              (f205 K a0 x_4.a1 v6).bind fun x137=>
              (f205 K a0 x_4.a0 v6).bind fun x142=>
              (f222 K x124 x137 x142 v12 (⟨4,v8,x,false⟩:Reason)).bind fun x151=>
              some (x151.l,x151.r)) fun((voo4_0_10,voo4_1_10):List Diff × List Reason)=>
          nx_4 (v8+1) (voo4_0_10,voo4_1_10)) fun((voo4_0_9,voo4_1_9):List Diff × List Reason)=>
      nx (v6+1) (voo4_0_9,voo4_1_9)) fun((voo4_0_1,voo4_1_1):List Diff × List Reason)=>
  Option.bind (
    rngL a0.Sights (voo4_0_1,voo4_1_1) (fun(v13:Int) ((voo4_0_2,voo4_1_2):List Diff × List Reason)=>
        some (voo4_0_2,voo4_1_2)) fun nx_1 x_1 v13 ((voo4_0_2,voo4_1_2):List Diff × List Reason)=>
      (f116 K a0.Basin x_1.Cell).bind fun x168=>
      (f117 K a0 x_1.Day).bind fun x172=>
      (f205 K a0 x168 x172).bind fun x173=>
      (f222 K (⟨voo4_0_2,voo4_1_2⟩:Laid_snowlineref05) 0 x173 x_1.Hi (⟨5,v13,0,true⟩:Reason)).bind fun x180=>
      (f222 K x180 x173 0 (W (-x_1.Lo)) (⟨5,v13,0,false⟩:Reason)).bind fun x188=>
      nx_1 (v13+1) (x188.l,x188.r)) fun((voo4_0_3,voo4_1_3):List Diff × List Reason)=>
  Option.bind (
    rngL a0.Changes (voo4_0_3,voo4_1_3) (fun(v16:Int) ((voo4_0_4,voo4_1_4):List Diff × List Reason)=>
        some (voo4_0_4,voo4_1_4)) fun nx_2 x_2 v16 ((voo4_0_4,voo4_1_4):List Diff × List Reason)=>
      (f116 K a0.Basin x_2.Cell).bind fun x204=>
      (f117 K a0 x_2.From).bind fun x210=>
      (f205 K a0 x204 x210).bind fun x211=>
      (f117 K a0 x_2.To).bind fun x217=>
      (f205 K a0 x204 x217).bind fun x218=>
      (f222 K (⟨voo4_0_4,voo4_1_4⟩:Laid_snowlineref05) x211 x218 x_2.Hi (⟨6,v16,0,true⟩:Reason)).bind fun x226=>
      (f222 K x226 x218 x211 (W (-x_2.Lo)) (⟨6,v16,0,false⟩:Reason)).bind fun x235=>
      nx_2 (v16+1) (x235.l,x235.r)) fun((voo4_0_5,voo4_1_5):List Diff × List Reason)=>
  some ((⟨(W (1+(W ((a0.Basin.Cells.length:Int)*(a0.Days.length:Int))))),voo4_0_5⟩:Net),voo4_1_5)
def f106 (K:Nat) (a0:Scene):Option (Bool):=
  some ((decide ((W ((a0.Basin.Cells.length:Int)*(a0.Days.length:Int)))≤15))&&((decide ((a0.Basin.Pairs.length:Int)≤8))&&((decide ((a0.Sights.length:Int)≤10))&&(decide ((a0.Changes.length:Int)≤10)))))
def f230 (K:Nat) (a0:Net) (a1:List Bool):Option (List Int × List Bool × Bool):=
  Option.bind (
    rngN 0 a0.Nodes (([]:List Int),([]:List Bool)) (fun(v7:Int) ((vo4,vo5):List Int × List Bool)=>
        some (vo4,vo5)) fun nx v7 ((vo4,vo5):List Int × List Bool)=>
      (app vo4 ([0]:List Int)).bind fun z20=>
      (ix a1 v7).bind fun y_7=>
      (app vo5 ([y_7]:List Bool)).bind fun z27=>
      nx (v7+1) (z20,z27)) fun((vo4_1,vo5_1):List Int × List Bool)=>
  Jo (α:=List Int × List Bool→Option (List Int × List Bool × Bool)) (fun((vo4_3,vo5_3):List Int × List Bool)=>
    some (vo4_3,vo5_3,false)) fun(j_1:List Int × List Bool→Option (List Int × List Bool × Bool))=>
  whl (fun nx_1 ((vo4_2,vo5_2,v8):List Int × List Bool × Int)=>
    bif (decide (v8≤a0.Nodes)) then
      Option.bind (
        rngL a0.Diffs (vo4_2,vo5_2,false) (fun(v10:Int) ((vo4_4,vo5_4,v9):List Int × List Bool × Bool)=>
            some (vo4_4,vo5_4,v9)) fun nx_2 x v10 ((vo4_4,vo5_4,v9):List Int × List Bool × Bool)=>
          Option.bind (
            (ix vo5_4 x.From).bind fun y_3=>
            bif y_3 then
              (ix vo5_4 x.To).bind fun y_4=>
              bif (!y_4) then
                some true
              else
                (ix vo4_4 x.From).bind fun y_5=>
                (ix vo4_4 x.To).bind fun y_6=>
                some (decide ((W (y_5+x.Most)) < y_6))
            else
              some false) fun(v74:Bool)=>
          Option.bind (
            bif v74 then
              (ix vo4_4 x.From).bind fun y=>
              (ix vo4_4 x.To).bind fun y_1=>
              (ix vo5_4 x.To).bind fun y_2=>
              some ((vo4_4.set (Int.toNat x.To) (W (y+x.Most))),(vo5_4.set (Int.toNat x.To) true),true)
            else
              some (vo4_4,vo5_4,v9)) fun((vo4_6,vo5_6,v9_2):List Int × List Bool × Bool)=>
          nx_2 (v10+1) (vo4_6,vo5_6,v9_2)) fun((vo4_5,vo5_5,v9_1):List Int × List Bool × Bool)=>
      bif (!v9_1) then
        some (vo4_5,vo5_5,true)
      else
        nx_1 (vo4_5,vo5_5,(W (v8+1)))
    else
      j_1 (vo4_2,vo5_2)) K (vo4_1,vo5_1,0)
def f231 (K:Nat) (a0:Net) (a1:Bool) (a2:Int):Option (List Bool):=
  Option.bind (
    rngN 0 a0.Nodes ([]:List Bool) (fun(v8:Int) (vo7:List Bool)=>
        some vo7) fun nx v8 (vo7:List Bool)=>
      Option.bind (
        bif a1 then
          (app vo7 ([true]:List Bool)).bind fun z23=>
          some z23
        else
          (app vo7 ([(v8==a2)]:List Bool)).bind fun z23_1=>
          some z23_1) fun(vo7_2:List Bool)=>
      nx (v8+1) vo7_2) fun(vo7_1:List Bool)=>
  some vo7_1
def f188 (K:Nat) (a0:Net):Option (Bool):=
  (f231 K a0 true 0).bind fun x9=>
  (f230 K a0 x9).bind fun(x10_0,x10_1,x10_2)=>
  some x10_2
def f285 (K:Nat) (a0:Int) (a1:Int):Option (Bool):=
  some ((decide (a0≥0))&&(decide (a0 < a1)))
def f302 (K:Nat) (a0:Diff) (a1:Int):Option (Bool):=
  Option.bind (
    (f285 K a0.From a1).bind fun x8=>
    bif x8 then
      (f285 K a0.To a1).bind fun x13=>
      bif x13 then
        bif (decide (a0.Most≥(-1073741824))) then
          some (decide (a0.Most≤1073741824))
        else
          some false
      else
        some false
    else
      some false) fun(v4:Bool)=>
  some v4
def f229 (K:Nat) (a0:Net):Option (Int):=
  bif ((decide (a0.Nodes < 1))||((decide (a0.Nodes > 256))||(decide ((a0.Diffs.length:Int) > 4096)))) then
    some 40
  else
    Jo (α:=Unit→Option (Int)) (fun(_:Unit)=>
      some 0) fun(j:Unit→Option (Int))=>
    rngL a0.Diffs () (fun(v3:Int) (_:Unit)=>
        j ()) fun nx x v3 (_:Unit)=>
      (f302 K x a0.Nodes).bind fun x32=>
      bif (!x32) then
        some 40
      else
        nx (v3+1) ()
def f109 (K:Nat) (a0:Net):Option (List Int × Int):=
  (f229 K a0).bind fun x9=>
  bif (x9 != 0) then
    some (([]:List Int),40)
  else
    (f188 K a0).bind fun x12=>
    bif (!x12) then
      some (([]:List Int),41)
    else
      (f231 K a0 false 0).bind fun x17=>
      (f230 K a0 x17).bind fun(x18_0,x18_1,x18_2)=>
      Jo (α:=Unit→Option (List Int × Int)) (fun(_:Unit)=>
        some (x18_0,0)) fun(j:Unit→Option (List Int × Int))=>
      rngN 0 a0.Nodes () (fun(v7:Int) (_:Unit)=>
          j ()) fun nx v7 (_:Unit)=>
        (ix x18_1 v7).bind fun y=>
        bif (!y) then
          some (([]:List Int),42)
        else
          nx (v7+1) ()
def f110 (K:Nat) (a0:Scene) (a1:List Int):Option (List (List Int)):=
  Option.bind (
    rngN 0 (a0.Days.length:Int) ([]:List (List Int)) (fun(v6:Int) (vo5:List (List Int))=>
        some vo5) fun nx v6 (vo5:List (List Int))=>
      Option.bind (
        rngN 0 (a0.Basin.Cells.length:Int) ([]:List Int) (fun(v8:Int) (vo7:List Int)=>
            some vo7) fun nx_1 v8 (vo7:List Int)=>
          (f205 K a0 v8 v6).bind fun x29=>
          (ix a1 x29).bind fun y=>
          (app vo7 ([y]:List Int)).bind fun z33=>
          nx_1 (v8+1) z33) fun(vo7_1:List Int)=>
      (app vo5 ([vo7_1]:List (List Int))).bind fun z37=>
      nx (v6+1) z37) fun(vo5_1:List (List Int))=>
  some vo5_1
def f30 (K:Nat) (a0:Scene):Option (List (List Int) × Int):=
  (f76 K a0).bind fun x10=>
  bif (x10 != 0) then
    some (([]:List (List Int)),x10)
  else
    (f103 K a0).bind fun(x16_0,x16_1)=>
    (f109 K x16_0).bind fun(x21_0,x21_1)=>
    bif (x21_1 != 0) then
      some (([]:List (List Int)),x21_1)
    else
      (f110 K a0 x21_0).bind fun x29=>
      some (x29,0)
def f233 (K:Nat) (a0:Net):Option (Net):=
  Option.bind (
    rngL a0.Diffs ([]:List Diff) (fun(v4:Int) (voo3_1:List Diff)=>
        some voo3_1) fun nx x v4 (voo3_1:List Diff)=>
      (app voo3_1 ([(⟨x.To,x.From,x.Most⟩:Diff)]:List Diff)).bind fun z31=>
      nx (v4+1) z31) fun(voo3_1_1:List Diff)=>
  some (⟨a0.Nodes,voo3_1_1⟩:Net)
def f112 (K:Nat) (a0:Net):Option (List Int × Int):=
  (f233 K a0).bind fun x10=>
  (f109 K x10).bind fun(x11_0,x11_1)=>
  bif (x11_1 != 0) then
    some (([]:List Int),x11_1)
  else
    Option.bind (
      rngL x11_0 ([]:List Int) (fun(v7:Int) (vo6:List Int)=>
          some vo6) fun nx x v7 (vo6:List Int)=>
        (app vo6 ([(W (-x))]:List Int)).bind fun z30=>
        nx (v7+1) z30) fun(vo6_1:List Int)=>
    some (vo6_1,0)
def f32 (K:Nat) (a0:Scene):Option (List (List Int) × Int):=
  (f76 K a0).bind fun x10=>
  bif (x10 != 0) then
    some (([]:List (List Int)),x10)
  else
    (f103 K a0).bind fun(x16_0,x16_1)=>
    (f112 K x16_0).bind fun(x21_0,x21_1)=>
    bif (x21_1 != 0) then
      some (([]:List (List Int)),x21_1)
    else
      (f110 K a0 x21_0).bind fun x29=>
      some (x29,0)
def f115 (K:Nat) (a0:Scene) (a1:Int) (a2:Int):Option (Int):=
  (f76 K a0).bind fun x9=>
  bif (x9 != 0) then
    some x9
  else
    Option.bind (
      (f116 K a0.Basin a1).bind fun x16=>
      bif (decide (x16 < 0)) then
        some true
      else
        (f117 K a0 a2).bind fun x21=>
        some (decide (x21 < 0))) fun(v23:Bool)=>
    bif v23 then
      some 1
    else
      some 0
def f34 (K:Nat) (a0:Scene) (a1:Int) (a2:Int):Option (Span × Int):=
  (f115 K a0 a1 a2).bind fun x18=>
  bif (x18 != 0) then
    some ((⟨0,0⟩:Span),x18)
  else
    (f32 K a0).bind fun(x25_0,x25_1)=>
    bif (x25_1 != 0) then
      some ((⟨0,0⟩:Span),x25_1)
    else
      (f30 K a0).bind fun(x34_0,x34_1)=>
      (f116 K a0.Basin a1).bind fun x40=>
      (f117 K a0 a2).bind fun x43=>
      (ix x25_0 x43).bind fun y=>
      (ix y x40).bind fun y_1=>
      (ix x34_0 x43).bind fun y_2=>
      (ix y_2 x40).bind fun y_3=>
      some ((⟨y_1,y_3⟩:Span),0)
def f36 (K:Nat) (a0:Scene):Option (Bool):=
  Option.bind (
    (f106 K a0).bind fun x4=>
    bif x4 then
      (f66 K a0).bind fun x7=>
      bif (x7==0) then
        (f76 K a0).bind fun x12=>
        some (x12==0)
      else
        some false
    else
      some false) fun(v2:Bool)=>
  some v2
def f176 (K:Nat) (a0:Int) (a1:Int):Option (Bool):=
  some (a0 != a1)
def f67 (K:Nat) (a0:Scene) (a1:Int):Option (Scene × Int):=
  (f66 K a0).bind fun x8=>
  bif (x8 != 0) then
    some ((⟨(⟨([]:List Cell),([]:List Arr2_3),0,0,0⟩:Basin),([]:List Int),([]:List Sight),([]:List Change)⟩:Scene),x8)
  else
    (f131 K a0).bind fun x14=>
    (f138 K x14 (fun y0=>f176 K y0 a1)).bind fun x16=>
    some (x16,0)
def f68 (K:Nat) (a0:Span) (a1:Span):Option (Bool):=
  some ((decide (a1.Lo≤a0.Lo))&&(decide (a0.Hi≤a1.Hi)))
def f200 (K:Nat) (a0:List Sight) (a1:Sight→Option Bool):Option (Int):=
  Jo (α:=Unit→Option (Int)) (fun(_:Unit)=>
    some (-1)) fun(j:Unit→Option (Int))=>
  rngL a0 () (fun(v8:Int) (_:Unit)=>
      j ()) fun nx x v8 (_:Unit)=>
    (a1 x).bind fun x16=>
    bif x16 then
      some v8
    else
      nx (v8+1) ()
def f192 (K:Nat) (a0:List Sight) (a1:Sight→Option Bool):Option (List Sight):=
  (f200 K a0 a1).bind fun x10=>
  bif (x10==(-1)) then
    some a0
  else
    Option.bind (
      whl (fun nx ((vo0,v5,v6):List Sight × Int × Int)=>
        bif (decide (v6 < (vo0.length:Int))) then
          (ix vo0 v6).bind fun y=>
          (a1 y).bind fun x28=>
          Option.bind (
            bif (!x28) then
              (ix vo0 v5).bind fun y_1=>
              some ((vo0.set (Int.toNat v5) y),(W (v5+1)))
            else
              some (vo0,v5)) fun((vo0_2,v5_2):List Sight × Int)=>
          nx (vo0_2,v5_2,(W (v6+1)))
        else
          some (vo0,v5)) K (a0,x10,(W (x10+1)))) fun((vo0_1,v5_1):List Sight × Int)=>
    (bnds v5_1 (vo0_1.length:Int) vo0_1.length).bind fun _=>
    (bnds 0 v5_1 (clrI vo0_1 v5_1 (vo0_1.length:Int) (⟨0,0,0,0,0⟩:Sight)).length).bind fun _=>
    (vown (clrI vo0_1 v5_1 (vo0_1.length:Int) (⟨0,0,0,0,0⟩:Sight)) v5_1).bind fun z4=>
    some z4
def f193 (K:Nat) (a0:Sight) (a1:List Int):Option (Bool):=
  (f83 K a1 a0.No).bind fun x7=>
  some (!x7)
def f82 (K:Nat) (a0:Scene) (a1:List Int):Option (Scene):=
  (f42 K a0.Sights).bind fun x7=>
  (f192 K x7 (fun y0=>f193 K y0 a1)).bind fun x9=>
  some (⟨a0.Basin,a0.Days,x9,a0.Changes⟩:Scene)
def f14 (K:Nat) (a0:Scene) (a1:List Int) (a2:Int) (a3:Int):Option (Bool):=
  (f21 K ).bind fun x30=>
  bif (!x30) then
    some false
  else
    Option.bind (
      (f36 K a0).bind fun x33=>
      bif (!x33) then
        some true
      else
        some ((a1.length:Int)==0)) fun(v39:Bool)=>
    bif v39 then
      some true
    else
      (f81 K a0 a1 a2).bind fun(x44_0,x44_1)=>
      bif (x44_1 != 0) then
        some (((x44_0.length:Int)==0)&&((x44_1==1)||(x44_1==41)))
      else
        (f67 K a0 a3).bind fun(x63_0,x63_1)=>
        bif ((x63_1 != 0)||(decide ((x44_0.length:Int) > (a0.Sights.length:Int)))) then
          some false
        else
          Jo (α:=Unit→Option (Bool)) (fun(_:Unit)=>
            Jo (α:=Unit→Option (Bool)) (fun(_:Unit)=>
              some true) fun(j_1:Unit→Option (Bool))=>
            rngN 0 (x44_0.length:Int) () (fun(v134:Int) (_:Unit)=>
                j_1 ()) fun nx_1 v134 (_:Unit)=>
              (f85 K x44_0).bind fun x139=>
              (f84 K x139 v134 (W (v134+1))).bind fun x143=>
              (f82 K a0 x143).bind fun x144=>
              Jo (α:=Bool→Option (Bool)) (fun(v23_1:Bool)=>
                bif (!v23_1) then
                  some false
                else
                  nx_1 (v134+1) ()) fun(j_2:Bool→Option (Bool))=>
              rngL a1 false (fun(v147:Int) (v23:Bool)=>
                  j_2 v23) fun nx_2 x_1 v147 (v23:Bool)=>
                (f33 K a0 x_1 a2).bind fun(x155_0,x155_1)=>
                (f33 K x144 x_1 a2).bind fun(x162_0,x162_1)=>
                Option.bind (
                  bif (x155_1 != 0) then
                    some true
                  else
                    bif (x162_1 != 0) then
                      some true
                    else
                      (f68 K x155_0 x162_0).bind fun x174=>
                      some (!x174)) fun(v176:Bool)=>
                bif v176 then
                  some false
                else
                  nx_2 (v147+1) (v23||(!(decide (x155_0=x162_0))))) fun(j:Unit→Option (Bool))=>
          rngL a1 () (fun(v78:Int) (_:Unit)=>
              j ()) fun nx x v78 (_:Unit)=>
            (f33 K a0 x a2).bind fun(x86_0,x86_1)=>
            (f82 K a0 x44_0).bind fun x92=>
            (f33 K x92 x a2).bind fun(x95_0,x95_1)=>
            (f33 K x63_0 x a2).bind fun(x102_0,x102_1)=>
            Option.bind (
              bif (x86_1 != 0) then
                some true
              else
                bif (x95_1 != 0) then
                  some true
                else
                  bif (x102_1 != 0) then
                    some true
                  else
                    bif (!(decide (x86_0=x95_0))) then
                      some true
                    else
                      (f83 K x44_0 a3).bind fun x123=>
                      bif (!x123) then
                        some (!(decide (x86_0=x102_0)))
                      else
                        some false) fun(v130:Bool)=>
            bif v130 then
              some false
            else
              nx (v78+1) ()
def f195 (K:Nat) (a0:Int→Option Bool) (a1:Scene) (a2:List Spot_basin) (a3:List Span):Option (Bool):=
  (f138 K a1 a0).bind fun x11=>
  (f114 K x11 a2).bind fun(x13_0,x13_1)=>
  Option.bind (
    bif (x13_1==0) then
      (f191 K x13_0 a3).bind fun x21=>
      some x21
    else
      some false) fun(v5:Bool)=>
  some v5
theorem f182_ok {K:Nat} {a0:Int} {a1:Int} {r:Bool} (h:f182 K a0 a1=some r):CallOK Tryz.prog 182 [Ai a0,Ai a1] [] (Ab r) []:=by
 refine Co Tryz.func182 z z (nl z) ?_
 unfold f182 at h
 refine Tp z (Ts (Tri.join1 ⟨[(4,Ab ((decide (a0≥0))&&(decide (a0≤a1))))],[]⟩ ?_ ?_))
 ·refine Te ?_
  exact Rb h z
 refine Tri.region (Qe 3 z ?_)
 rcases b2 (decide (a0≥0)) with hb | hb
 ·exact Qk 7 hb z (Qd z ((Es0 [4] z ⟨.imm (Sub.of_eq (show Ab ((decide (a0≥0))&&(decide (a0≤a1)))=Ab (decide (a0≤a1)) by simp only [cond_true,cond_false,Bool.true_or,Bool.false_or,Bool.true_and,Bool.false_and,Bool.or_true,Bool.or_false,Bool.and_true,Bool.and_false,hb])) z,u0⟩)))
 exact Qk 7 hb z (Qd z ((Es0 [4] z ⟨.imm (Sub.of_eq (show Ab ((decide (a0≥0))&&(decide (a0≤a1)))=Ab false by simp only [cond_true,cond_false,Bool.true_or,Bool.false_or,Bool.true_and,Bool.false_and,Bool.or_true,Bool.or_false,Bool.and_true,Bool.and_false,hb])) z,u0⟩)))
theorem f178_ok {K:Nat} {a0:Cell} {r:Bool} (h:f178 K a0=some r):CallOK Tryz.prog 178 [.agg (Cell.cl a0)] [] (Ab r) []:=by
 refine Co Tryz.func178 z z (nl z) ?_
 unfold f178 at h
 refine Tp z (Ts ?_)
 obtain⟨v2,hj,h⟩:=bs h
 refine Tri.joinv v2 (fun(y:Bool)=>⟨[(2,Ab y)],[]⟩) ?_ ?_
 ·refine Te ?_
  exact Rb h z
 have h:=hj
 refine Tri.region (Qe 2 z ?_)
 obtain⟨x5,hc,h⟩:=bs h
 refine Qc z z z (args:=[Ai a0.No,Ai 4095]) (r:=Ab x5) (calv z z fnok_182 z) (f182_ok hc) z (Qe 1 z ?_)
 rcases b2 x5 with hb | hb
 ·have h:=cq hb h
  refine Qk 6 hb z (Qe 2 z ?_)
  obtain⟨x9,hc_1,h⟩:=bs h
  refine Qc z z z (args:=[Ai a0.Height,Ai 9000]) (r:=Ab x9) (calv z z fnok_182 z) (f182_ok hc_1) z (Qe 2 z ?_)
  rcases b2 x9 with hb_1 | hb_1
  ·have h:=cq hb_1 h
   refine Qk 11 hb_1 z (Qe 2 z ?_)
   obtain⟨x14,hc_2,h⟩:=bs h
   refine Qc z z z (args:=[Ai a0.Aspect,Ai 7]) (r:=Ab x14) (calv z z fnok_182 z) (f182_ok hc_2) z (Qe 2 z ?_)
   rcases b2 x14 with hb_2 | hb_2
   ·have h:=cq hb_2 h
    refine Qk 16 hb_2 z (Qe 5 z ?_)
    rcases b2 (decide (a0.Area≥1)) with hb_3 | hb_3
    ·have h:=cq hb_3 h
     exact Qk 21 hb_3 z (Qd z (Xi (decide (a0.Area≤4096)) (An h (E0 z))))
    have h:=cw hb_3 h
    exact Qk 21 hb_3 z (Qd z (Xi false (An h (E0 z))))
   have h:=cw hb_2 h
   exact Qk 16 hb_2 z (Qd z (Xi false (An h (E0 z))))
  have h:=cw hb_1 h
  exact Qk 11 hb_1 z (Qd z (Xi false (An h (E0 z))))
 have h:=cw hb h
 exact Qk 6 hb z (Qd z (Xi false (An h (E0 z))))
theorem f75_ok {K:Nat} {a0:Basin} {r:Int} (h:f75 K a0=some r):CallOK Tryz.prog 75 [.agg (Basin.cl a0)] [] (Ai r) []:=by
 refine Co Tryz.func75 z z (nl z) ?_
 unfold f75 at h
 refine Tp z (Ts (Ts ?_))
 obtain⟨v41,hj_5,h⟩:=bs h
 refine Tri.joinv v41 (fun(y:Bool)=>⟨[(1,.ipt (Basin.cl a0) 0),(41,Ab y)],[]⟩) ?_ ?_
 ·refine Tc (b:=v41) z (fun hb=>?_) (fun hb=>?_)
  ·have h:=cq hb h
   refine Tp z (Te ?_)
   exact Ri h z
  have h:=cw hb h
  refine Tk (Ts (Tp z ?_))
  obtain⟨j,hj,h⟩:=jo h
  refine Tri.rngL h (fun p=>⟨[(1,.ipt (Basin.cl a0) 0),(3,Ai p.1)],[]⟩) (fun y=>j y=some r) (fun(y:Unit)=>⟨[(1,.ipt (Basin.cl a0) 0)],[]⟩) (E0 z) ?_ ?_ ?_
  ·rintro⟨⟩ h
   subst hj
   refine Ts (Tp z ?_)
   obtain⟨j_1,hj_1,h⟩:=jo h
   refine Tri.rngL h (fun p=>⟨[(1,.ipt (Basin.cl a0) 0),(4,Ai p.1)],[]⟩) (fun y=>j_1 y=some r) (fun(y:Unit)=>⟨[],[]⟩) (E0 z) ?_ ?_ ?_
   ·rintro⟨⟩ h
    subst hj_1
    refine Tp z (Te ?_)
    exact Ri h z
   ·rintro v4 ⟨⟩ hi_1 h
    refine Ts (Tr (Qe 3 z (Q1 z z z (Ax.ln (cl:=Arr2_3.cl) z slc_23 z) (Qd z (Tc (b:=(decide (v4 < (a0.Pairs.length:Int)))) z (fun hb_1=>?_) (fun hb_1=>?_))))))
    ·exact(lt_f hi_1 hb_1).elim
    exact Tri.exit (Xi () (An h (E0 z)))
   rintro nx_1 x_1 v4 ⟨⟩ _ hi_1 hw_1 hx_1 h
   refine Ts (Tr (Qe 3 z (Q1 z z z (Ax.ln (cl:=Arr2_3.cl) z slc_23 z) (Qd z (Tc (b:=(decide (v4 < (a0.Pairs.length:Int)))) z (fun hb_2=>?_) (fun hb_2=>?_))))))
   ·refine Tk (Ts (Tri.block (Tr (Qe 3 z (Q1 z z z (Ax.ix (cl:=Arr2_3.cl) z slc_23 z z hx_1) (Qe 1 z (Qn z z z (v:=.ptr 5 0) (x:=some (.box (Arr2_3.cl (⟨0,0⟩:Arr2_3)))) (Al_ z z zer_97 z ⟨Sub.refl _,Sub.refl _,u0⟩) z z z z z (Qs z z (x:=some (.box (Arr2_3.cl x_1))) (As z siz_97 z z z z z z z) (Rx (Ts (Ts ?_)))))))))))
    obtain⟨v129,hj_3,h⟩:=bs h
    refine Tri.joinv v129 (fun(y:Bool)=>⟨[(1,.ipt (Basin.cl a0) 0),(4,Ai v4),(5,.ptr 5 0),(129,Ab y)],[(5,some (.box (Arr2_3.cl x_1)))]⟩) ?_ ?_
    ·refine Tc (b:=v129) z (fun hb_3=>?_) (fun hb_3=>?_)
     ·have h:=cq hb_3 h
      refine Tp z (Te ?_)
      exact Ri h z
     have h:=cw hb_3 h
     refine Tk (Tp z ?_)
     obtain⟨j_2,hj_2,h⟩:=jo h
     refine Tri.rngN h (fun p=>⟨[(1,.ipt (Basin.cl a0) 0),(4,Ai v4),(5,.ptr 5 0),(6,Ai p.1)],[(5,some (.box (Arr2_3.cl x_1)))]⟩) (fun y=>j_2 y=some r) (fun(y:Unit)=>⟨[(1,.ipt (Basin.cl a0) 0),(4,Ai v4)],[]⟩) (Ee [5] z u0) ?_ ?_ ?_
     ·rintro⟨⟩ h
      subst hj_2
      exact Tq z (Xi (v4+1,()) (An (An z h) (Es0 [4] z ⟨.imm (Sub.of_eq (show Ai (v4+1)=Ai (W (v4+1)) from congrArg Ai hw_1.symm)) z,u0⟩)))
     ·rintro v6 ⟨⟩ hi_2 _ h
      refine Ts (Tp z (Tc (b:=(decide (v6 < v4))) z (fun hb_4=>?_) (fun hb_4=>?_)))
      ·exact(lt_f hi_2 hb_4).elim
      exact Tri.exit (Xi () (An h (E0 z)))
     rintro nx_2 v6 ⟨⟩ _ hi_2 hw_2 h
     refine Ts (Tp z (Tc (b:=(decide (v6 < v4))) z (fun hb_5=>?_) (fun hb_5=>?_)))
     ·refine Tk (Ts (Tri.block (Tr (Qe 3 z ?_))))
      obtain⟨y,hy,h⟩:=bs h
      refine Q1 z z z (Ax.ix (cl:=Arr2_3.cl) z slc_23 z z hy) (Qe 1 z (Qn z z z (v:=.ptr 7 0) (x:=some (.box (Arr2_3.cl (⟨0,0⟩:Arr2_3)))) (Al_ z z zer_97 z ⟨Sub.refl _,Sub.refl _,u0⟩) z z z z z (Qs z z (x:=some (.box (Arr2_3.cl y))) (As z siz_97 z z z z z z z) (Rx (Ts (Tri.join1 ⟨[(1,.ipt (Basin.cl a0) 0),(4,Ai v4),(5,.ptr 5 0),(6,Ai v6),(165,Ab (bif (y.a0==x_1.a0) then ((y.a1==x_1.a1)||((y.a0==x_1.a1)&&(y.a1==x_1.a0))) else ((y.a0==x_1.a1)&&(y.a1==x_1.a0))))],[(5,some (.box (Arr2_3.cl x_1)))]⟩ ?_ ?_))))))
      ·refine Tc (b:=(bif (y.a0==x_1.a0) then ((y.a1==x_1.a1)||((y.a0==x_1.a1)&&(y.a1==x_1.a0))) else ((y.a0==x_1.a1)&&(y.a1==x_1.a0)))) z (fun hb_6=>?_) (fun hb_6=>?_)
       ·have h:=cq hb_6 h
        refine Tp z (Te ?_)
        exact Ri h z
       have h:=cw hb_6 h
       exact Tk (Tq z (Xi (v6+1,()) (An (An z h) (Es [5] [6] z u0 ⟨.imm (Sub.of_eq (show Ai (v6+1)=Ai (W (v6+1)) from congrArg Ai hw_2.symm)) z,u0⟩))))
      refine Tri.region (Q1 z z z (Ax.index_ptr (k:=.i64) (n:=0) z arr_97 z z z (by decide) (by decide)) (Qe 1 z (Q1 z z z (Ax.index_ptr (k:=.i64) (n:=0) z arr_97 z z z (by decide) (by decide)) (Qe 3 z ?_))))
      rcases b2 (y.a0==x_1.a0) with hb_7 | hb_7
      ·refine Qk 145 hb_7 z (Q1 z z z (Ax.index_ptr (k:=.i64) (n:=1) z arr_97 z z z (by decide) (by decide)) (Qe 1 z (Q1 z z z (Ax.index_ptr (k:=.i64) (n:=1) z arr_97 z z z (by decide) (by decide)) (Qe 4 z ?_))))
       rcases b2 (y.a1==x_1.a1) with hb_8 | hb_8
       ·exact Qk 152 hb_8 z (Qd z ((Es [5] [165] z u0 ⟨.imm (Sub.of_eq (show Ab (bif (y.a0==x_1.a0) then ((y.a1==x_1.a1)||((y.a0==x_1.a1)&&(y.a1==x_1.a0))) else ((y.a0==x_1.a1)&&(y.a1==x_1.a0)))=Ab true by simp only [cond_true,cond_false,Bool.true_or,Bool.false_or,Bool.true_and,Bool.false_and,Bool.or_true,Bool.or_false,Bool.and_true,Bool.and_false,hb,hb_2,hb_3,hb_5,hb_7,hb_8])) z,u0⟩)))
       refine Qk 152 hb_8 z (Q1 z z z (Ax.index_ptr (k:=.i64) (n:=0) z arr_97 z z z (by decide) (by decide)) (Qe 1 z (Q1 z z z (Ax.index_ptr (k:=.i64) (n:=1) z arr_97 z z z (by decide) (by decide)) (Qe 3 z ?_))))
       rcases b2 (y.a0==x_1.a1) with hb_9 | hb_9
       ·exact Qk 158 hb_9 z (Q1 z z z (Ax.index_ptr (k:=.i64) (n:=1) z arr_97 z z z (by decide) (by decide)) (Qe 1 z (Q1 z z z (Ax.index_ptr (k:=.i64) (n:=0) z arr_97 z z z (by decide) (by decide)) (Qd z ((Es [5] [165] z u0 ⟨.imm (Sub.of_eq (show Ab (bif (y.a0==x_1.a0) then ((y.a1==x_1.a1)||((y.a0==x_1.a1)&&(y.a1==x_1.a0))) else ((y.a0==x_1.a1)&&(y.a1==x_1.a0)))=Ab (y.a1==x_1.a0) by simp only [cond_true,cond_false,Bool.true_or,Bool.false_or,Bool.true_and,Bool.false_and,Bool.or_true,Bool.or_false,Bool.and_true,Bool.and_false,hb,hb_2,hb_3,hb_5,hb_7,hb_8,hb_9])) z,u0⟩))))))
       exact Qk 158 hb_9 z (Qd z ((Es [5] [165] z u0 ⟨.imm (Sub.of_eq (show Ab (bif (y.a0==x_1.a0) then ((y.a1==x_1.a1)||((y.a0==x_1.a1)&&(y.a1==x_1.a0))) else ((y.a0==x_1.a1)&&(y.a1==x_1.a0)))=Ab false by simp only [cond_true,cond_false,Bool.true_or,Bool.false_or,Bool.true_and,Bool.false_and,Bool.or_true,Bool.or_false,Bool.and_true,Bool.and_false,hb,hb_2,hb_3,hb_5,hb_7,hb_8,hb_9])) z,u0⟩)))
      refine Qk 145 hb_7 z (Qe 7 z (Q1 z z z (Ax.index_ptr (k:=.i64) (n:=0) z arr_97 z z z (by decide) (by decide)) (Qe 1 z (Q1 z z z (Ax.index_ptr (k:=.i64) (n:=1) z arr_97 z z z (by decide) (by decide)) (Qe 3 z ?_)))))
      rcases b2 (y.a0==x_1.a1) with hb_10 | hb_10
      ·exact Qk 158 hb_10 z (Q1 z z z (Ax.index_ptr (k:=.i64) (n:=1) z arr_97 z z z (by decide) (by decide)) (Qe 1 z (Q1 z z z (Ax.index_ptr (k:=.i64) (n:=0) z arr_97 z z z (by decide) (by decide)) (Qd z ((Es [5] [165] z u0 ⟨.imm (Sub.of_eq (show Ab (bif (y.a0==x_1.a0) then ((y.a1==x_1.a1)||((y.a0==x_1.a1)&&(y.a1==x_1.a0))) else ((y.a0==x_1.a1)&&(y.a1==x_1.a0)))=Ab (y.a1==x_1.a0) by simp only [cond_true,cond_false,Bool.true_or,Bool.false_or,Bool.true_and,Bool.false_and,Bool.or_true,Bool.or_false,Bool.and_true,Bool.and_false,hb,hb_2,hb_3,hb_5,hb_7,hb_10])) z,u0⟩))))))
      exact Qk 158 hb_10 z (Qd z ((Es [5] [165] z u0 ⟨.imm (Sub.of_eq (show Ab (bif (y.a0==x_1.a0) then ((y.a1==x_1.a1)||((y.a0==x_1.a1)&&(y.a1==x_1.a0))) else ((y.a0==x_1.a1)&&(y.a1==x_1.a0)))=Ab false by simp only [cond_true,cond_false,Bool.true_or,Bool.false_or,Bool.true_and,Bool.false_and,Bool.or_true,Bool.or_false,Bool.and_true,Bool.and_false,hb,hb_2,hb_3,hb_5,hb_7,hb_10])) z,u0⟩)))
     exact(lt_t hi_2 hb_5).elim
    have h:=hj_3
    refine Td [[],[0],[],[2],[2,3],[2,3,4],[0,1,2,3,4,5],[0,1,2,3,4,5,6],[0,1,2,3,4,5,6,7],[0,1,2,3,4,5,6,7,8],[0,1,2,3,4,5,6,7,8,9],[0,1,2,3,4,5,6,7,8],[0,1,2,3,4,5,6,7,8,11],[0,1,2,3,4,5,6,7,8,11,12],[0,1,2,3,4,5,6,7,8,11,12,13],[0,1,2,3,4,5,6,7,8,9,10,11,12,13,14],[0,1,2,3,4,5,6,7,8,9,10,11,12,13,14,15],[0,1,2,3,4,5,6,7,8,9,10,11,12,13,14,15,16],[0,1,2,3,4,5,6,7,8,9,10,11,12,13,14,15,16,17],[0,1,2,3,4,5,6,7,8,9,10,11,12,13,14,15,16,17,18],[0,1,2,3,4,5,6,7,8,9,10,11,12,13,14,15,16,17,18,19],[0,1,2,3,4,5,6,7,8,9,10,11,12,13,14,15,16,17,18],[0,1,2,3,4,5,6,7,8,9,10,11,12,13,14,15,16,17,18,21],[0,1,2,3,4,5,6,7,8,9,10,11,12,13,14,15,16,17,18,19,20,21,22],[0,1,2,3,4,5,6,7,8,9,10,11,12,13,14,15,16,17,18,19,20,21,22,23],[0,1,2,3,4,5,6,7,8,9,10,11,12,13,14,15,16,17,18,19,20,21,22,23,24],[0,1,2,3,4,5,6,7,8,9,10,11,12,13,14,15,16,17,18,19,20,21,22,23,24,25],[0,1,2,3,4,5,6,7,8,9,10,11,12,13,14,15,16,17,18,19,20,21,22,23,24,25,26],[0,1,2,3,4,5,6,7,8,9,10,11,12,13,14,15,16,17,18,19,20,21,22,23,24,25],[0,1,2,3,4,5,6,7,8,9,10,11,12,13,14,15,16,17,18,19,20,21,22,23,24,25,28],[0,1,2,3,4,5,6,7,8,9,10,11,12,13,14,15,16,17,18,19,20,21,22,23,24,25,26,27,28,29],[0,1,2,3,4,5,6,7,8,9,10,11,12,13,14,15,16,17,18,19,20,21,22,23,24,25,26,27,28,29,30],[0,1,2,3,4,5,6,7,8,9,10,11,12,13,14,15,16,17,18,19,20,21,22,23,24,25,26,27,28,29,30,31],[0,1,2,3,4,5,6,7,8,9,10,11,12,13,14,15,16,17,18,19,20,21,22,23,24,25],[0,1,2,3,4,5,6,7,8,9,10,11,12,13,14,15,16,17,18,19,20,21,22,23,24,25,33],[0,1,2,3,4,5,6,7,8,9,10,11,12,13,14,15,16,17,18,19,20,21,22,23,24,25],[0,1,2,3,4,5,6,7,8,9,10,11,12,13,14,15,16,17,18,19,20,21,22,23,24,25,35],[0,1,2,3,4,5,6,7,8,9,10,11,12,13,14,15,16,17,18,19,20,21,22,23,24,25,33,34,35,36],[0,1,2,3,4,5,6,7,8,9,10,11,12,13,14,15,16,17,18,19,20,21,22,23,24,25,33,34,35,36,37],[0,1,2,3,4,5,6,7,8,9,10,11,12,13,14,15,16,17,18,19,20,21,22,23,24,25,33,34,35,36,37,38],[0,1,2,3,4,5,6,7,8,9,10,11,12,13,14,15,16,17,18,19,20,21,22,23,24,25,26,27,28,29,30,31,32,33,34,35,36,37,38,39],[0,1,2,3,4,5,6,7,8,9,10,11,12,13,14,15,16,17,18,19,20,21,22,23,24,25,26,27,28,29,30,31,32,33,34,35,36,37,38,39,40]] hmix (by kernel_rfl) (Q1 z z z (Ax.index_ptr (k:=.i64) (n:=0) z arr_97 z z z (by decide) (by decide)) (Qe 3 z (Q1 z z z (Ax.ln (cl:=Cell.cl) z slc_22 z) (Qe 1 z ?_))))
    obtain⟨x94,hc,h⟩:=bs h
    refine Qc z z z (args:=[Ai x_1.a0,Ai (W ((a0.Cells.length:Int) - 1))]) (r:=Ab x94) (calv z z fnok_182 z) (f182_ok hc) z (Qe 2 z ?_)
    rcases b2 (!x94) with hb_11 | hb_11
    ·have h:=cq hb_11 h
     refine Qk 96 hb_11 z (Qe 33 z (Rx ⟨by kernel_rfl,freshL_of [] (by kernel_rfl) (by kernel_rfl),?_⟩))
     exact Xi true (An h (Ee [5] z u0))
    have h:=cw hb_11 h
    refine Qk 96 hb_11 z (Q1 z z z (Ax.index_ptr (k:=.i64) (n:=1) z arr_97 z z z (by decide) (by decide)) (Qe 3 z (Q1 z z z (Ax.ln (cl:=Cell.cl) z slc_22 z) (Qe 1 z ?_))))
    obtain⟨x103,hc_1,h⟩:=bs h
    refine Qc z z z (args:=[Ai x_1.a1,Ai (W ((a0.Cells.length:Int) - 1))]) (r:=Ab x103) (calv z z fnok_182 z) (f182_ok hc_1) z (Qe 3 z ?_)
    rcases b2 (!x103) with hb_12 | hb_12
    ·have h:=cq hb_12 h
     refine Qk 106 hb_12 z (Qe 23 z (Rx ⟨by kernel_rfl,freshL_of [] (by kernel_rfl) (by kernel_rfl),?_⟩))
     exact Xi true (An h (Ee [5] z u0))
    have h:=cw hb_12 h
    refine Qk 106 hb_12 z (Q1 z z z (Ax.index_ptr (k:=.i64) (n:=0) z arr_97 z z z (by decide) (by decide)) (Qe 1 z (Q1 z z z (Ax.index_ptr (k:=.i64) (n:=1) z arr_97 z z z (by decide) (by decide)) (Qe 4 z ?_))))
    rcases b2 (x_1.a0==x_1.a1) with hb_13 | hb_13
    ·have h:=cq hb_13 h
     refine Qk 113 hb_13 z (Qe 16 z (Rx ⟨by kernel_rfl,freshL_of [] (by kernel_rfl) (by kernel_rfl),?_⟩))
     exact Xi true (An h (Ee [5] z u0))
    have h:=cw hb_13 h
    refine Qk 113 hb_13 z (Qe 2 z (Q1 z z z (Ax.index_ptr (k:=.i64) (n:=0) z arr_97 z z z (by decide) (by decide)) (Qe 1 z ?_)))
    obtain⟨y_1,hy_1,h⟩:=bs h
    refine Q1 z z z (Ax.ix (cl:=Cell.cl) z slc_22 z z hy_1) (Qe 4 z (Q1 z z z (Ax.index_ptr (k:=.i64) (n:=1) z arr_97 z z z (by decide) (by decide)) (Qe 1 z ?_)))
    obtain⟨y_2,hy_2,h⟩:=bs h
    refine Q1 z z z (Ax.ix (cl:=Cell.cl) z slc_22 z z hy_2) (Qe 4 z (Rx ⟨by kernel_rfl,freshL_of [] (by kernel_rfl) (by kernel_rfl),?_⟩))
    exact Xi (decide (y_1.Height > y_2.Height)) (An h (Ee [5] z u0))
   exact(lt_t hi_1 hb_2).elim
  ·rintro v3 ⟨⟩ hi h
   refine Ts (Tr (Qe 3 z (Q1 z z z (Ax.ln (cl:=Cell.cl) z slc_22 z) (Qd z (Tc (b:=(decide (v3 < (a0.Cells.length:Int)))) z (fun hb_14=>?_) (fun hb_14=>?_))))))
   ·exact(lt_f hi hb_14).elim
   exact Tri.exit (Xi () (An h (E0 z)))
  rintro nx x v3 ⟨⟩ _ hi hw hx h
  refine Ts (Tr (Qe 3 z (Q1 z z z (Ax.ln (cl:=Cell.cl) z slc_22 z) (Qd z (Tc (b:=(decide (v3 < (a0.Cells.length:Int)))) z (fun hb_15=>?_) (fun hb_15=>?_))))))
  ·refine Tk (Ts (Tri.block (Ts ?_)))
   obtain⟨v75,hj_4,h⟩:=bs h
   refine Tri.joinv v75 (fun(y:Bool)=>⟨[(1,.ipt (Basin.cl a0) 0),(3,Ai v3),(75,Ab y)],[]⟩) ?_ ?_
   ·refine Tc (b:=v75) z (fun hb_16=>?_) (fun hb_16=>?_)
    ·have h:=cq hb_16 h
     refine Tp z (Te ?_)
     exact Ri h z
    have h:=cw hb_16 h
    exact Tk (Tq z (Xi (v3+1,()) (An (An z h) (Es0 [3] z ⟨.imm (Sub.of_eq (show Ai (v3+1)=Ai (W (v3+1)) from congrArg Ai hw.symm)) z,u0⟩))))
   have h:=hj_4
   refine Td [[],[0],[],[0,1,2],[0,1,2,3],[0,1,2,3,4],[0,1,2,3,4,5],[0,1,2,3,4,5,6],[0,1,2,3,4,5,6,7],[0,1,2,3,4,5,6,7,8],[0,1,2,3,4,5,6,7,8,9],[0,1,2,3,4,5,6,7,8,9,10],[0,1,2,3,4,5,6,7,8,9,10,11],[0,1,2,3,4,5,6,7,8,9,10],[0,1,2,3,4,5,6,7,8,9,10,13],[0,1,2,3,4,5,6,7,8,9,10,11,12,13,14],[0,1,2,3,4,5,6,7,8,9,10,11,12,13,14,15],[0,1,2,3,4,5,6,7,8,9,10,11,12,13,14,15,16],[0,1,2,3,4,5,6,7,8,9,10],[0,1,2,3,4,5,6,7,8,9,10,18],[0,1,2,3,4,5,6,7,8,9,10],[0,1,2,3,4,5,6,7,8,9,10,18,19,20],[0,1,2,3,4,5,6,7,8,9,10,18,19,20,21],[0,1,2,3,4,5,6,7,8,9,10,18,19,20,21,22],[0,1,2,3,4,5,6,7,8,9,10,11,12,13,14,15,16,17,18,19,20,21,22,23],[0,1,2,3,4,5,6,7,8,9,10,11,12,13,14,15,16,17,18,19,20,21,22,23,24],[0,1,2,3,4,5,6,7,8,9,10,11,12,13,14,15,16,17,18,19,20,21,22,23,24,25]] hmix (by kernel_rfl) (Qe 3 z (Q1 z z z (Ax.ix (cl:=Cell.cl) z slc_22 z z hx) (Qe 1 z ?_)))
   obtain⟨x54,hc_2,h⟩:=bs h
   refine Qc z z z (args:=[.agg (Cell.cl x)]) (r:=Ab x54) (calv z z fnok_178 z) (f178_ok hc_2) z (Qe 2 z ?_)
   rcases b2 (!x54) with hb_17 | hb_17
   ·have h:=cq hb_17 h
    refine Qk 56 hb_17 z (Qe 19 z (Rx ⟨by kernel_rfl,freshL_of [] (by kernel_rfl) (by kernel_rfl),?_⟩))
    exact Xi true (An h (E0 z))
   have h:=cw hb_17 h
   refine Qk 56 hb_17 z (Qe 3 z ?_)
   rcases b2 (decide (v3 > 0)) with hb_18 | hb_18
   ·have h:=cq hb_18 h
    refine Qk 59 hb_18 z (Qe 4 z ?_)
    obtain⟨y_3,hy_3,h⟩:=bs h
    refine Q1 z z z (Ax.ix (cl:=Cell.cl) z slc_22 z z hy_3) (Qe 5 z (Q1 z z z (Ax.ix (cl:=Cell.cl) z slc_22 z z hx) (Qe 5 z (Rx ⟨by kernel_rfl,freshL_of [] (by kernel_rfl) (by kernel_rfl),?_⟩))))
    exact Xi (decide (y_3.No≥x.No)) (An h (E0 z))
   have h:=cw hb_18 h
   refine Qk 59 hb_18 z (Qe 16 z (Rx ⟨by kernel_rfl,freshL_of [] (by kernel_rfl) (by kernel_rfl),?_⟩))
   exact Xi false (An h (E0 z))
  exact(lt_t hi hb_15).elim
 have h:=hj_5
 refine Tri.region (Qe 2 z (Q1 z z z (Ax.ln (cl:=Cell.cl) z slc_22 z) (Qe 2 z ?_)))
 rcases b2 (decide ((a0.Cells.length:Int) < 1)) with hb_19 | hb_19
 ·have h:=cq hb_19 h
  exact Qk 12 hb_19 z (Qd z (Xi true (An h (E0 z))))
 have h:=cw hb_19 h
 refine Qk 12 hb_19 z (Qe 2 z (Q1 z z z (Ax.ln (cl:=Cell.cl) z slc_22 z) (Qe 3 z ?_)))
 rcases b2 (decide ((a0.Cells.length:Int) > 12)) with hb_20 | hb_20
 ·have h:=cq hb_20 h
  exact Qk 18 hb_20 z (Qd z (Xi true (An h (E0 z))))
 have h:=cw hb_20 h
 refine Qk 18 hb_20 z (Qe 2 z (Q1 z z z (Ax.ln (cl:=Arr2_3.cl) z slc_23 z) (Qe 3 z ?_)))
 rcases b2 (decide ((a0.Pairs.length:Int) > 24)) with hb_21 | hb_21
 ·have h:=cq hb_21 h
  exact Qk 24 hb_21 z (Qd z (Xi true (An h (E0 z))))
 have h:=cw hb_21 h
 refine Qk 24 hb_21 z (Qe 2 z ?_)
 obtain⟨x27,hc_3,h⟩:=bs h
 refine Qc z z z (args:=[Ai a0.Gain,Ai 65536]) (r:=Ab x27) (calv z z fnok_182 z) (f182_ok hc_3) z (Qe 3 z ?_)
 rcases b2 (!x27) with hb_22 | hb_22
 ·have h:=cq hb_22 h
  exact Qk 30 hb_22 z (Qd z (Xi true (An h (E0 z))))
 have h:=cw hb_22 h
 refine Qk 30 hb_22 z (Qe 2 z ?_)
 obtain⟨x33,hc_4,h⟩:=bs h
 refine Qc z z z (args:=[Ai a0.Slack,Ai 65536]) (r:=Ab x33) (calv z z fnok_182 z) (f182_ok hc_4) z (Qe 3 z ?_)
 rcases b2 (!x33) with hb_23 | hb_23
 ·have h:=cq hb_23 h
  exact Qk 36 hb_23 z (Qd z (Xi true (An h (E0 z))))
 have h:=cw hb_23 h
 refine Qk 36 hb_23 z (Qe 2 z ?_)
 obtain⟨x39,hc_5,h⟩:=bs h
 exact Qc z z z (args:=[Ai a0.Deep,Ai 65536]) (r:=Ab x39) (calv z z fnok_182 z) (f182_ok hc_5) z (Qd z (Xi (!x39) (An h (E0 z))))
theorem f116_ok {K:Nat} {a0:Basin} {a1:Int} {r:Int} (h:f116 K a0 a1=some r):CallOK Tryz.prog 116 [.agg (Basin.cl a0),Ai a1] [] (Ai r) []:=by
 refine Co Tryz.func116 z z (nl z) ?_
 unfold f116 at h
 refine Tp z (Ts (Tp z ?_))
 obtain⟨j,hj,h⟩:=jo h
 refine Tri.rngL h (fun p=>⟨[(1,Ai a1),(2,.ipt (Basin.cl a0) 0),(5,Ai p.1)],[]⟩) (fun y=>j y=some r) (fun(y:Unit)=>⟨[],[]⟩) (E0 z) ?_ ?_ ?_
 ·rintro⟨⟩ h
  subst hj
  refine Tp z (Te ?_)
  exact Ri h z
 ·rintro v5 ⟨⟩ hi h
  refine Ts (Tr (Qe 3 z (Q1 z z z (Ax.ln (cl:=Cell.cl) z slc_22 z) (Qd z (Tc (b:=(decide (v5 < (a0.Cells.length:Int)))) z (fun hb=>?_) (fun hb=>?_))))))
  ·exact(lt_f hi hb).elim
  exact Tri.exit (Xi () (An h (E0 z)))
 rintro nx x v5 ⟨⟩ _ hi hw hx h
 refine Ts (Tr (Qe 3 z (Q1 z z z (Ax.ln (cl:=Cell.cl) z slc_22 z) (Qd z (Tc (b:=(decide (v5 < (a0.Cells.length:Int)))) z (fun hb_1=>?_) (fun hb_1=>?_))))))
 ·refine Tk (Ts (Tri.block (Tr (Qe 3 z (Q1 z z z (Ax.ix (cl:=Cell.cl) z slc_22 z z hx) (Qd z (Tc (b:=(x.No==a1)) z (fun hb_2=>?_) (fun hb_2=>?_))))))))
  ·have h:=cq hb_2 h
   refine Tp z (Te ?_)
   exact Ri h z
  have h:=cw hb_2 h
  exact Tk (Tq z (Xi (v5+1,()) (An (An z h) (Es0 [5] z ⟨.imm (Sub.of_eq (show Ai (v5+1)=Ai (W (v5+1)) from congrArg Ai hw.symm)) z,u0⟩))))
 exact(lt_t hi hb_1).elim
theorem f117_ok {K:Nat} {a0:Scene} {a1:Int} {r:Int} (h:f117 K a0 a1=some r):CallOK Tryz.prog 117 [.agg (Scene.cl a0),Ai a1] [] (Ai r) []:=by
 refine Co Tryz.func117 z z (nl z) ?_
 unfold f117 at h
 refine Tp z (Ts (Tp z ?_))
 obtain⟨j,hj,h⟩:=jo h
 refine Tri.rngL h (fun p=>⟨[(1,Ai a1),(2,.ipt (Scene.cl a0) 0),(5,Ai p.1)],[]⟩) (fun y=>j y=some r) (fun(y:Unit)=>⟨[],[]⟩) (E0 z) ?_ ?_ ?_
 ·rintro⟨⟩ h
  subst hj
  refine Tp z (Te ?_)
  exact Ri h z
 ·rintro v5 ⟨⟩ hi h
  refine Ts (Tr (Qe 3 z (Q1 z z z (Ax.ln (cl:=icl) z slc_26 z) (Qd z (Tc (b:=(decide (v5 < (a0.Days.length:Int)))) z (fun hb=>?_) (fun hb=>?_))))))
  ·exact(lt_f hi hb).elim
  exact Tri.exit (Xi () (An h (E0 z)))
 rintro nx x v5 ⟨⟩ _ hi hw hx h
 refine Ts (Tr (Qe 3 z (Q1 z z z (Ax.ln (cl:=icl) z slc_26 z) (Qd z (Tc (b:=(decide (v5 < (a0.Days.length:Int)))) z (fun hb_1=>?_) (fun hb_1=>?_))))))
 ·refine Tk (Ts (Tri.block (Tr (Qe 3 z (Q1 z z z (Ax.ix (cl:=icl) z slc_26 z z hx) (Qd z (Tc (b:=(x==a1)) z (fun hb_2=>?_) (fun hb_2=>?_))))))))
  ·have h:=cq hb_2 h
   refine Tp z (Te ?_)
   exact Ri h z
  have h:=cw hb_2 h
  exact Tk (Tq z (Xi (v5+1,()) (An (An z h) (Es0 [5] z ⟨.imm (Sub.of_eq (show Ai (v5+1)=Ai (W (v5+1)) from congrArg Ai hw.symm)) z,u0⟩))))
 exact(lt_t hi hb_1).elim
theorem f181_ok {K:Nat} {a0:Scene} {a1:Sight} {r:Bool} (h:f181 K a0 a1=some r):CallOK Tryz.prog 181 [.agg (Scene.cl a0),.agg (Sight.cl a1)] [] (Ab r) []:=by
 refine Co Tryz.func181 z z (nl z) ?_
 unfold f181 at h
 refine Tp z (Ts ?_)
 obtain⟨v4,hj,h⟩:=bs h
 refine Tri.joinv v4 (fun(y:Bool)=>⟨[(4,Ab y)],[]⟩) ?_ ?_
 ·refine Te ?_
  exact Rb h z
 have h:=hj
 refine Tri.region (Qe 2 z ?_)
 obtain⟨x7,hc,h⟩:=bs h
 refine Qc z z z (args:=[Ai a1.No,Ai 8191]) (r:=Ab x7) (calv z z fnok_182 z) (f182_ok hc) z (Qe 1 z ?_)
 rcases b2 x7 with hb | hb
 ·have h:=cq hb h
  refine Qk 8 hb z (Qe 4 z ?_)
  obtain⟨x13,hc_1,h⟩:=bs h
  refine Qc z z z (args:=[.agg (Basin.cl a0.Basin),Ai a1.Cell]) (r:=Ai x13) (calv z z fnok_116 z) (f116_ok hc_1) z (Qe 3 z ?_)
  rcases b2 (decide (x13≥0)) with hb_1 | hb_1
  ·have h:=cq hb_1 h
   refine Qk 16 hb_1 z (Qe 3 z ?_)
   obtain⟨x20,hc_2,h⟩:=bs h
   refine Qc z z z (args:=[.agg (Scene.cl a0),Ai a1.Day]) (r:=Ai x20) (calv z z fnok_117 z) (f117_ok hc_2) z (Qe 3 z ?_)
   rcases b2 (decide (x20≥0)) with hb_2 | hb_2
   ·have h:=cq hb_2 h
    refine Qk 23 hb_2 z (Qe 5 z ?_)
    rcases b2 (decide (a1.Lo≥0)) with hb_3 | hb_3
    ·have h:=cq hb_3 h
     refine Qk 28 hb_3 z (Qe 7 z ?_)
     rcases b2 (decide (a1.Lo≤a1.Hi)) with hb_4 | hb_4
     ·have h:=cq hb_4 h
      exact Qk 35 hb_4 z (Qd z (Xi (decide (a1.Hi≤65536)) (An h (E0 z))))
     have h:=cw hb_4 h
     exact Qk 35 hb_4 z (Qd z (Xi false (An h (E0 z))))
    have h:=cw hb_3 h
    exact Qk 28 hb_3 z (Qd z (Xi false (An h (E0 z))))
   have h:=cw hb_2 h
   exact Qk 23 hb_2 z (Qd z (Xi false (An h (E0 z))))
  have h:=cw hb_1 h
  exact Qk 16 hb_1 z (Qd z (Xi false (An h (E0 z))))
 have h:=cw hb h
 exact Qk 8 hb z (Qd z (Xi false (An h (E0 z))))
theorem f183_ok {K:Nat} {a0:Scene} {a1:Change} {r:Bool} (h:f183 K a0 a1=some r):CallOK Tryz.prog 183 [.agg (Scene.cl a0),.agg (Change.cl a1)] [] (Ab r) []:=by
 refine Co Tryz.func183 z z (nl z) ?_
 unfold f183 at h
 refine Tp z (Ts ?_)
 obtain⟨v4,hj,h⟩:=bs h
 refine Tri.joinv v4 (fun(y:Bool)=>⟨[(4,Ab y)],[]⟩) ?_ ?_
 ·refine Te ?_
  exact Rb h z
 have h:=hj
 refine Tri.region (Qe 4 z ?_)
 obtain⟨x9,hc,h⟩:=bs h
 refine Qc z z z (args:=[.agg (Basin.cl a0.Basin),Ai a1.Cell]) (r:=Ai x9) (calv z z fnok_116 z) (f116_ok hc) z (Qe 2 z ?_)
 rcases b2 (decide (x9≥0)) with hb | hb
 ·have h:=cq hb h
  refine Qk 11 hb z (Qe 3 z ?_)
  obtain⟨x15,hc_1,h⟩:=bs h
  refine Qc z z z (args:=[.agg (Scene.cl a0),Ai a1.From]) (r:=Ai x15) (calv z z fnok_117 z) (f117_ok hc_1) z (Qe 3 z ?_)
  rcases b2 (decide (x15≥0)) with hb_1 | hb_1
  ·have h:=cq hb_1 h
   refine Qk 18 hb_1 z (Qe 3 z ?_)
   obtain⟨x22,hc_2,h⟩:=bs h
   refine Qc z z z (args:=[.agg (Scene.cl a0),Ai a1.To]) (r:=Ai x22) (calv z z fnok_117 z) (f117_ok hc_2) z (Qe 3 z ?_)
   rcases b2 (decide (x22≥0)) with hb_2 | hb_2
   ·have h:=cq hb_2 h
    refine Qk 25 hb_2 z (Qe 7 z ?_)
    rcases b2 (decide (a1.From < a1.To)) with hb_3 | hb_3
    ·have h:=cq hb_3 h
     refine Qk 32 hb_3 z (Qe 5 z ?_)
     rcases b2 (decide (a1.Lo≥(-65536))) with hb_4 | hb_4
     ·have h:=cq hb_4 h
      refine Qk 37 hb_4 z (Qe 7 z ?_)
      rcases b2 (decide (a1.Lo≤a1.Hi)) with hb_5 | hb_5
      ·have h:=cq hb_5 h
       exact Qk 44 hb_5 z (Qd z (Xi (decide (a1.Hi≤65536)) (An h (E0 z))))
      have h:=cw hb_5 h
      exact Qk 44 hb_5 z (Qd z (Xi false (An h (E0 z))))
     have h:=cw hb_4 h
     exact Qk 37 hb_4 z (Qd z (Xi false (An h (E0 z))))
    have h:=cw hb_3 h
    exact Qk 32 hb_3 z (Qd z (Xi false (An h (E0 z))))
   have h:=cw hb_2 h
   exact Qk 25 hb_2 z (Qd z (Xi false (An h (E0 z))))
  have h:=cw hb_1 h
  exact Qk 18 hb_1 z (Qd z (Xi false (An h (E0 z))))
 have h:=cw hb h
 exact Qk 11 hb z (Qd z (Xi false (An h (E0 z))))
theorem f76_ok {K:Nat} {a0:Scene} {r:Int} (h:f76 K a0=some r):CallOK Tryz.prog 76 [.agg (Scene.cl a0)] [] (Ai r) []:=by
 refine Co Tryz.func76 z z (nl z) ?_
 unfold f76 at h
 refine Tp z (Ts (Tr (Qe 2 z ?_)))
 obtain⟨x8,hc,h⟩:=bs h
 refine Qc z z z (args:=[.agg (Basin.cl a0.Basin)]) (r:=Ai x8) (calv z z fnok_75 z) (f75_ok hc) z (Qd z (Tc (b:=(x8 != 0)) z (fun hb=>?_) (fun hb=>?_)))
 ·have h:=cq hb h
  refine Tp z (Te ?_)
  exact Ri h z
 have h:=cw hb h
 refine Tk (Ts (Ts (Tri.join1 ⟨[(1,.ipt (Scene.cl a0) 0),(19,Ab ((decide ((a0.Days.length:Int) < 1))||(decide ((a0.Days.length:Int) > 16))))],[]⟩ ?_ ?_)))
 ·refine Tc (b:=((decide ((a0.Days.length:Int) < 1))||(decide ((a0.Days.length:Int) > 16)))) z (fun hb_1=>?_) (fun hb_1=>?_)
  ·have h:=cq hb_1 h
   refine Tp z (Te ?_)
   exact Ri h z
  have h:=cw hb_1 h
  refine Tk (Ts (Tp z ?_))
  obtain⟨j,hj,h⟩:=jo h
  refine Tri.rngL h (fun p=>⟨[(1,.ipt (Scene.cl a0) 0),(3,Ai p.1)],[]⟩) (fun y=>j y=some r) (fun(y:Unit)=>⟨[(1,.ipt (Scene.cl a0) 0)],[]⟩) (E0 z) ?_ ?_ ?_
  ·rintro⟨⟩ h
   subst hj
   refine Ts (Ts (Tri.join1 ⟨[(1,.ipt (Scene.cl a0) 0),(61,Ab ((decide ((a0.Sights.length:Int) > 256))||(decide ((a0.Changes.length:Int) > 256))))],[]⟩ ?_ ?_))
   ·refine Tc (b:=((decide ((a0.Sights.length:Int) > 256))||(decide ((a0.Changes.length:Int) > 256)))) z (fun hb_2=>?_) (fun hb_2=>?_)
    ·have h:=cq hb_2 h
     refine Tp z (Te ?_)
     exact Ri h z
    have h:=cw hb_2 h
    refine Tk (Ts (Tp z ?_))
    obtain⟨j_1,hj_1,h⟩:=jo h
    refine Tri.rngL h (fun p=>⟨[(1,.ipt (Scene.cl a0) 0),(4,Ai p.1)],[]⟩) (fun y=>j_1 y=some r) (fun(y:Unit)=>⟨[(1,.ipt (Scene.cl a0) 0)],[]⟩) (E0 z) ?_ ?_ ?_
    ·rintro⟨⟩ h
     subst hj_1
     refine Ts (Tp z ?_)
     obtain⟨j_2,hj_2,h⟩:=jo h
     refine Tri.rngL h (fun p=>⟨[(1,.ipt (Scene.cl a0) 0),(5,Ai p.1)],[]⟩) (fun y=>j_2 y=some r) (fun(y:Unit)=>⟨[],[]⟩) (E0 z) ?_ ?_ ?_
     ·rintro⟨⟩ h
      subst hj_2
      refine Tp z (Te ?_)
      exact Ri h z
     ·rintro v5 ⟨⟩ hi_2 h
      refine Ts (Tr (Qe 3 z (Q1 z z z (Ax.ln (cl:=Change.cl) z slc_28 z) (Qd z (Tc (b:=(decide (v5 < (a0.Changes.length:Int)))) z (fun hb_3=>?_) (fun hb_3=>?_))))))
      ·exact(lt_f hi_2 hb_3).elim
      exact Tri.exit (Xi () (An h (E0 z)))
     rintro nx_2 x_2 v5 ⟨⟩ _ hi_2 hw_2 hx_2 h
     refine Ts (Tr (Qe 3 z (Q1 z z z (Ax.ln (cl:=Change.cl) z slc_28 z) (Qd z (Tc (b:=(decide (v5 < (a0.Changes.length:Int)))) z (fun hb_4=>?_) (fun hb_4=>?_))))))
     ·refine Tk (Ts (Tri.block (Ts (Td [[],[],[1],[],[1,2,3],[1,2,3,4],[0,1,2,3,4,5],[0,1,2,3,4,5,6]] hmix (by kernel_rfl) (Qe 4 z (Q1 z z z (Ax.ix (cl:=Change.cl) z slc_28 z z hx_2) (Qe 1 z ?_)))))))
      obtain⟨x90,hc_1,h⟩:=bs h
      refine Qc z z z (args:=[.agg (Scene.cl a0),.agg (Change.cl x_2)]) (r:=Ab x90) (calv z z fnok_183 z) (f183_ok hc_1) z (Qe 1 z (Rx ⟨by kernel_rfl,freshL_of [] (by kernel_rfl) (by kernel_rfl),?_⟩))
      refine Tc (b:=(!x90)) z (fun hb_5=>?_) (fun hb_5=>?_)
      ·have h:=cq hb_5 h
       refine Tp z (Te ?_)
       exact Ri h z
      have h:=cw hb_5 h
      exact Tk (Tq z (Xi (v5+1,()) (An (An z h) (Es0 [5] z ⟨.imm (Sub.of_eq (show Ai (v5+1)=Ai (W (v5+1)) from congrArg Ai hw_2.symm)) z,u0⟩))))
     exact(lt_t hi_2 hb_4).elim
    ·rintro v4 ⟨⟩ hi_1 h
     refine Ts (Tr (Qe 3 z (Q1 z z z (Ax.ln (cl:=Sight.cl) z slc_27 z) (Qd z (Tc (b:=(decide (v4 < (a0.Sights.length:Int)))) z (fun hb_6=>?_) (fun hb_6=>?_))))))
     ·exact(lt_f hi_1 hb_6).elim
     exact Tri.exit (Xi () (An h (E0 z)))
    rintro nx_1 x_1 v4 ⟨⟩ _ hi_1 hw_1 hx_1 h
    refine Ts (Tr (Qe 3 z (Q1 z z z (Ax.ln (cl:=Sight.cl) z slc_27 z) (Qd z (Tc (b:=(decide (v4 < (a0.Sights.length:Int)))) z (fun hb_7=>?_) (fun hb_7=>?_))))))
    ·refine Tk (Ts (Tri.block (Ts (Td [[],[],[1],[],[1,2,3],[1,2,3,4],[0,1,2,3,4,5],[0,1,2,3,4,5,6]] hmix (by kernel_rfl) (Qe 4 z (Q1 z z z (Ax.ix (cl:=Sight.cl) z slc_27 z z hx_1) (Qe 1 z ?_)))))))
     obtain⟨x75,hc_2,h⟩:=bs h
     refine Qc z z z (args:=[.agg (Scene.cl a0),.agg (Sight.cl x_1)]) (r:=Ab x75) (calv z z fnok_181 z) (f181_ok hc_2) z (Qe 1 z (Rx ⟨by kernel_rfl,freshL_of [] (by kernel_rfl) (by kernel_rfl),?_⟩))
     refine Tc (b:=(!x75)) z (fun hb_8=>?_) (fun hb_8=>?_)
     ·have h:=cq hb_8 h
      refine Tp z (Te ?_)
      exact Ri h z
     have h:=cw hb_8 h
     exact Tk (Tq z (Xi (v4+1,()) (An (An z h) (Es0 [4] z ⟨.imm (Sub.of_eq (show Ai (v4+1)=Ai (W (v4+1)) from congrArg Ai hw_1.symm)) z,u0⟩))))
    exact(lt_t hi_1 hb_7).elim
   refine Tri.region (Qe 2 z (Q1 z z z (Ax.ln (cl:=Sight.cl) z slc_27 z) (Qe 2 z ?_)))
   rcases b2 (decide ((a0.Sights.length:Int) > 256)) with hb_9 | hb_9
   ·exact Qk 56 hb_9 z (Qd z ((Es0 [61] z ⟨.imm (Sub.of_eq (show Ab ((decide ((a0.Sights.length:Int) > 256))||(decide ((a0.Changes.length:Int) > 256)))=Ab true by simp only [cond_true,cond_false,Bool.true_or,Bool.false_or,Bool.true_and,Bool.false_and,Bool.or_true,Bool.or_false,Bool.and_true,Bool.and_false,hb,hb_1,hb_9])) z,u0⟩)))
   exact Qk 56 hb_9 z (Qe 2 z (Q1 z z z (Ax.ln (cl:=Change.cl) z slc_28 z) (Qd z ((Es0 [61] z ⟨.imm (Sub.of_eq (show Ab ((decide ((a0.Sights.length:Int) > 256))||(decide ((a0.Changes.length:Int) > 256)))=Ab (decide ((a0.Changes.length:Int) > 256)) by simp only [cond_true,cond_false,Bool.true_or,Bool.false_or,Bool.true_and,Bool.false_and,Bool.or_true,Bool.or_false,Bool.and_true,Bool.and_false,hb,hb_1,hb_9])) z,u0⟩)))))
  ·rintro v3 ⟨⟩ hi h
   refine Ts (Tr (Qe 3 z (Q1 z z z (Ax.ln (cl:=icl) z slc_26 z) (Qd z (Tc (b:=(decide (v3 < (a0.Days.length:Int)))) z (fun hb_10=>?_) (fun hb_10=>?_))))))
   ·exact(lt_f hi hb_10).elim
   exact Tri.exit (Xi () (An h (E0 z)))
  rintro nx x v3 ⟨⟩ _ hi hw hx h
  refine Ts (Tr (Qe 3 z (Q1 z z z (Ax.ln (cl:=icl) z slc_26 z) (Qd z (Tc (b:=(decide (v3 < (a0.Days.length:Int)))) z (fun hb_11=>?_) (fun hb_11=>?_))))))
  ·refine Tk (Ts (Tri.block (Ts ?_)))
   obtain⟨v51,hj_3,h⟩:=bs h
   refine Tri.joinv v51 (fun(y:Bool)=>⟨[(1,.ipt (Scene.cl a0) 0),(3,Ai v3),(51,Ab y)],[]⟩) ?_ ?_
   ·refine Tc (b:=v51) z (fun hb_12=>?_) (fun hb_12=>?_)
    ·have h:=cq hb_12 h
     refine Tp z (Te ?_)
     exact Ri h z
    have h:=cw hb_12 h
    exact Tk (Tq z (Xi (v3+1,()) (An (An z h) (Es0 [3] z ⟨.imm (Sub.of_eq (show Ai (v3+1)=Ai (W (v3+1)) from congrArg Ai hw.symm)) z,u0⟩))))
   have h:=hj_3
   refine Td [[],[0],[],[0,1,2],[0,1,2,3],[0,1,2,3,4],[0,1,2,3,4,5],[0,1,2,3,4,5,6],[0,1,2,3,4,5,6,7],[0,1,2,3,4,5,6,7,8],[0,1,2,3,4,5,6,7,8,9],[0,1,2,3,4,5,6,7,8,9,10],[0,1,2,3,4,5,6,7,8,9,10,11],[0,1,2,3,4,5,6,7,8,9,10],[0,1,2,3,4,5,6,7,8,9,10,13],[0,1,2,3,4,5,6,7,8,9,10,11,12,13,14],[0,1,2,3,4,5,6,7,8,9,10,11,12,13,14,15],[0,1,2,3,4,5,6,7,8,9,10],[0,1,2,3,4,5,6,7,8,9,10,17],[0,1,2,3,4,5,6,7,8,9,10],[0,1,2,3,4,5,6,7,8,9,10,17,18,19],[0,1,2,3,4,5,6,7,8,9,10,17,18,19,20],[0,1,2,3,4,5,6,7,8,9,10,11,12,13,14,15,16,17,18,19,20,21],[0,1,2,3,4,5,6,7,8,9,10,11,12,13,14,15,16,17,18,19,20,21,22],[0,1,2,3,4,5,6,7,8,9,10,11,12,13,14,15,16,17,18,19,20,21,22,23]] hmix (by kernel_rfl) (Qe 3 z (Q1 z z z (Ax.ix (cl:=icl) z slc_26 z z hx) (Qe 1 z ?_)))
   obtain⟨x32,hc_3,h⟩:=bs h
   refine Qc z z z (args:=[Ai x,Ai 1048576]) (r:=Ab x32) (calv z z fnok_182 z) (f182_ok hc_3) z (Qe 2 z ?_)
   rcases b2 (!x32) with hb_13 | hb_13
   ·have h:=cq hb_13 h
    refine Qk 34 hb_13 z (Qe 17 z (Rx ⟨by kernel_rfl,freshL_of [] (by kernel_rfl) (by kernel_rfl),?_⟩))
    exact Xi true (An h (E0 z))
   have h:=cw hb_13 h
   refine Qk 34 hb_13 z (Qe 3 z ?_)
   rcases b2 (decide (v3 > 0)) with hb_14 | hb_14
   ·have h:=cq hb_14 h
    refine Qk 37 hb_14 z (Qe 4 z ?_)
    obtain⟨y,hy,h⟩:=bs h
    refine Q1 z z z (Ax.ix (cl:=icl) z slc_26 z z hy) (Qe 4 z (Q1 z z z (Ax.ix (cl:=icl) z slc_26 z z hx) (Qe 4 z (Rx ⟨by kernel_rfl,freshL_of [] (by kernel_rfl) (by kernel_rfl),?_⟩))))
    exact Xi (decide (y≥x)) (An h (E0 z))
   have h:=cw hb_14 h
   refine Qk 37 hb_14 z (Qe 14 z (Rx ⟨by kernel_rfl,freshL_of [] (by kernel_rfl) (by kernel_rfl),?_⟩))
   exact Xi false (An h (E0 z))
  exact(lt_t hi hb_11).elim
 refine Tri.region (Qe 2 z (Q1 z z z (Ax.ln (cl:=icl) z slc_26 z) (Qe 2 z ?_)))
 rcases b2 (decide ((a0.Days.length:Int) < 1)) with hb_15 | hb_15
 ·exact Qk 14 hb_15 z (Qd z ((Es0 [19] z ⟨.imm (Sub.of_eq (show Ab ((decide ((a0.Days.length:Int) < 1))||(decide ((a0.Days.length:Int) > 16)))=Ab true by simp only [cond_true,cond_false,Bool.true_or,Bool.false_or,Bool.true_and,Bool.false_and,Bool.or_true,Bool.or_false,Bool.and_true,Bool.and_false,hb,hb_15])) z,u0⟩)))
 exact Qk 14 hb_15 z (Qe 2 z (Q1 z z z (Ax.ln (cl:=icl) z slc_26 z) (Qd z ((Es0 [19] z ⟨.imm (Sub.of_eq (show Ab ((decide ((a0.Days.length:Int) < 1))||(decide ((a0.Days.length:Int) > 16)))=Ab (decide ((a0.Days.length:Int) > 16)) by simp only [cond_true,cond_false,Bool.true_or,Bool.false_or,Bool.true_and,Bool.false_and,Bool.or_true,Bool.or_false,Bool.and_true,Bool.and_false,hb,hb_15])) z,u0⟩)))))
theorem f106_ok {K:Nat} {a0:Scene} {r:Bool} (h:f106 K a0=some r):CallOK Tryz.prog 106 [.agg (Scene.cl a0)] [] (Ab r) []:=by
 refine Co Tryz.func106 z z (nl z) ?_
 unfold f106 at h
 refine Tp z (Ts (Tri.join1 ⟨[(2,Ab ((decide ((W ((a0.Basin.Cells.length:Int)*(a0.Days.length:Int)))≤15))&&((decide ((a0.Basin.Pairs.length:Int)≤8))&&((decide ((a0.Sights.length:Int)≤10))&&(decide ((a0.Changes.length:Int)≤10))))))],[]⟩ ?_ ?_))
 ·refine Te ?_
  exact Rb h z
 refine Tri.region (Qe 3 z (Q1 z z z (Ax.ln (cl:=Cell.cl) z slc_22 z) (Qe 2 z (Q1 z z z (Ax.ln (cl:=icl) z slc_26 z) (Qe 3 z ?_)))))
 rcases b2 (decide ((W ((a0.Basin.Cells.length:Int)*(a0.Days.length:Int)))≤15)) with hb | hb
 ·refine Qk 12 hb z (Qe 3 z (Q1 z z z (Ax.ln (cl:=Arr2_3.cl) z slc_23 z) (Qe 3 z ?_)))
  rcases b2 (decide ((a0.Basin.Pairs.length:Int)≤8)) with hb_1 | hb_1
  ·refine Qk 19 hb_1 z (Qe 2 z (Q1 z z z (Ax.ln (cl:=Sight.cl) z slc_27 z) (Qe 3 z ?_)))
   rcases b2 (decide ((a0.Sights.length:Int)≤10)) with hb_2 | hb_2
   ·exact Qk 25 hb_2 z (Qe 2 z (Q1 z z z (Ax.ln (cl:=Change.cl) z slc_28 z) (Qd z ((Es0 [2] z ⟨.imm (Sub.of_eq (show Ab ((decide ((W ((a0.Basin.Cells.length:Int)*(a0.Days.length:Int)))≤15))&&((decide ((a0.Basin.Pairs.length:Int)≤8))&&((decide ((a0.Sights.length:Int)≤10))&&(decide ((a0.Changes.length:Int)≤10)))))=Ab (decide ((a0.Changes.length:Int)≤10)) by simp only [cond_true,cond_false,Bool.true_or,Bool.false_or,Bool.true_and,Bool.false_and,Bool.or_true,Bool.or_false,Bool.and_true,Bool.and_false,hb,hb_1,hb_2])) z,u0⟩)))))
   exact Qk 25 hb_2 z (Qd z ((Es0 [2] z ⟨.imm (Sub.of_eq (show Ab ((decide ((W ((a0.Basin.Cells.length:Int)*(a0.Days.length:Int)))≤15))&&((decide ((a0.Basin.Pairs.length:Int)≤8))&&((decide ((a0.Sights.length:Int)≤10))&&(decide ((a0.Changes.length:Int)≤10)))))=Ab false by simp only [cond_true,cond_false,Bool.true_or,Bool.false_or,Bool.true_and,Bool.false_and,Bool.or_true,Bool.or_false,Bool.and_true,Bool.and_false,hb,hb_1,hb_2])) z,u0⟩)))
  exact Qk 19 hb_1 z (Qd z ((Es0 [2] z ⟨.imm (Sub.of_eq (show Ab ((decide ((W ((a0.Basin.Cells.length:Int)*(a0.Days.length:Int)))≤15))&&((decide ((a0.Basin.Pairs.length:Int)≤8))&&((decide ((a0.Sights.length:Int)≤10))&&(decide ((a0.Changes.length:Int)≤10)))))=Ab false by simp only [cond_true,cond_false,Bool.true_or,Bool.false_or,Bool.true_and,Bool.false_and,Bool.or_true,Bool.or_false,Bool.and_true,Bool.and_false,hb,hb_1])) z,u0⟩)))
 exact Qk 12 hb z (Qd z ((Es0 [2] z ⟨.imm (Sub.of_eq (show Ab ((decide ((W ((a0.Basin.Cells.length:Int)*(a0.Days.length:Int)))≤15))&&((decide ((a0.Basin.Pairs.length:Int)≤8))&&((decide ((a0.Sights.length:Int)≤10))&&(decide ((a0.Changes.length:Int)≤10)))))=Ab false by simp only [cond_true,cond_false,Bool.true_or,Bool.false_or,Bool.true_and,Bool.false_and,Bool.or_true,Bool.or_false,Bool.and_true,Bool.and_false,hb])) z,u0⟩)))
theorem f36_ok {K:Nat} {a0:Scene} {r:Bool} (h:f36 K a0=some r):CallOK Tryz.prog 36 [.agg (Scene.cl a0)] [] (Ab r) []:=by
 refine Co Tryz.func36 z z (nl z) ?_
 unfold f36 at h
 refine Tp z (Ts ?_)
 obtain⟨v2,hj,h⟩:=bs h
 refine Tri.joinv v2 (fun(y:Bool)=>⟨[(2,Ab y)],[]⟩) ?_ ?_
 ·refine Te ?_
  exact Rb h z
 have h:=hj
 refine Tri.region (Qe 1 z ?_)
 obtain⟨x4,hc,h⟩:=bs h
 refine Qc z z z (args:=[.agg (Scene.cl a0)]) (r:=Ab x4) (calv z z fnok_106 z) (f106_ok hc) z (Qe 1 z ?_)
 rcases b2 x4 with hb | hb
 ·have h:=cq hb h
  refine Qk 5 hb z (Qe 1 z ?_)
  obtain⟨x7,hc_1,h⟩:=bs h
  refine Qc z z z (args:=[.agg (Scene.cl a0)]) (r:=Ai x7) (calv z z fnok_66 z) (f66_ok hc_1) z (Qe 3 z ?_)
  rcases b2 (x7==0) with hb_1 | hb_1
  ·have h:=cq hb_1 h
   refine Qk 10 hb_1 z (Qe 1 z ?_)
   obtain⟨x12,hc_2,h⟩:=bs h
   exact Qc z z z (args:=[.agg (Scene.cl a0)]) (r:=Ai x12) (calv z z fnok_76 z) (f76_ok hc_2) z (Qd z (Xi (x12==0) (An h (E0 z))))
  have h:=cw hb_1 h
  exact Qk 10 hb_1 z (Qd z (Xi false (An h (E0 z))))
 have h:=cw hb h
 exact Qk 5 hb z (Qd z (Xi false (An h (E0 z))))
theorem f176_ok {K:Nat} {a0:Int} {a1:Int} {r:Bool} (h:f176 K a0 a1=some r):CallOK Tryz.prog 176 [Ai a0,.ipt (icl a1) 0] [] (Ab r) []:=by
 refine Co Tryz.func176 z z (nl z) ?_
 unfold f176 at h
 refine Tp z (Tp z (Te ?_))
 exact Rb h z
theorem f67_ok {K:Nat} {a0:Scene} {a1:Int} {r:Scene × Int} (h:f67 K a0 a1=some r):CallOK Tryz.prog 67 [.agg (Scene.cl a0),Ai a1] [] (.tup [.agg (Scene.cl r.1),Ai r.2]) []:=by
 refine Co Tryz.func67 z z (nl z) ?_
 unfold f67 at h
 refine Tr (Qe 2 z (Qn z z z (v:=.ptr 4 0) (x:=some (.box (Scene.cl (⟨(⟨([]:List Cell),([]:List Arr2_3),0,0,0⟩:Basin),([]:List Int),([]:List Sight),([]:List Change)⟩:Scene)))) (Al_ z z zer_30 z ⟨Sub.nil _,Sub.nil _,Sub.refl _,Sub.refl _,Sub.refl _,Sub.nil _,Sub.nil _,Sub.nil _,u0⟩) z z z z z (Qd z (Ts (Tr (Qe 1 z ?_))))))
 obtain⟨x8,hc,h⟩:=bs h
 refine Qc z z z (args:=[.agg (Scene.cl a0)]) (r:=Ai x8) (calv z z fnok_66 z) (f66_ok hc) z (Qd z (Tp z (Tc (b:=(x8 != 0)) z (fun hb=>?_) (fun hb=>?_))))
 ·have h:=cq hb h
  refine Tr (Q1 z z z (v:=.agg (Scene.cl (⟨(⟨([]:List Cell),([]:List Arr2_3),0,0,0⟩:Basin),([]:List Int),([]:List Sight),([]:List Change)⟩:Scene))) (Ab_ z zer_30 (bld plc_30 zer_30) z ⟨Sub.nil _,Sub.nil _,Sub.refl _,Sub.refl _,Sub.refl _,Sub.nil _,Sub.nil _,Sub.nil _,u0⟩) (Qe 1 z (Qs z z (x:=some (.box (Scene.cl (⟨(⟨([]:List Cell),([]:List Arr2_3),0,0,0⟩:Basin),([]:List Int),([]:List Sight),([]:List Change)⟩:Scene)))) (As z siz_30 z z z z z z z) (Qd z (Te ?_)))))
  refine Rr (fun r=>.tup [.agg (Scene.cl r.1),Ai r.2]) (fun r=>[]) [] h ?_ u0
  rfl
 have h:=cw hb h
 refine Tk (Tr (Qe 1 z ?_))
 obtain⟨x14,hc_1,h⟩:=bs h
 refine Qc z z z (args:=[.agg (Scene.cl a0)]) (r:=.agg (Scene.cl x14)) (calv z z fnok_131 z) (f131_ok hc_1) z (Q1 z z z (v:=.fn 176 [.ipt (icl a1) 0]) (Ax.func z z) ?_)
 obtain⟨x16,hc_2,h⟩:=bs h
 refine Qc z z z (args:=[.agg (Scene.cl x14),.fn 176 [.ipt (icl a1) 0]]) (r:=.agg (Scene.cl x16)) (calv z z fnok_138 z) (f138_ok fnok_176 z (fun _ _ hr=>f176_ok hr) hc_2) z (Qs z z (x:=some (.box (Scene.cl x16))) (As z siz_30 z z z z z z z) (Qd z (Te ?_)))
 refine Rr (fun r=>.tup [.agg (Scene.cl r.1),Ai r.2]) (fun r=>[]) [] h ?_ u0
 rfl
theorem f68_ok {K:Nat} {a0:Span} {a1:Span} {r:Bool} (h:f68 K a0 a1=some r):CallOK Tryz.prog 68 [.agg (Span.cl a0),.agg (Span.cl a1)] [] (Ab r) []:=by
 refine Co Tryz.func68 z z (nl z) ?_
 unfold f68 at h
 refine Tp z (Ts (Tri.join1 ⟨[(4,Ab ((decide (a1.Lo≤a0.Lo))&&(decide (a0.Hi≤a1.Hi))))],[]⟩ ?_ ?_))
 ·refine Te ?_
  exact Rb h z
 refine Tri.region (Qe 6 z ?_)
 rcases b2 (decide (a1.Lo≤a0.Lo)) with hb | hb
 ·exact Qk 10 hb z (Qd z ((Es0 [4] z ⟨.imm (Sub.of_eq (show Ab ((decide (a1.Lo≤a0.Lo))&&(decide (a0.Hi≤a1.Hi)))=Ab (decide (a0.Hi≤a1.Hi)) by simp only [cond_true,cond_false,Bool.true_or,Bool.false_or,Bool.true_and,Bool.false_and,Bool.or_true,Bool.or_false,Bool.and_true,Bool.and_false,hb])) z,u0⟩)))
 exact Qk 10 hb z (Qd z ((Es0 [4] z ⟨.imm (Sub.of_eq (show Ab ((decide (a1.Lo≤a0.Lo))&&(decide (a0.Hi≤a1.Hi)))=Ab false by simp only [cond_true,cond_false,Bool.true_or,Bool.false_or,Bool.true_and,Bool.false_and,Bool.or_true,Bool.or_false,Bool.and_true,Bool.and_false,hb])) z,u0⟩)))
theorem f200_ok {K:Nat} {a0:List Sight} {a1:Sight→Option Bool} {g1:Nat} {caps1:List AV} {r:Int} (hg1:FnOK Tryz.prog g1) (ho1:(AV.fn g1 caps1).only []=true) (hp1:∀ x0 r,a1 x0=some r→CallOK Tryz.prog g1 ([.agg (Sight.cl x0)]++caps1) [] (Ab r) []) (h:f200 K a0 a1=some r):CallOK Tryz.prog 200 [.lst 5 (a0.map Sight.cl),.fn g1 caps1] [] (Ai r) []:=by
 refine Co Tryz.func200 z z (nl z) ?_
 unfold f200 at h
 refine Tp z (Ts (Tr (Qe 1 z (Q1 z z z (Ax.ln (cl:=Sight.cl) z slc_27 z) (Qd z ?_)))))
 obtain⟨j,hj,h⟩:=jo h
 refine Tri.rngL h (fun p=>⟨[(0,.lst 5 (a0.map Sight.cl)),(1,.fn g1 caps1),(7,Ai (a0.length:Int)),(8,Ai p.1)],[]⟩) (fun y=>j y=some r) (fun(y:Unit)=>⟨[],[]⟩) (Es0 [1] z ⟨.imm (Sub.refl _) ho1,u0⟩) ?_ ?_ ?_
 ·rintro⟨⟩ h
  subst hj
  refine Tp z (Te ?_)
  exact Ri h z
 ·rintro v8 ⟨⟩ hi h
  refine Tp z (Ts (Tc (b:=(decide (v8 < (a0.length:Int)))) z (fun hb=>?_) (fun hb=>?_)))
  ·exact(lt_f hi hb).elim
  exact Tri.exit (Xi () (An h (E0 z)))
 rintro nx x v8 ⟨⟩ _ hi hw hx h
 refine Tp z (Ts (Tc (b:=(decide (v8 < (a0.length:Int)))) z (fun hb_1=>?_) (fun hb_1=>?_)))
 ·refine Tk (Ts (Tri.block (Tp z (Tr (Qe 3 z (Q1 z z z (Ax.ix (cl:=Sight.cl) z slc_27 z z hx) (Qe 1 z ?_)))))))
  obtain⟨x16,hc,h⟩:=bs h
  refine Qc z z z (args:=[.agg (Sight.cl x)]++caps1) (r:=Ab x16) (calv z z hg1 z) (hp1 _ _ hc) z (Rx (Tc (b:=x16) z (fun hb_2=>?_) (fun hb_2=>?_)))
  ·have h:=cq hb_2 h
   refine Tp z (Te ?_)
   exact Ri h z
  have h:=cw hb_2 h
  exact Tk (Tq z (Xi (v8+1,()) (An (An z h) (Es0 [1,8] z ⟨.imm (Sub.refl _) ho1,.imm (Sub.of_eq (show Ai (v8+1)=Ai (W (v8+1)) from congrArg Ai hw.symm)) z,u0⟩))))
 exact(lt_t hi hb_1).elim
theorem f192_ok {K:Nat} {a0:List Sight} {a1:Sight→Option Bool} {g1:Nat} {caps1:List AV} {r:List Sight} (hg1:FnOK Tryz.prog g1) (ho1:(AV.fn g1 caps1).only []=true) (hp1:∀ x0 r,a1 x0=some r→CallOK Tryz.prog g1 ([.agg (Sight.cl x0)]++caps1) [] (Ab r) []) (h:f192 K a0 a1=some r):CallOK Tryz.prog 192 [.hnd 20270000,.fn g1 caps1] [(20270000,.arr 64 5 (a0.map Sight.cl))] (.lst 5 (r.map Sight.cl)) []:=by
 refine Co Tryz.func192 z z (nl z) ?_
 unfold f192 at h
 refine Tr (Q1 z z z (v:=.lst 5 (([]:List Sight).map Sight.cl)) (Ax.nl 5 z z) (Rx (Tr (Qe 2 z ?_))))
 obtain⟨x10,hc,h⟩:=bs h
 refine Ql [20270000] z z z (args:=[.hnd 20270000,.fn g1 caps1]) (args':=[.lst 5 (a0.map Sight.cl),.fn g1 caps1]) (r:=Ai x10) (calv z z fnok_200 z) ⟨.hnd mh z (im_flat Sight_im a0),.clean ho1,u0⟩ (f200_ok hg1 ho1 hp1 hc) z z (Qd z (Ts (Tp z (Tc (b:=(x10==(-1))) z (fun hb=>?_) (fun hb=>?_)))))
 ·have h:=cq hb h
  refine Tp z (Te ?_)
  refine RetQ.eq2 (fun r=>.lst 5 (r.map Sight.cl)) (fun r=>[]) (Option.some.inj h) ?_
  exact RetQ.mk (vs:=[.hnd 20270000]) (.inr z) ⟨_,_,z,.tmp z,z⟩ [20270000] [] z z u0 (.frz (.hnd mh z (im_flat Sight_im a0)) z)
 have h:=cw hb h
 refine Tk (Ts (Tp z ?_))
 obtain⟨⟨vo0_1,v5_1⟩,hj,h⟩:=bs h
 refine Tri.whlv hj (fun p=>⟨[(0,.hnd 20270000),(1,.fn g1 caps1),(5,Ai p.2.1),(6,Ai p.2.2)],[(20270000,some (.arr 64 5 (p.1.map Sight.cl)))]⟩) (fun(y:List Sight × Int)=>⟨[(0,.hnd 20270000),(5,Ai y.2)],[(20270000,some (.arr 64 5 (y.1.map Sight.cl)))]⟩) (Es [20270000] [1] z ⟨imf Sight_im,u0⟩ ⟨.imm (Sub.refl _) ho1,u0⟩) ?_ ?_
 ·refine Tr (Qe 2 z ?_)
  obtain⟨_,hz,h⟩:=bs h
  refine Q1 z z z (v:=.vw 20270000 5 (Int.toNat v5_1) (Int.toNat (vo0_1.length:Int)) vo0_1.length) (Ax.vh (cl:=Sight.cl) (xs:=vo0_1) z slc_27 z z ⟨_,z⟩ z hz) (Qs z z (v:=.tup []) (x:=some (.arr 64 5 ((clrI vo0_1 v5_1 (vo0_1.length:Int) (⟨0,0,0,0,0⟩:Sight)).map Sight.cl))) (Ax.vclr (cl:=Sight.cl) (xs:=vo0_1) (zv:=(⟨0,0,0,0,0⟩:Sight)) z slc_27 z z z z) (Rx (Tr (Qe 2 z ?_))))
  obtain⟨_,hz_1,h⟩:=bs h
  refine Q1 z z z (v:=.vw 20270000 5 (Int.toNat 0) (Int.toNat v5_1) ((clrI vo0_1 v5_1 (vo0_1.length:Int) (⟨0,0,0,0,0⟩:Sight)).length)) (Ax.vh (cl:=Sight.cl) (xs:=(clrI vo0_1 v5_1 (vo0_1.length:Int) (⟨0,0,0,0,0⟩:Sight))) z slc_27 z z z ⟨_,z⟩ hz_1) ?_
  obtain⟨z4,hz_2,h⟩:=bs h
  refine Qa z z z (v:=.hnd 4) (x:=some (.arr 64 5 (z4.map Sight.cl))) (Ax.vo (cl:=Sight.cl) (.inr z) z z z hz_2 z) z (by first | rfl | (exact freshB_mk (by first | rfl | simp [menT,menO,AO.men,AV.men,menL,fn_men ho1]) z (by first | rfl | simp [menT,menO,AO.men,AV.men,menL,fn_men ho1]) z) | (simp [menT,menO,AO.men,AV.men,menL,fn_men ho1]; done) | ((simp only [List.all_cons,List.all_nil,Bool.and_true,Bool.and_eq_true]); and_intros <;> exact freshB_mk (by first | rfl | simp [menT,menO,AO.men,AV.men,menL,fn_men ho1]) z (by first | rfl | simp [menT,menO,AO.men,AV.men,menL,fn_men ho1]) z)) z (by first | rfl | (exact freshB_mk (by first | rfl | simp [menT,menO,AO.men,AV.men,menL,fn_men ho1]) z (by first | rfl | simp [menT,menO,AO.men,AV.men,menL,fn_men ho1]) z) | (simp [menT,menO,AO.men,AV.men,menL,fn_men ho1]; done) | ((simp only [List.all_cons,List.all_nil,Bool.and_true,Bool.and_eq_true]); and_intros <;> exact freshB_mk (by first | rfl | simp [menT,menO,AO.men,AV.men,menL,fn_men ho1]) z (by first | rfl | simp [menT,menO,AO.men,AV.men,menL,fn_men ho1]) z)) z (Rx (Te ?_))
  refine RetQ.eq2 (fun r=>.lst 5 (r.map Sight.cl)) (fun r=>[]) (Option.some.inj h) ?_
  exact RetQ.mk (vs:=[.hnd 4]) (.inr z) ⟨_,_,z,.tmp z,z⟩ [4] [] z z u0 (.frz (.hnd mh z (im_flat Sight_im z4)) z)
 rintro nx ⟨vo0,v5,v6⟩ h
 refine Ts (Tr (Qe 2 z (Q1 z z z (Ax.lnh (cl:=Sight.cl) z slc_27 z z) (Qd z (Tc (b:=(decide (v6 < (vo0.length:Int)))) z (fun hb_1=>?_) (fun hb_1=>?_))))))
 ·have h:=cq hb_1 h
  refine Tk (Ts (Tri.block (Tr (Qe 2 z ?_))))
  obtain⟨y,hy,h⟩:=bs h
  refine Q1 z z z (Ax.ixh (cl:=Sight.cl) z slc_27 z z z hy) (Q1 z z z (v:=.agg (Sight.cl y)) (Ax.la_arr (cl:=Sight.cl) z siz_64 z z hy z z) (Qn z z z (v:=.ptr 7 0) (x:=some (.box (Sight.cl (⟨0,0,0,0,0⟩:Sight)))) (Al_ z z zer_64 z ⟨Sub.refl _,Sub.refl _,Sub.refl _,Sub.refl _,Sub.refl _,u0⟩) z (by first | rfl | (exact freshB_mk (by first | rfl | simp [menT,menO,AO.men,AV.men,menL,fn_men ho1]) z (by first | rfl | simp [menT,menO,AO.men,AV.men,menL,fn_men ho1]) z) | (simp [menT,menO,AO.men,AV.men,menL,fn_men ho1]; done) | ((simp only [List.all_cons,List.all_nil,Bool.and_true,Bool.and_eq_true]); and_intros <;> exact freshB_mk (by first | rfl | simp [menT,menO,AO.men,AV.men,menL,fn_men ho1]) z (by first | rfl | simp [menT,menO,AO.men,AV.men,menL,fn_men ho1]) z)) z (by first | rfl | (exact freshB_mk (by first | rfl | simp [menT,menO,AO.men,AV.men,menL,fn_men ho1]) z (by first | rfl | simp [menT,menO,AO.men,AV.men,menL,fn_men ho1]) z) | (simp [menT,menO,AO.men,AV.men,menL,fn_men ho1]; done) | ((simp only [List.all_cons,List.all_nil,Bool.and_true,Bool.and_eq_true]); and_intros <;> exact freshB_mk (by first | rfl | simp [menT,menO,AO.men,AV.men,menL,fn_men ho1]) z (by first | rfl | simp [menT,menO,AO.men,AV.men,menL,fn_men ho1]) z)) z (Qs z z (x:=some (.box (Sight.cl y))) (As z siz_64 z z z z z z z) (Rx (Tr (Qe 2 z ?_))))))
  obtain⟨x28,hc_1,h⟩:=bs h
  refine Qc z z z (args:=[.agg (Sight.cl y)]++caps1) (r:=Ab x28) (calv z z hg1 z) (hp1 _ _ hc_1) z (Qd z ?_)
  obtain⟨⟨vo0_2,v5_2⟩,hj_1,h⟩:=bs h
  refine Tri.joinv (vo0_2,v5_2) (fun(y:List Sight × Int)=>⟨[(0,.hnd 20270000),(1,.fn g1 caps1),(5,Ai y.2),(6,Ai v6)],[(20270000,some (.arr 64 5 (y.1.map Sight.cl)))]⟩) ?_ ?_
  ·exact Tq z (Xi (vo0_2,v5_2,(W (v6+1))) (An h (Es [20270000] [1] z ⟨imf Sight_im,u0⟩ ⟨.imm (Sub.refl _) ho1,u0⟩)))
  have h:=hj_1
  refine Tc (b:=(!x28)) z (fun hb_2=>?_) (fun hb_2=>?_)
  ·have h:=cq hb_2 h
   refine Tr (Qe 3 z ?_)
   obtain⟨y_1,hy_1,h⟩:=bs h
   exact Q1 z z z (Ax.ixh (cl:=Sight.cl) z slc_27 z z z hy_1) (Qs z z (x:=some (.arr 64 5 ((vo0.set (Int.toNat v5) y).map Sight.cl))) (Ax.st_arr (cl:=Sight.cl) (q:=y) z siz_64 z z hy_1 z z z z z z) (Rx (Tq z (Xi ((vo0.set (Int.toNat v5) y),(W (v5+1))) (An h (Es [20270000] [1] z ⟨imf Sight_im,u0⟩ ⟨.imm (Sub.refl _) ho1,u0⟩))))))
  have h:=cw hb_2 h
  exact Tk (Xi (vo0,v5) (An h (Es [20270000] [1] z ⟨imf Sight_im,u0⟩ ⟨.imm (Sub.refl _) ho1,u0⟩)))
 have h:=cw hb_1 h
 exact Tri.exit (Xi (vo0,v5) (An h (Ee [20270000] z ⟨imf Sight_im,u0⟩)))
theorem f193_ok {K:Nat} {a0:Sight} {a1:List Int} {r:Bool} (h:f193 K a0 a1=some r):CallOK Tryz.prog 193 [.agg (Sight.cl a0),.ipt (cl26 a1) 0] [] (Ab r) []:=by
 refine Co Tryz.func193 z z (nl z) ?_
 unfold f193 at h
 refine Tp z (Tr (Qe 3 z ?_))
 obtain⟨x7,hc,h⟩:=bs h
 refine Qc z z z (args:=[.lst 1 (a1.map icl),Ai a0.No]) (r:=Ab x7) (calv z z fnok_83 z) (f83_ok hc) z (Qd z (Te ?_))
 exact Rb h z
theorem f82_ok {K:Nat} {a0:Scene} {a1:List Int} {r:Scene} (h:f82 K a0 a1=some r):CallOK Tryz.prog 82 [.agg (Scene.cl a0),.lst 1 (a1.map icl)] [] (.agg (Scene.cl r)) []:=by
 refine Co Tryz.func82 z z (nl z) ?_
 unfold f82 at h
 refine Tr (Qn z z z (v:=.ptr 2 0) (x:=some (.box (Scene.cl a0))) (Ax.box_ptr z z z z) z z z z z (Qe 1 z (Qn z z z (v:=.ptr 4 0) (x:=some (.box (Scene.cl (⟨(⟨([]:List Cell),([]:List Arr2_3),0,0,0⟩:Basin),([]:List Int),([]:List Sight),([]:List Change)⟩:Scene)))) (Al_ z z zer_30 z ⟨Sub.nil _,Sub.nil _,Sub.refl _,Sub.refl _,Sub.refl _,Sub.nil _,Sub.nil _,Sub.nil _,u0⟩) z z z z z (Rx (Tr (Qe 2 z ?_))))))
 obtain⟨x7,hc,h⟩:=bs h
 refine Qo [] [(20270000,.arr 64 5 (x7.map Sight.cl))] [20270000] z z z (args:=[.lst 5 (a0.Sights.map Sight.cl)]) (r:=.hnd 20270000) (calv z z fnok_42 z) (f42_fr hc) u0 z z z z z (Q1 z z z (v:=.fn 193 [.ipt (cl26 a1) 0]) (Ax.func z z) ?_)
 obtain⟨x9,hc_1,h⟩:=bs h
 refine Qo [(20270000,.arr 64 5 (x7.map Sight.cl))] [] [] z z z (args:=[.hnd 20270000,.fn 193 [.ipt (cl26 a1) 0]]) (r:=.lst 5 (x9.map Sight.cl)) (calv z z fnok_192 z) (f192_ok fnok_193 z (fun _ _ hr=>f193_ok hr) hc_1) ⟨z,u0⟩ z z z z z (Qe 1 z (Qs z z (x:=some (.box (Scene.cl (⟨a0.Basin,a0.Days,x9,a0.Changes⟩:Scene)))) (As z siz_27 z z z z z z z) (Rx (Tr (Qe 1 z (Qs z z (x:=some (.box (Scene.cl (⟨a0.Basin,a0.Days,x9,a0.Changes⟩:Scene)))) (As z siz_30 z z z z z z z) (Rx (Te ?_))))))))
 refine Rr (fun r=>.agg (Scene.cl r)) (fun r=>[]) [] h ?_ u0
 rfl
theorem f14_ok {K:Nat} {a0:Scene} {a1:List Int} {a2:Int} {a3:Int} {r:Bool} (h:f14 K a0 a1 a2 a3=some r):CallOK Tryz.prog 14 [.agg (Scene.cl a0),.lst 1 (a1.map icl),Ai a2,Ai a3] [] (Ab r) []:=by
 refine Co Tryz.func14 z z (nl z) ?_
 unfold f14 at h
 refine Tp z (Ts (Tr ?_))
 obtain⟨x30,hc,h⟩:=bs h
 refine Qc z z z (args:=[]) (r:=Ab x30) (calv z z fnok_21 z) (f21_ok hc) z (Qd z (Tc (b:=(!x30)) z (fun hb=>?_) (fun hb=>?_)))
 ·have h:=cq hb h
  refine Tp z (Te ?_)
  exact Rb h z
 have h:=cw hb h
 refine Tk (Ts (Ts ?_))
 obtain⟨v39,hj_5,h⟩:=bs h
 refine Tri.joinv v39 (fun(y:Bool)=>⟨[(1,.lst 1 (a1.map icl)),(2,Ai a2),(3,Ai a3),(4,.ipt (Scene.cl a0) 0),(39,Ab y)],[]⟩) ?_ ?_
 ·refine Tc (b:=v39) z (fun hb_1=>?_) (fun hb_1=>?_)
  ·have h:=cq hb_1 h
   refine Tp z (Te ?_)
   exact Rb h z
  have h:=cw hb_1 h
  refine Tk (Tr (Qe 3 z ?_))
  obtain⟨⟨x44_0,x44_1⟩,hc_1,h⟩:=bs h
  refine Qc z z z (args:=[.agg (Scene.cl a0),.lst 1 (a1.map icl),Ai a2]) (r:=.tup [.lst 1 (x44_0.map icl),Ai x44_1]) (calv z z fnok_81 z) (f81_ok hc_1) z (Qd z (Ts (Tp z (Tc (b:=(x44_1 != 0)) z (fun hb_2=>?_) (fun hb_2=>?_)))))
  ·have h:=cq hb_2 h
   refine Ts (Tri.join1 ⟨[(8,Ab (((x44_0.length:Int)==0)&&((x44_1==1)||(x44_1==41))))],[]⟩ ?_ ?_)
   ·refine Te ?_
    exact Rb h z
   refine Tri.region (Qe 1 z (Q1 z z z (Ax.ln (cl:=icl) z slc_26 z) (Qe 2 z ?_)))
   rcases b2 ((x44_0.length:Int)==0) with hb_3 | hb_3
   ·refine Qk 52 hb_3 z (Qe 3 z ?_)
    rcases b2 (x44_1==1) with hb_4 | hb_4
    ·exact Qk 55 hb_4 z (Qd z ((Es0 [8] z ⟨.imm (Sub.of_eq (show Ab (((x44_0.length:Int)==0)&&((x44_1==1)||(x44_1==41)))=Ab true by simp only [cond_true,cond_false,Bool.true_or,Bool.false_or,Bool.true_and,Bool.false_and,Bool.or_true,Bool.or_false,Bool.and_true,Bool.and_false,hb,hb_1,hb_2,hb_3,hb_4])) z,u0⟩)))
    exact Qk 55 hb_4 z (Qd z ((Es0 [8] z ⟨.imm (Sub.of_eq (show Ab (((x44_0.length:Int)==0)&&((x44_1==1)||(x44_1==41)))=Ab (x44_1==41) by simp only [cond_true,cond_false,Bool.true_or,Bool.false_or,Bool.true_and,Bool.false_and,Bool.or_true,Bool.or_false,Bool.and_true,Bool.and_false,hb,hb_1,hb_2,hb_3,hb_4])) z,u0⟩)))
   exact Qk 52 hb_3 z (Qd z ((Es0 [8] z ⟨.imm (Sub.of_eq (show Ab (((x44_0.length:Int)==0)&&((x44_1==1)||(x44_1==41)))=Ab false by simp only [cond_true,cond_false,Bool.true_or,Bool.false_or,Bool.true_and,Bool.false_and,Bool.or_true,Bool.or_false,Bool.and_true,Bool.and_false,hb,hb_1,hb_2,hb_3])) z,u0⟩)))
  have h:=cw hb_2 h
  refine Tk (Tr (Qe 2 z ?_))
  obtain⟨⟨x63_0,x63_1⟩,hc_2,h⟩:=bs h
  refine Qc z z z (args:=[.agg (Scene.cl a0),Ai a3]) (r:=.tup [.agg (Scene.cl x63_0),Ai x63_1]) (calv z z fnok_67 z) (f67_ok hc_2) z (Qe 3 z (Qn z z z (v:=.ptr 11 0) (x:=some (.box (Scene.cl (⟨(⟨([]:List Cell),([]:List Arr2_3),0,0,0⟩:Basin),([]:List Int),([]:List Sight),([]:List Change)⟩:Scene)))) (Al_ z z zer_30 z ⟨Sub.nil _,Sub.nil _,Sub.refl _,Sub.refl _,Sub.refl _,Sub.nil _,Sub.nil _,Sub.nil _,u0⟩) z z z z z (Qs z z (x:=some (.box (Scene.cl x63_0))) (As z siz_30 z z z z z z z) (Qd z (Ts (Ts (Tri.join1 ⟨[(1,.lst 1 (a1.map icl)),(2,Ai a2),(3,Ai a3),(4,.ipt (Scene.cl a0) 0),(9,.lst 1 (x44_0.map icl)),(11,.ptr 11 0),(75,Ab ((x63_1 != 0)||(decide ((x44_0.length:Int) > (a0.Sights.length:Int)))))],[(11,some (.box (Scene.cl x63_0)))]⟩ ?_ ?_)))))))
  ·refine Tc (b:=((x63_1 != 0)||(decide ((x44_0.length:Int) > (a0.Sights.length:Int))))) z (fun hb_5=>?_) (fun hb_5=>?_)
   ·have h:=cq hb_5 h
    refine Tp z (Te ?_)
    exact Rb h z
   have h:=cw hb_5 h
   refine Tk (Ts (Tr (Qe 1 z (Q1 z z z (Ax.ln (cl:=icl) z slc_26 z) (Qd z ?_)))))
   obtain⟨j,hj,h⟩:=jo h
   refine Tri.rngL h (fun p=>⟨[(1,.lst 1 (a1.map icl)),(2,Ai a2),(3,Ai a3),(4,.ipt (Scene.cl a0) 0),(9,.lst 1 (x44_0.map icl)),(11,.ptr 11 0),(76,.lst 1 (a1.map icl)),(77,Ai (a1.length:Int)),(78,Ai p.1)],[(11,some (.box (Scene.cl x63_0)))]⟩) (fun y=>j y=some r) (fun(y:Unit)=>⟨[(1,.lst 1 (a1.map icl)),(2,Ai a2),(4,.ipt (Scene.cl a0) 0),(9,.lst 1 (x44_0.map icl))],[]⟩) (Ee [11] z u0) ?_ ?_ ?_
   ·rintro⟨⟩ h
    subst hj
    refine Ts (Tr (Qe 1 z (Q1 z z z (Ax.ln (cl:=icl) z slc_26 z) (Qd z ?_))))
    obtain⟨j_1,hj_1,h⟩:=jo h
    refine Tri.rngN h (fun p=>⟨[(1,.lst 1 (a1.map icl)),(2,Ai a2),(4,.ipt (Scene.cl a0) 0),(9,.lst 1 (x44_0.map icl)),(133,Ai (x44_0.length:Int)),(134,Ai p.1)],[]⟩) (fun y=>j_1 y=some r) (fun(y:Unit)=>⟨[],[]⟩) (E0 z) ?_ ?_ ?_
    ·rintro⟨⟩ h
     subst hj_1
     refine Tp z (Te ?_)
     exact Rb h z
    ·rintro v134 ⟨⟩ hi_1 _ h
     refine Tp z (Ts (Tc (b:=(decide (v134 < (x44_0.length:Int)))) z (fun hb_6=>?_) (fun hb_6=>?_)))
     ·exact(lt_f hi_1 hb_6).elim
     exact Tri.exit (Xi () (An h (E0 z)))
    rintro nx_1 v134 ⟨⟩ _ hi_1 hw_1 h
    refine Tp z (Ts (Tc (b:=(decide (v134 < (x44_0.length:Int)))) z (fun hb_7=>?_) (fun hb_7=>?_)))
    ·refine Tk (Ts (Tri.block (Tp z (Ts (Td [[],[],[1],[],[],[4],[1,2,3,4,5],[0,1,2,3,4,5,6],[],[0,1,2,3,4,5,6,7,8]] hmix (by kernel_rfl) (Qe 2 z ?_))))))
     obtain⟨x139,hc_3,h⟩:=bs h
     refine Qo [] [(20260000,.arr 3 1 (x139.map icl))] [20260000] z z z (args:=[.lst 1 (x44_0.map icl)]) (r:=.hnd 20260000) (calv z z fnok_85 z) (f85_fr hc_3) u0 z z z z z (Qe 3 z ?_)
     obtain⟨x143,hc_4,h⟩:=bs h
     refine Qo [(20260000,.arr 3 1 (x139.map icl))] [] [] z z z (args:=[.hnd 20260000,Ai v134,Ai (W (v134+1))]) (r:=.lst 1 (x143.map icl)) (calv z z fnok_84 z) (f84_ok hc_4) ⟨z,u0⟩ z z z z z ?_
     obtain⟨x144,hc_5,h⟩:=bs h
     refine Qc z z z (args:=[.agg (Scene.cl a0),.lst 1 (x143.map icl)]) (r:=.agg (Scene.cl x144)) (calv z z fnok_82 z) (f82_ok hc_5) z (Qn z z z (v:=.ptr 22 0) (x:=some (.box (Scene.cl (⟨(⟨([]:List Cell),([]:List Arr2_3),0,0,0⟩:Basin),([]:List Int),([]:List Sight),([]:List Change)⟩:Scene)))) (Al_ z z zer_30 z ⟨Sub.nil _,Sub.nil _,Sub.refl _,Sub.refl _,Sub.refl _,Sub.nil _,Sub.nil _,Sub.nil _,u0⟩) z z z z z (Qs z z (x:=some (.box (Scene.cl x144))) (As z siz_30 z z z z z z z) (Rx ⟨by kernel_rfl,freshL_of [20260000,22] (by kernel_rfl) (by kernel_rfl),?_⟩)))
     refine Tp z (Ts (Tr (Qe 1 z (Q1 z z z (Ax.ln (cl:=icl) z slc_26 z) (Qd z ?_)))))
     obtain⟨j_2,hj_2,h⟩:=jo h
     refine Tri.rngL h (fun p=>⟨[(1,.lst 1 (a1.map icl)),(2,Ai a2),(4,.ipt (Scene.cl a0) 0),(9,.lst 1 (x44_0.map icl)),(22,.ptr 22 0),(23,Ab p.2),(133,Ai (x44_0.length:Int)),(134,Ai v134),(145,.lst 1 (a1.map icl)),(146,Ai (a1.length:Int)),(147,Ai p.1)],[(22,some (.box (Scene.cl x144)))]⟩) (fun y=>j_2 y=some r) (fun(y:Bool)=>⟨[(1,.lst 1 (a1.map icl)),(2,Ai a2),(4,.ipt (Scene.cl a0) 0),(9,.lst 1 (x44_0.map icl)),(23,Ab y),(133,Ai (x44_0.length:Int)),(134,Ai v134)],[]⟩) (Ee [22] z u0) ?_ ?_ ?_
     ·rintro v23_1 h
      subst hj_2
      refine Tp z (Tc (b:=(!v23_1)) z (fun hb_8=>?_) (fun hb_8=>?_))
      ·have h:=cq hb_8 h
       refine Tp z (Te ?_)
       exact Rb h z
      have h:=cw hb_8 h
      exact Tk (Tq z (Xi (v134+1,()) (An (An z h) (Es0 [134] z ⟨.imm (Sub.of_eq (show Ai (v134+1)=Ai (W (v134+1)) from congrArg Ai hw_1.symm)) z,u0⟩))))
     ·rintro v147 v23 hi_2 h
      refine Tp z (Ts (Tc (b:=(decide (v147 < (a1.length:Int)))) z (fun hb_9=>?_) (fun hb_9=>?_)))
      ·exact(lt_f hi_2 hb_9).elim
      exact Tri.exit (Xi v23 (An h (E0 z)))
     rintro nx_2 x_1 v147 v23 _ hi_2 hw_2 hx_1 h
     refine Tp z (Ts (Tc (b:=(decide (v147 < (a1.length:Int)))) z (fun hb_10=>?_) (fun hb_10=>?_)))
     ·refine Tk (Ts (Tri.block (Tr (Q1 z z z (Ax.ix (cl:=icl) z slc_26 z z hx_1) (Qd z (Tr (Qe 3 z ?_)))))))
      obtain⟨⟨x155_0,x155_1⟩,hc_6,h⟩:=bs h
      refine Qc z z z (args:=[.agg (Scene.cl a0),Ai x_1,Ai a2]) (r:=.tup [.agg (Span.cl x155_0),Ai x155_1]) (calv z z fnok_33 z) (f33_ok hc_6) z (Qe 3 z (Qn z z z (v:=.ptr 26 0) (x:=some (.box (Span.cl (⟨0,0⟩:Span)))) (Al_ z z zer_49 z ⟨Sub.refl _,Sub.refl _,u0⟩) z z z z z (Qs z z (x:=some (.box (Span.cl x155_0))) (As z siz_49 z z z z z z z) (Qd z (Tr (Qe 3 z ?_))))))
      obtain⟨⟨x162_0,x162_1⟩,hc_7,h⟩:=bs h
      refine Qc z z z (args:=[.agg (Scene.cl x144),Ai x_1,Ai a2]) (r:=.tup [.agg (Span.cl x162_0),Ai x162_1]) (calv z z fnok_33 z) (f33_ok hc_7) z (Qe 3 z (Qn z z z (v:=.ptr 28 0) (x:=some (.box (Span.cl (⟨0,0⟩:Span)))) (Al_ z z zer_49 z ⟨Sub.refl _,Sub.refl _,u0⟩) z z z z z (Qs z z (x:=some (.box (Span.cl x162_0))) (As z siz_49 z z z z z z z) (Qd z (Ts (Ts ?_))))))
      obtain⟨v176,hj_3,h⟩:=bs h
      refine Tri.joinv v176 (fun(y:Bool)=>⟨[(1,.lst 1 (a1.map icl)),(2,Ai a2),(4,.ipt (Scene.cl a0) 0),(9,.lst 1 (x44_0.map icl)),(22,.ptr 22 0),(23,Ab v23),(26,.ptr 26 0),(28,.ptr 28 0),(133,Ai (x44_0.length:Int)),(134,Ai v134),(145,.lst 1 (a1.map icl)),(146,Ai (a1.length:Int)),(147,Ai v147),(176,Ab y)],[(22,some (.box (Scene.cl x144))),(26,some (.box (Span.cl x155_0))),(28,some (.box (Span.cl x162_0)))]⟩) ?_ ?_
      ·refine Tc (b:=v176) z (fun hb_11=>?_) (fun hb_11=>?_)
       ·have h:=cq hb_11 h
        refine Tp z (Te ?_)
        exact Rb h z
       have h:=cw hb_11 h
       refine Tk (Tri.join1 ⟨[(1,.lst 1 (a1.map icl)),(2,Ai a2),(4,.ipt (Scene.cl a0) 0),(9,.lst 1 (x44_0.map icl)),(22,.ptr 22 0),(23,Ab (v23||(!(decide (x155_0=x162_0))))),(133,Ai (x44_0.length:Int)),(134,Ai v134),(145,.lst 1 (a1.map icl)),(146,Ai (a1.length:Int)),(147,Ai v147)],[(22,some (.box (Scene.cl x144)))]⟩ ?_ ?_)
       ·exact Tq z (Xi (v147+1,(v23||(!(decide (x155_0=x162_0))))) (An (An z h) (Es [22] [147] z u0 ⟨.imm (Sub.of_eq (show Ai (v147+1)=Ai (W (v147+1)) from congrArg Ai hw_2.symm)) z,u0⟩)))
       refine Tri.region (Qe 2 z ?_)
       rcases b2 v23 with hb_12 | hb_12
       ·exact Qk 178 hb_12 z (Qd z ((Es [22] [23] z u0 ⟨.imm (Sub.of_eq (show Ab (v23||(!(decide (x155_0=x162_0))))=Ab true by simp only [cond_true,cond_false,Bool.true_or,Bool.false_or,Bool.true_and,Bool.false_and,Bool.or_true,Bool.or_false,Bool.and_true,Bool.and_false,hb,hb_1,hb_2,hb_5,hb_7,hb_10,hb_11,hb_12])) z,u0⟩)))
       exact Qk 178 hb_12 z (Qe 2 z (Q1 z z z (v:=Ab (!(decide (x155_0=x162_0)))) (Ax.nes (xs:=[.int .i64 x155_0.Lo,.int .i64 x155_0.Hi]) (ys:=[.int .i64 x162_0.Lo,.int .i64 x162_0.Hi]) (fsp_49 x155_0 x162_0) z z z (eqs_49 x155_0 x162_0)) (Qd z ((Es [22] [23] z u0 ⟨.imm (Sub.of_eq (show Ab (v23||(!(decide (x155_0=x162_0))))=Ab (!(decide (x155_0=x162_0))) by simp only [cond_true,cond_false,Bool.true_or,Bool.false_or,Bool.true_and,Bool.false_and,Bool.or_true,Bool.or_false,Bool.and_true,Bool.and_false,hb,hb_1,hb_2,hb_5,hb_7,hb_10,hb_11,hb_12])) z,u0⟩)))))
      have h:=hj_3
      refine Tri.region (Qe 3 z ?_)
      rcases b2 (x155_1 != 0) with hb_13 | hb_13
      ·have h:=cq hb_13 h
       exact Qk 167 hb_13 z (Qd z (Xi true (An h (Ee [22,26,28] z u0))))
      have h:=cw hb_13 h
      refine Qk 167 hb_13 z (Qe 4 z ?_)
      rcases b2 (x162_1 != 0) with hb_14 | hb_14
      ·have h:=cq hb_14 h
       exact Qk 171 hb_14 z (Qd z (Xi true (An h (Ee [22,26,28] z u0))))
      have h:=cw hb_14 h
      refine Qk 171 hb_14 z (Qe 2 z ?_)
      obtain⟨x174,hc_8,h⟩:=bs h
      exact Qc z z z (args:=[.agg (Span.cl x155_0),.agg (Span.cl x162_0)]) (r:=Ab x174) (calv z z fnok_68 z) (f68_ok hc_8) z (Qd z (Xi (!x174) (An h (Ee [22,26,28] z u0))))
     exact(lt_t hi_2 hb_10).elim
    exact(lt_t hi_1 hb_7).elim
   ·rintro v78 ⟨⟩ hi h
    refine Tp z (Ts (Tc (b:=(decide (v78 < (a1.length:Int)))) z (fun hb_15=>?_) (fun hb_15=>?_)))
    ·exact(lt_f hi hb_15).elim
    exact Tri.exit (Xi () (An h (E0 z)))
   rintro nx x v78 ⟨⟩ _ hi hw hx h
   refine Tp z (Ts (Tc (b:=(decide (v78 < (a1.length:Int)))) z (fun hb_16=>?_) (fun hb_16=>?_)))
   ·refine Tk (Ts (Tri.block (Tr (Q1 z z z (Ax.ix (cl:=icl) z slc_26 z z hx) (Qd z (Tr (Qe 3 z ?_)))))))
    obtain⟨⟨x86_0,x86_1⟩,hc_9,h⟩:=bs h
    refine Qc z z z (args:=[.agg (Scene.cl a0),Ai x,Ai a2]) (r:=.tup [.agg (Span.cl x86_0),Ai x86_1]) (calv z z fnok_33 z) (f33_ok hc_9) z (Qe 3 z (Qn z z z (v:=.ptr 15 0) (x:=some (.box (Span.cl (⟨0,0⟩:Span)))) (Al_ z z zer_49 z ⟨Sub.refl _,Sub.refl _,u0⟩) z z z z z (Qs z z (x:=some (.box (Span.cl x86_0))) (As z siz_49 z z z z z z z) (Qd z (Tr (Qe 2 z ?_))))))
    obtain⟨x92,hc_10,h⟩:=bs h
    refine Qc z z z (args:=[.agg (Scene.cl a0),.lst 1 (x44_0.map icl)]) (r:=.agg (Scene.cl x92)) (calv z z fnok_82 z) (f82_ok hc_10) z (Qe 2 z ?_)
    obtain⟨⟨x95_0,x95_1⟩,hc_11,h⟩:=bs h
    refine Qc z z z (args:=[.agg (Scene.cl x92),Ai x,Ai a2]) (r:=.tup [.agg (Span.cl x95_0),Ai x95_1]) (calv z z fnok_33 z) (f33_ok hc_11) z (Qe 3 z (Qn z z z (v:=.ptr 17 0) (x:=some (.box (Span.cl (⟨0,0⟩:Span)))) (Al_ z z zer_49 z ⟨Sub.refl _,Sub.refl _,u0⟩) z z z z z (Qs z z (x:=some (.box (Span.cl x95_0))) (As z siz_49 z z z z z z z) (Qd z (Tr (Qe 3 z ?_))))))
    obtain⟨⟨x102_0,x102_1⟩,hc_12,h⟩:=bs h
    refine Qc z z z (args:=[.agg (Scene.cl x63_0),Ai x,Ai a2]) (r:=.tup [.agg (Span.cl x102_0),Ai x102_1]) (calv z z fnok_33 z) (f33_ok hc_12) z (Qe 3 z (Qn z z z (v:=.ptr 19 0) (x:=some (.box (Span.cl (⟨0,0⟩:Span)))) (Al_ z z zer_49 z ⟨Sub.refl _,Sub.refl _,u0⟩) z z z z z (Qs z z (x:=some (.box (Span.cl x102_0))) (As z siz_49 z z z z z z z) (Qd z (Ts ?_)))))
    obtain⟨v130,hj_4,h⟩:=bs h
    refine Tri.joinv v130 (fun(y:Bool)=>⟨[(1,.lst 1 (a1.map icl)),(2,Ai a2),(3,Ai a3),(4,.ipt (Scene.cl a0) 0),(9,.lst 1 (x44_0.map icl)),(11,.ptr 11 0),(76,.lst 1 (a1.map icl)),(77,Ai (a1.length:Int)),(78,Ai v78),(130,Ab y)],[(11,some (.box (Scene.cl x63_0)))]⟩) ?_ ?_
    ·refine Tc (b:=v130) z (fun hb_17=>?_) (fun hb_17=>?_)
     ·have h:=cq hb_17 h
      refine Tp z (Te ?_)
      exact Rb h z
     have h:=cw hb_17 h
     exact Tk (Tq z (Xi (v78+1,()) (An (An z h) (Es [11] [78] z u0 ⟨.imm (Sub.of_eq (show Ai (v78+1)=Ai (W (v78+1)) from congrArg Ai hw.symm)) z,u0⟩))))
    have h:=hj_4
    refine Tri.region (Qe 3 z ?_)
    rcases b2 (x86_1 != 0) with hb_18 | hb_18
    ·have h:=cq hb_18 h
     exact Qk 107 hb_18 z (Qd z (Xi true (An h (Ee [11] z u0))))
    have h:=cw hb_18 h
    refine Qk 107 hb_18 z (Qe 4 z ?_)
    rcases b2 (x95_1 != 0) with hb_19 | hb_19
    ·have h:=cq hb_19 h
     exact Qk 111 hb_19 z (Qd z (Xi true (An h (Ee [11] z u0))))
    have h:=cw hb_19 h
    refine Qk 111 hb_19 z (Qe 4 z ?_)
    rcases b2 (x102_1 != 0) with hb_20 | hb_20
    ·have h:=cq hb_20 h
     exact Qk 115 hb_20 z (Qd z (Xi true (An h (Ee [11] z u0))))
    have h:=cw hb_20 h
    refine Qk 115 hb_20 z (Qe 2 z (Q1 z z z (v:=Ab (!(decide (x86_0=x95_0)))) (Ax.nes (xs:=[.int .i64 x86_0.Lo,.int .i64 x86_0.Hi]) (ys:=[.int .i64 x95_0.Lo,.int .i64 x95_0.Hi]) (fsp_49 x86_0 x95_0) z z z (eqs_49 x86_0 x95_0)) (Qe 2 z ?_)))
    rcases b2 (!(decide (x86_0=x95_0))) with hb_21 | hb_21
    ·have h:=cq hb_21 h
     exact Qk 120 hb_21 z (Qd z (Xi true (An h (Ee [11] z u0))))
    have h:=cw hb_21 h
    refine Qk 120 hb_21 z (Qe 2 z ?_)
    obtain⟨x123,hc_13,h⟩:=bs h
    refine Qc z z z (args:=[.lst 1 (x44_0.map icl),Ai a3]) (r:=Ab x123) (calv z z fnok_83 z) (f83_ok hc_13) z (Qe 2 z ?_)
    rcases b2 (!x123) with hb_22 | hb_22
    ·have h:=cq hb_22 h
     exact Qk 125 hb_22 z (Qe 2 z (Q1 z z z (v:=Ab (!(decide (x86_0=x102_0)))) (Ax.nes (xs:=[.int .i64 x86_0.Lo,.int .i64 x86_0.Hi]) (ys:=[.int .i64 x102_0.Lo,.int .i64 x102_0.Hi]) (fsp_49 x86_0 x102_0) z z z (eqs_49 x86_0 x102_0)) (Qd z (Xi (!(decide (x86_0=x102_0))) (An h (Ee [11] z u0))))))
    have h:=cw hb_22 h
    exact Qk 125 hb_22 z (Qd z (Xi false (An h (Ee [11] z u0))))
   exact(lt_t hi hb_16).elim
  refine Tri.region (Qe 3 z ?_)
  rcases b2 (x63_1 != 0) with hb_23 | hb_23
  ·exact Qk 68 hb_23 z (Qd z ((Es [11] [75] z u0 ⟨.imm (Sub.of_eq (show Ab ((x63_1 != 0)||(decide ((x44_0.length:Int) > (a0.Sights.length:Int))))=Ab true by simp only [cond_true,cond_false,Bool.true_or,Bool.false_or,Bool.true_and,Bool.false_and,Bool.or_true,Bool.or_false,Bool.and_true,Bool.and_false,hb,hb_1,hb_2,hb_23])) z,u0⟩)))
  exact Qk 68 hb_23 z (Qe 1 z (Q1 z z z (Ax.ln (cl:=icl) z slc_26 z) (Qe 2 z (Q1 z z z (Ax.ln (cl:=Sight.cl) z slc_27 z) (Qd z ((Es [11] [75] z u0 ⟨.imm (Sub.of_eq (show Ab ((x63_1 != 0)||(decide ((x44_0.length:Int) > (a0.Sights.length:Int))))=Ab (decide ((x44_0.length:Int) > (a0.Sights.length:Int))) by simp only [cond_true,cond_false,Bool.true_or,Bool.false_or,Bool.true_and,Bool.false_and,Bool.or_true,Bool.or_false,Bool.and_true,Bool.and_false,hb,hb_1,hb_2,hb_23])) z,u0⟩)))))))
 have h:=hj_5
 refine Tri.region (Qe 1 z ?_)
 obtain⟨x33,hc_14,h⟩:=bs h
 refine Qc z z z (args:=[.agg (Scene.cl a0)]) (r:=Ab x33) (calv z z fnok_36 z) (f36_ok hc_14) z (Qe 2 z ?_)
 rcases b2 (!x33) with hb_24 | hb_24
 ·have h:=cq hb_24 h
  exact Qk 35 hb_24 z (Qd z (Xi true (An h (E0 z))))
 have h:=cw hb_24 h
 exact Qk 35 hb_24 z (Qe 1 z (Q1 z z z (Ax.ln (cl:=icl) z slc_26 z) (Qd z (Xi ((a1.length:Int)==0) (An h (E0 z))))))
end Go.Proofs.YthlchdnbokhclaaGreat.Ql

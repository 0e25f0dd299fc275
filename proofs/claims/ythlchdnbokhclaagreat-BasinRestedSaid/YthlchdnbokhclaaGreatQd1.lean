import Derived.Test.YthlchdnbokhclaaGreatQc1
set_option linter.all false
namespace Go.Proofs.YthlchdnbokhclaaGreat.Ql
open Go Go.Proofs.YthlchdnbokhclaaGreat.Bm
def usedN (m:Nat) (fl:List Int):List Nat:=(List.range m).filter fun i=>decide (0 < fl.getD i 0)
def backD (n:Net) (i:Nat):Diff:=⟨(n.Diffs.getD i ⟨0,0,0⟩).To,(n.Diffs.getD i ⟨0,0,0⟩).From,-(n.Diffs.getD i ⟨0,0,0⟩).Most⟩
def linesN (n:Net) (fl:List Int):List Diff:=n.Diffs++(usedN n.Diffs.length fl).map (backD n)
end Go.Proofs.YthlchdnbokhclaaGreat.Ql
namespace Go.Proofs.YthlchdnbokhclaaGreat.Ql
open Go Go.Proofs.YthlchdnbokhclaaGreat.Bm
def natI (ks:List Nat):List Int:=ks.map fun(k:Nat)=>(k:Int)
def wsum (n:Nat) (wt:List Int):Int:=sumN n fun v=>(wt.getD v 0).natAbs
structure StepR (s:Scene) (w:Nat→Int) (B:Int) (fl wt:List Int) (to:Int) (gv:List Int) (r:Bool × Use_diffs × List Int):Prop where
 ok:r.1=true
 net:r.2.1.Net=theNet s
 fl:r.2.1.flow.length=(theNet s).Diffs.length
 wl:r.2.1.want.length=NN s
 fi:∃ π,FI (EE s) (NN s) w B (fun i=>r.2.1.flow.getD i 0) (fun v=>r.2.1.want.getD v 0) π
 lt:wsum (NN s) r.2.1.want < wsum (NN s) wt
 wt:∃ a,a∈gv∧∃ c,0 < c∧(to≠0→c≤wt.getD to.toNat 0)∧(a≠0→c≤- wt.getD a.toNat 0)∧∀ v:Nat,r.2.1.want.getD v 0=wt.getD v 0 - (if to≠0∧v=to.toNat then c else 0)+(if a≠0∧v=a.toNat then c else 0)
end Go.Proofs.YthlchdnbokhclaaGreat.Ql
namespace Go.Proofs.YthlchdnbokhclaaGreat.Ql
open Go Go.Proofs.YthlchdnbokhclaaGreat.Bm
structure FS (s:Scene) (w:Nat→Int) (B:Int) (fl wt:List Int):Prop where
 l1:fl.length=(theNet s).Diffs.length
 l2:wt.length=NN s
 fi:∃ π,FI (EE s) (NN s) w B (fun i=>fl.getD i 0) (fun v=>wt.getD v 0) π
abbrev U4:=Int × List Diff × List Int × List Int
def U4ok (s:Scene) (w:Nat→Int) (B:Int) (v:U4):Prop:=v.1=NN s∧v.2.1=(theNet s).Diffs∧FS s w B v.2.2.1 v.2.2.2
def fillQ (s:Scene) (w:Nat→Int) (B:Int) (r:Bool × Use_diffs):Prop:=r.1=true∧r.2.Net=theNet s∧FS s w B r.2.flow r.2.want∧∀ v:Nat,0 < v→v < NN s→r.2.want.getD v 0=0
end Go.Proofs.YthlchdnbokhclaaGreat.Ql
namespace Go.Proofs.YthlchdnbokhclaaGreat.Ql
open Go Go.Proofs.YthlchdnbokhclaaGreat.Bm
structure WOk (s:Scene) (w:List Int):Prop where
 len:w.length=NN s
 bd:∀ x∈w,-4096≤x∧x≤4096
 z:w.getD 0 0=0
def bestQ (s:Scene) (w:List Int) (r:Option Use_diffs × Bool × Int):Prop:=
 (¬ Fea (theNet s).Diffs∧r=(none,false,41))∨(Fea (theNet s).Diffs∧∃ u,r=(some u,true,0)∧u.Net=theNet s∧FS s (fun v=>w.getD v 0) (wsum (NN s) w) u.flow u.want∧∀ v:Nat,0 < v→v < NN s→u.want.getD v 0=0)
def IsMax (s:Scene) (w:Nat→Int) (m:Int):Prop:=(∀ y,Pot (EE s) y→y 0=0→dot (NN s) w y≤m)∧∃ y,Pot (EE s) y∧y 0=0∧dot (NN s) w y=m
def mostQ (s:Scene) (w:List Int) (r:Int × Bool × Int):Prop:=
 (¬ Fea (theNet s).Diffs∧r=(0,false,41))∨(Fea (theNet s).Diffs∧r.2=(true,0)∧IsMax s (fun v=>w.getD v 0) r.1∧-4611686018427387904≤r.1∧r.1≤4611686018427387904)
end Go.Proofs.YthlchdnbokhclaaGreat.Ql
namespace Go.Proofs.YthlchdnbokhclaaGreat.Ql
open Go Go.Proofs.YthlchdnbokhclaaGreat.Bm
structure PerOk (s:Scene) (l:List Int) (a b:Int):Prop where
 cls:ClsOk s l
 d1:0≤dayAt s.Days a
 d2:0≤dayAt s.Days b
 lt:a < b
def areaOf (s:Scene) (no:Int):Int:=(cellOf s.Basin (cellAt s.Basin no)).Area
def sgn (most:Bool) (a:Int):Int:=if most then a else -a
def setW (s:Scene) (a b:Int) (most:Bool) (w:List Int) (no:Int):List Int:=(w.set (sightNode s no a).toNat (sgn most (areaOf s no))).set (sightNode s no b).toNat (-(sgn most (areaOf s no)))
def lostW (s:Scene) (l:List Int) (a b:Int) (most:Bool):List Int:=l.foldl (setW s a b most) (List.replicate (NN s) 0)
def lossL (s:Scene) (l:List Int) (a b:Int) (y:Nat→Int):Int:=(l.map fun no=>areaOf s no*(y (sightNode s no a).toNat - y (sightNode s no b).toNat)).sum
structure LW (s:Scene) (l:List Int) (a b:Int) (most:Bool) (w:List Int):Prop where
 len:w.length=NN s
 bd:∀ v,-4096≤w.getD v 0∧w.getD v 0≤4096
 z:w.getD 0 0=0
 at_:∀ v,w.getD v 0≠0→∃ no∈l,v=(sightNode s no a).toNat∨v=(sightNode s no b).toNat
 dot:∀ y,dot (NN s) (fun v=>w.getD v 0) y=sgn most (lossL s l a b y)
def lostQ (s:Scene) (l:List Int) (a b:Int) (most:Bool) (r:Option Laid_basin × List Int × Int):Prop:=
 (¬ SOk s∧r=(none,[],chk s))∨(SOk s∧¬ PerOk s l a b∧r=(none,[],1))∨(SOk s∧PerOk s l a b∧r=(some (LB s (theNet s).Nodes (lay s)),lostW s l a b most,0))
structure IsLoss (s:Scene) (l:List Int) (a b:Int) (lo hi:Int):Prop where
 all:∀ y,Pot (EE s) y→y 0=0→lo≤lossL s l a b y∧lossL s l a b y≤hi
 lo:∃ y,Pot (EE s) y∧y 0=0∧lossL s l a b y=lo
 hi:∃ y,Pot (EE s) y∧y 0=0∧lossL s l a b y=hi
def losQ (s:Scene) (l:List Int) (a b:Int) (r:Span × Int):Prop:=
 (¬ SOk s∧r=(⟨0,0⟩,chk s))∨(SOk s∧¬ PerOk s l a b∧r=(⟨0,0⟩,1))∨(SOk s∧PerOk s l a b∧¬ Fea (theNet s).Diffs∧r=(⟨0,0⟩,41))∨(SOk s∧PerOk s l a b∧Fea (theNet s).Diffs∧r.2=0∧IsLoss s l a b r.1.Lo r.1.Hi)
end Go.Proofs.YthlchdnbokhclaaGreat.Ql
namespace Go.Proofs.YthlchdnbokhclaaGreat.Ql
open Go Go.Proofs.YthlchdnbokhclaaGreat.Bm
def volL (s:Scene) (l:List Int) (d:Int) (y:Nat→Int):Int:=(l.map fun no=>areaOf s no*y (sightNode s no d).toNat).sum
def valQ (s:Scene) (l:List Int) (d:Int) (r:Span × Int):Prop:=
 (¬ SOk s∧r=(⟨0,0⟩,chk s))∨(SOk s∧¬ (ClsOk s l∧0≤dayAt s.Days d)∧r=(⟨0,0⟩,1))∨(SOk s∧(ClsOk s l∧0≤dayAt s.Days d)∧¬ Fea (theNet s).Diffs∧r=(⟨0,0⟩,41)) ∨
 (SOk s∧(ClsOk s l∧0≤dayAt s.Days d)∧Fea (theNet s).Diffs∧∃ x y,IsBot (NN s) (EE s) x∧IsTop (NN s) (EE s) y∧r=(⟨volL s l d (fun v=>x.getD v 0),volL s l d (fun v=>y.getD v 0)⟩,0))
end Go.Proofs.YthlchdnbokhclaaGreat.Ql

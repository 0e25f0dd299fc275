import Derived.Test.YthlchdnbokhclaaGreatQd1
import Derived.Test.YthlchdnbokhclaaGreatQb1
import Derived.Test.YthlchdnbokhclaaGreatQs
import Derived.Test.YthlchdnbokhclaaGreatQr
set_option linter.all false
namespace Go.Proofs.YthlchdnbokhclaaGreat.Ql
open Go Go.Proofs.YthlchdnbokhclaaGreat.Bm
def FlowIn (s:Scene) (fl:List Int):Prop:=fl.length=(theNet s).Diffs.length∧∀ f∈fl,0≤f∧f≤1048576
def FlowPf (s:Scene) (w:List Int) (most:Int) (fl:List Int):Prop:=(∀ v:Nat,0 < v→v < NN s→inn (EE s) (fun i=>fl.getD i 0) v=w.getD v 0)∧costE (EE s) (fun i=>fl.getD i 0)≤most
def cfwQ (s:Scene) (w:List Int) (most:Int) (fl:List Int) (r:Int):Prop:=(¬ FlowIn s fl→r=1)∧(FlowIn s fl→(FlowPf s w most fl→r=0)∧(¬ FlowPf s w most fl→r=43))
theorem FlowIn.at {s:Scene} {fl:List Int} (h:FlowIn s fl) (i:Nat):0≤fl.getD i 0∧fl.getD i 0≤1048576:=by
 by_cases hv:i < fl.length
 ·exact h.2 _ (getD_mem hv)
 ·rw [List.getD_eq_getElem?_getD,List.getElem?_eq_none (by omega)]; simp
theorem inn_snoc {E:List Ed} {e:Ed} {f:Nat→Int} {x:Nat}:inn (E++[e]) f x=inn E f x+((if e.v=x then f E.length else 0) - (if e.u=x then f E.length else 0)):=by
 unfold inn
 rw [sumE_append]
 simp only [sumE,Nat.zero_add]
 omega
theorem edg_take {l:List Diff} {j:Nat} {x:Diff} (h:l[j]?=some x):edg (l.take (j+1))=edg (l.take j)++[E1 x]∧(edg (l.take j)).length=j:=by
 have hj:=(List.getElem?_eq_some_iff.1 h).1
 rw [List.take_succ,h]
 simp [edg]
 omega
theorem f223_2 {K:Nat} {n:Net} (h:Mild n) (a b:Bool):f223 K n [a,b]=some (if a&&b then 0 else 1):=by
 unfold f223 f297
 rw [f227_yes h,Option.bind_some,f339_eq _ _ (by simp)]
 cases a <;> cases b <;> rfl
theorem flowIn_eq {K:Nat} {s:Scene} {fl:List Int} (hl:fl.length≤9223372036854775807):Gets (bif ((fl.length:Int)==((theNet s).Diffs.length:Int)) then (f292 K fl (fun y0=>f293 K y0)).bind fun x22=>some (!x22) else some false) fun r=>(r=true↔FlowIn s fl):=by
 refine Gets.cond (fun h=>?_) fun h=>Gets.some ?_
 ·have h:(fl.length:Int)=(theNet s).Diffs.length:=by simpa using h
  unfold f292 f337
  refine Gets.bind (cont_gets (fun a=>!(decide (a≥0)&&decide (a≤1048576))) hl (fun a _=>by simp only [f293,f282,Option.bind_some])) fun r hr=>Gets.some ?_
  rw [Bool.not_eq_true',← Bool.not_eq_true,hr]
  constructor
  ·intro h1
   refine⟨by omega,fun f hf=>?_⟩
   refine Classical.byContradiction fun h2=>h1 ⟨f,hf,?_⟩
   simp; omega
  ·rintro h1 ⟨f,hf,h2⟩
   have:=h1.2 f hf
   simp at h2; omega
 ·have h:¬ (fl.length:Int)=(theNet s).Diffs.length:=by simpa using h
  exact⟨fun h'=>(by cases h'),fun h'=>absurd (by rw [h'.1]) h⟩
theorem f214_eq {s:Scene} (hS:SOk s) {w:List Int} (hw:WOk s w) {most:Int} {fl:List Int} (hl:fl.length≤9223372036854775807):Gets (f214 4611686018427387904 (theNet s) w most fl) (cfwQ s w most fl):=by
 have hn:=net_mild hS
 have hN:=NN_le hS
 have hm:=lay_len hS
 have hml:(theNet s).Diffs.length=(lay s).length:=by simp [theNet]
 unfold f214
 refine Gets.bind (flowIn_eq hl) fun b hb=>?_
 rw [f294_eq hS hw,Option.bind_some,f223_2 hn,Option.bind_some]
 cases b
 ·refine Gets.some ⟨fun _=>rfl,fun h=>?_⟩
  have:=hb.2 h; cases this
 ·have hin:=hb.1 rfl
  have hfl:=hin.1
  simp only [Bool.and_self,if_true,bne_self_eq_false,cond_false]
  have e1:f85 4611686018427387904 w=some w:=by unfold f85; rw [app_eq (by simp [hw.len]; omega)]; rfl
  rw [e1,Option.bind_some]
  refine Gets.bind (P:=fun v=>v.length=NN s∧∀ u:Nat,v.getD u 0=w.getD u 0 - inn (EE s) (fun i=>fl.getD i 0) u) ?_ fun v hv=>?_
  ·refine rngL_gets (fun(j:Nat) (v:List Int)=>v.length=NN s∧(∀ u:Nat,v.getD u 0=w.getD u 0 - inn (edg ((theNet s).Diffs.take j)) (fun i=>fl.getD i 0) u)∧∀ u:Nat,-(((j:Int)+1)*2097152)≤v.getD u 0∧v.getD u 0≤((j:Int)+1)*2097152) (by omega) ⟨hw.len,fun u=>by simp [inn,edg,sumE],fun u=>by have:=hw.at u; omega⟩ (fun j d v nx hd ⟨h1,h2,h3⟩ hnx=>?_) fun v hv=>Gets.some ⟨hv.1,fun u=>by rw [hv.2.1,List.take_length]⟩
   have hj:=(List.getElem?_eq_some_iff.1 hd).1
   obtain⟨a,b,c,e,_,_⟩:=hn.d d (List.mem_of_getElem? hd)
   have b':d.From.toNat < NN s:=by unfold NN; omega
   have e':d.To.toNat < NN s:=by unfold NN; omega
   have hf:=hin.at j
   have hT:=h3 d.To.toNat
   have hFr:=h3 d.From.toNat
   rw [ix_getD 0 c (by omega),Option.bind_some,ix_getD 0 (by omega) (by omega),Option.bind_some]
   simp only [Int.toNat_natCast]
   rw [W_eq (by omega) (by omega),ix_getD 0 a (by simp; omega),Option.bind_some]
   have hmid:(v.set d.To.toNat (v.getD d.To.toNat 0 - fl.getD j 0)).getD d.From.toNat 0=v.getD d.From.toNat 0 - (if d.From.toNat=d.To.toNat then fl.getD j 0 else 0):=by
    rw [getD_set (by omega)]
    split
    ·rename_i h; rw [h]
    ·omega
   have hb2:v.getD d.From.toNat 0 - 1048576≤v.getD d.From.toNat 0 - (if d.From.toNat=d.To.toNat then fl.getD j 0 else 0)∧v.getD d.From.toNat 0 - (if d.From.toNat=d.To.toNat then fl.getD j 0 else 0)≤v.getD d.From.toNat 0:=by split <;> omega
   rw [hmid,W_eq (by omega) (by omega)]
   have key:∀ u:Nat,((v.set d.To.toNat (v.getD d.To.toNat 0 - fl.getD j 0)).set d.From.toNat (v.getD d.From.toNat 0 - (if d.From.toNat=d.To.toNat then fl.getD j 0 else 0)+fl.getD j 0)).getD u 0=v.getD u 0 - ((if d.To.toNat=u then fl.getD j 0 else 0) - (if d.From.toNat=u then fl.getD j 0 else 0)):=by
    intro u
    rw [getD_set (by simp; omega),getD_set (by omega)]
    by_cases h4:u=d.From.toNat
    ·rw [if_pos h4,if_pos h4.symm,h4]
     by_cases h5:d.From.toNat=d.To.toNat
     ·rw [if_pos h5,if_pos h5.symm]; omega
     ·rw [if_neg h5,if_neg (Ne.symm h5)]; omega
    ·rw [if_neg h4,if_neg (Ne.symm h4)]
     by_cases h5:u=d.To.toNat
     ·rw [if_pos h5,if_pos h5.symm,h5]; omega
     ·rw [if_neg h5,if_neg (Ne.symm h5)]; omega
   refine hnx _ ⟨by simp [h1],fun u=>?_,fun u=>?_⟩
   ·obtain⟨q1,q2⟩:=edg_take hd
    rw [key,h2,q1,inn_snoc,q2]
    simp only [E1]
    omega
   ·rw [key]
    have:=h3 u
    have h6:-1048576≤((if d.To.toNat=u then fl.getD j 0 else 0) - (if d.From.toNat=u then fl.getD j 0 else 0))∧((if d.To.toNat=u then fl.getD j 0 else 0) - (if d.From.toNat=u then fl.getD j 0 else 0))≤1048576:=by split <;> split <;> omega
    rw [Int.natCast_add,Int.add_mul]
    omega
  ·have hv1:v.length=NN s:=hv.1
   have hN1:=NN_nat (s:=s)
   rw [ix_getD (xs:=v) (i:=0) 0 (by omega) (by omega),Option.bind_some]
   refine Gets.bind (P:=fun r=>(r=true↔¬ FlowPf s w most fl)) ?_ fun r hr=>Gets.cond (fun h=>Gets.some ⟨fun h'=>absurd hin h',fun _=>⟨fun h'=>absurd h' (hr.1 h),fun _=>rfl⟩⟩) fun h=>Gets.some ⟨fun h'=>absurd hin h',fun _=>⟨fun _=>rfl,fun h'=>by rw [hr.2 h'] at h; cases h⟩⟩
   have hsl:(v.set (Int.toNat 0) 0).length=NN s:=by simp [hv.1]
   unfold f292 f337
   refine Gets.bind (cont_gets (fun a:Int=>(a != 0)) (by omega) (fun a _=>rfl)) fun x hx=>Gets.cond (fun h=>Gets.some ?_) fun h=>?_
   ·simp only [true_iff]
    obtain⟨a,ha,hne⟩:=hx.1 h
    obtain⟨u,hu⟩:=List.mem_iff_getElem?.1 ha
    have hul:=(List.getElem?_eq_some_iff.1 hu).1
    intro h1
    have hu2:(v.set (Int.toNat 0) 0).getD u 0=a:=by rw [List.getD_eq_getElem?_getD,hu]; rfl
    rw [getD_set (by rw [hv.1]; simp; omega)] at hu2
    rw [bne_iff_ne] at hne
    by_cases h0:u=Int.toNat 0
    ·rw [if_pos h0] at hu2; omega
    ·rw [if_neg h0,hv.2] at hu2
     have h0:0 < u:=by simp at h0; omega
     have:=h1.1 u h0 (by omega)
     omega
   ·have hz:∀ u:Nat,0 < u→u < NN s→inn (EE s) (fun i=>fl.getD i 0) u=w.getD u 0:=fun u h0 hu=>by
     refine Classical.byContradiction fun hne=>?_
     have:x=true:=hx.2 ⟨(v.set (Int.toNat 0) 0).getD u 0,getD_mem (by omega),?_⟩
     ·rw [this] at h; cases h
     ·rw [bne_iff_ne,getD_set (by rw [hv.1]; simp; omega),if_neg (by simp; omega),hv.2]
      omega
    refine Gets.bind (f236_eq hn hfl hin.at) fun y hy=>Gets.some ?_
    rw [decide_eq_true_eq,hy.1]
    constructor
    ·rintro h1 ⟨_,h2⟩
     have h2:costE (edg (theNet s).Diffs) (fun i=>fl.getD i 0)≤most:=h2
     omega
    ·intro h1
     refine Classical.byContradiction fun h2=>h1 ⟨hz,?_⟩
     show costE (edg (theNet s).Diffs) (fun i=>fl.getD i 0)≤most
     omega
def oppV (v:Int):Int:=-(if -1152921504606846976 > v then -1152921504606846976 else v)
def clQ (s:Scene) (l:List Int) (a b v:Int) (m:Bool) (fl:List Int) (r:Int):Prop:=
 (¬ SOk s∧r=chk s)∨(SOk s∧¬ PerOk s l a b∧r=1)∨(SOk s∧PerOk s l a b∧cfwQ s (lostW s l a b m) (if m then v else oppV v) fl r)
theorem cost_low {s:Scene} (hS:SOk s) {fl:List Int} (h:FlowIn s fl):-1152921504606846976 < costE (EE s) (fun i=>fl.getD i 0):=by
 have hm:=lay_len hS
 have h1:sumE (fun _ _=>-68719476736) 0 (EE s)≤costE (EE s) (fun i=>fl.getD i 0):=sumE_le fun i e he=>by
  obtain⟨x,hx,rfl⟩:=edg_of he
  obtain⟨y,hy,rfl⟩:=List.mem_map.1 (List.mem_of_getElem? hx)
  have:=(lay_ok hS hy).2
  have hf:=h.at (0+i)
  have h1:=mul_bd hf.1 hf.2 (show -6000000≤y.1.Most by omega) this.2 (by omega) (by omega)
  have h2:(fl.getD (0+i) 0)*(-65536)≤(fl.getD (0+i) 0)*y.1.Most:=Int.mul_le_mul_of_nonneg_left this.1 hf.1
  show _≤fl.getD (0+i) 0*(E1 y.1).w
  simp only [E1]
  omega
 have h2:∀ {k:Nat} {E:List Ed},sumE (fun _ _=>-68719476736) k E=-(68719476736*E.length):=by
  intro k E
  induction E generalizing k with
  | nil=>simp [sumE]
  | cons e E ih=>simp only [sumE,ih,List.length_cons]; omega
 rw [h2,edg_len] at h1
 have hml:(theNet s).Diffs.length=(lay s).length:=by simp [theNet]
 omega
theorem f96_eq {s:Scene} (hL:Lens s) {l:List Int} {a b v:Int} {m:Bool} {fl:List Int} (hl:l.length≤9223372036854775807) (hfl:fl.length≤9223372036854775807) (hv:-9223372036854775808≤v∧v≤9223372036854775807):Gets (f96 4611686018427387904 s l a b v m fl) (clQ s l a b v m fl):=by
 unfold f96
 refine Gets.bind (f120_eq hL hl) fun r hr=>?_
 rcases hr with ⟨h1,h2⟩ | ⟨h1,h2,h3⟩ | ⟨h1,hP,h3⟩
 ·subst h2
  dsimp only
  rw [show (chk s != 0)=true by simpa using chk_ne.2 h1]
  exact Gets.some (.inl ⟨h1,rfl⟩)
 ·subst h3
  exact Gets.some (.inr (.inl ⟨h1,h2,rfl⟩))
 ·subst h3
  simp only [bne_self_eq_false,cond_false]
  have hw:=(lw_all h1 hP (most:=m)).wok
  cases m
  ·simp only [Bool.not_false,cond_true,f203,Option.bind_some]
   have e2:W (-(if 1152921504606846976 < (if (-1152921504606846976) > v then (-1152921504606846976) else v) then 1152921504606846976 else (if (-1152921504606846976) > v then (-1152921504606846976) else v)))=-(if 1152921504606846976 < (if (-1152921504606846976) > v then (-1152921504606846976) else v) then 1152921504606846976 else (if (-1152921504606846976) > v then (-1152921504606846976) else v)):=by
    rw [W_eq] <;> (split <;> (try split) <;> omega)
   rw [e2]
   refine Gets.bind (f214_eq h1 hw hfl) fun r hr=>Gets.some (.inr (.inr ⟨h1,hP,?_⟩))
   simp only [Bool.false_eq_true,if_false]
   refine⟨hr.1,fun hin=>?_⟩
   have hc:=cost_low h1 hin
   have hiff:FlowPf s (lostW s l a b false) (oppV v) fl↔FlowPf s (lostW s l a b false) (-(if 1152921504606846976 < (if (-1152921504606846976) > v then (-1152921504606846976) else v) then 1152921504606846976 else (if (-1152921504606846976) > v then (-1152921504606846976) else v))) fl:=by
    unfold FlowPf oppV
    refine and_congr_right fun _=>?_
    by_cases h8:-1152921504606846976 > v
    ·simp [h8]
    ·by_cases h9:1152921504606846976 < v
     ·simp only [h8,h9,if_true,if_false]; omega
     ·simp [h8,h9]
   rw [hiff]
   exact hr.2 hin
  ·simp only [Bool.not_true,cond_false,Option.bind_some]
   exact Gets.bind (f214_eq h1 hw hfl) fun r hr=>Gets.some (.inr (.inr ⟨h1,hP,hr⟩))
end Go.Proofs.YthlchdnbokhclaaGreat.Ql
namespace Go.Proofs.YthlchdnbokhclaaGreat.Ql
open Go Go.Proofs.YthlchdnbokhclaaGreat.Bm
abbrev scn (s:Scene) (g:List Sight) (c:List Change):Scene:=⟨s.Basin,s.Days,g,c⟩
end Go.Proofs.YthlchdnbokhclaaGreat.Ql
namespace Go.Proofs.YthlchdnbokhclaaGreat.Ql
open Go
theorem Lens.wf {s:Scene} (h:wf30 s):Lens s:=by
 have:=h.Basin.Cells.1
 have:=h.Basin.Pairs.1
 have:=h.Days.1
 have:=h.Sights.1
 have:=h.Changes.1
 unfold maxLen at *
 exact⟨by omega,by omega,by omega,by omega,by omega⟩
theorem wf_len {n:Nat} (h:n≤maxLen):n≤9223372036854775807:=by unfold maxLen at h; omega
end Go.Proofs.YthlchdnbokhclaaGreat.Ql
namespace Go.Proofs.YthlchdnbokhclaaGreat.Ql
open Go Go.Proofs.YthlchdnbokhclaaGreat.Bm
def fx (f:List (List Int)) (v:Nat):Int:=(0::f.flatten).getD v 0
theorem fx_z {f:List (List Int)}:fx f 0=0:=rfl
theorem AlF.fx {s:Scene} {f:List (List Int)} (h:AlF s f):Pot (EE s) (fx f):=h.pot
theorem fx_at {s:Scene} {f:List (List Int)} (h:Shp s f) {no d:Int} (hc:0≤cellAt s.Basin no) (hd:0≤dayAt s.Days d):fx f (sightNode s no d).toNat=val f (dayAt s.Days d).toNat (cellAt s.Basin no).toNat:=fx_node h hc cellAt_lt hd dayAt_lt
theorem f41_eq {K:Nat} {s:Scene} (hS:SOk s) {l:List Int} (hc:ClsOk s l) {d:Int} (hd:0≤dayAt s.Days d) {f:List (List Int)} (hf:AlF s f):Gets (f41 K s l d f) fun r=>r=volL s l d (fx f)∧0≤r∧r≤12*268435456:=by
 have hL:=Lens.of hS
 have hll:=hc.len
 have hc2:=hS.b.c2
 have hsh:Shp s f:=⟨hf.len,hf.row⟩
 unfold f41
 refine Gets.bind (P:=fun r=>r=volL s l d (fx f)∧0≤r∧r≤12*268435456) (rngL_gets (fun(k:Nat) (v:Int)=>v=volL s (l.take k) d (fx f)∧0≤v∧v≤k*268435456) (by omega) ⟨rfl,by simp,by simp⟩ (fun k no v nx hno ⟨h1,h2,h3⟩ hnx=>?_) fun v hv=>Gets.some ⟨by rw [hv.1,List.take_length],hv.2.1,by omega⟩) fun r hr=>Gets.some hr
 have hk:=(List.getElem?_eq_some_iff.1 hno).1
 have hcc:=hc.all no (List.mem_of_getElem? hno)
 have hA:=area_ok hS hcc
 obtain⟨cc,e1,e2⟩:=cellAt_spec hcc
 have c1:ix s.Basin.Cells (cellAt s.Basin no)=some (cellOf s.Basin (cellAt s.Basin no)):=(cellOf_eq hcc e1).1
 obtain⟨r1,c2,c3⟩:=ix_val hsh hcc cellAt_lt hd dayAt_lt
 have b1:=al_bd hS hf.fx fx_z hcc hd
 rw [fx_at hsh hcc hd] at b1
 have q1:=prod_bd hA.1 hA.2 b1.1 b1.2
 rw [f94_eq hL]
 dsimp only [Option.bind_some]
 rw [show decide (InS s no d)=true from decide_eq_true ⟨hcc,hd⟩]
 simp only [cond_true,c1,c2,c3,Option.bind_some]
 rw [show (cellOf s.Basin (cellAt s.Basin no)).Area=areaOf s no from rfl,W_eq (n:=areaOf s no*_) (by omega) (by omega),W_eq (by omega) (by omega)]
 refine hnx _ ⟨?_,by omega,by rw [Int.natCast_add,Int.add_mul]; omega⟩
 rw [vol_take hno,fx_at hsh hcc hd,h1]
end Go.Proofs.YthlchdnbokhclaaGreat.Ql
namespace Go.Proofs.YthlchdnbokhclaaGreat.Ql
open Go Go.Proofs.YthlchdnbokhclaaGreat.Bm
theorem f216_eq {s:Scene} (hS:SOk s) {w:List Int} (h:WOk s w):Gets (f216 4611686018427387904 (theNet s) w) fun r=>(¬ Fea (theNet s).Diffs∧r=([],false,41))∨(Fea (theNet s).Diffs∧r.2=(true,0)∧∃ wt,FS s (fun v=>w.getD v 0) (wsum (NN s) w) r.1 wt∧∀ v:Nat,0 < v→v < NN s→wt.getD v 0=0):=by
 unfold f216
 refine Gets.bind (f235_eq hS h) fun r hr=>?_
 rcases hr with ⟨h1,h2⟩ | ⟨h1,u,h2,h3,h4,h5⟩
 ·subst h2; exact Gets.some (.inl ⟨h1,rfl⟩)
 ·subst h2
  exact Gets.some (.inr ⟨h1,rfl,u.want,h4,h5⟩)
theorem f217_eq {s:Scene} (hS:SOk s) {w:List Int} (h:WOk s w):Gets (f217 4611686018427387904 (theNet s) w) fun r=>(¬ Fea (theNet s).Diffs∧r=([],false,41))∨(Fea (theNet s).Diffs∧r.2=(true,0)∧r.1.length=NN s∧r.1.getD 0 0=0∧Pot (EE s) (fun v=>r.1.getD v 0)∧IsMax s (fun v=>w.getD v 0) (dot (NN s) (fun v=>w.getD v 0) (fun v=>r.1.getD v 0))):=by
 have hn:=net_mild hS
 have hN:=NN_le hS
 have hN1:=NN_nat (s:=s)
 have hs:=lens_sn hS
 unfold f217
 refine Gets.bind (f235_eq hS h) fun r hr=>?_
 rcases hr with ⟨h1,h2⟩ | ⟨h1,u,h2,h3,h4,h5⟩
 ·subst h2; exact Gets.some (.inl ⟨h1,rfl⟩)
 ·subst h2
  simp only [bne_self_eq_false,Bool.not_true,Bool.or_self,cond_false,Option.bind_some]
  obtain⟨π,hFI⟩:=h4.fi
  have hlk:=lines_ok hn (fl:=u.flow)
  have hU:∀ i∈usedN (theNet s).Diffs.length u.flow,i < (EE s).length∧0 < u.flow.getD i 0:=fun i hi=>by rw [edg_len]; exact usedN_mem.1 hi
  have hpr:Pot (edg (linesN (theNet s) u.flow)) π:=by rw [lines_edg]; exact hFI.pot_res hU
  have e1:f359 4611686018427387904 u=some (linesN (theNet s) u.flow):=by
   rw [f359_eq (by rw [h3]; exact hn) (by rw [h3]; exact h4.l1),h3]
  have e2:f385 4611686018427387904 u=some ((NN s:Nat):Int):=by unfold f385; rw [h3,hs]
  have hpb:∀ a b,a < NN s→b < NN s→π a - π b≤4611686018427387904:=fun a b ha hb=>by
   have q1:=pot_bd hS hFI.pot ha
   have q2:=pot_bd hS hFI.pot hb
   have:=hS.b.d
   omega
  have hg:=(grow_pot (g:=⟨f359 4611686018427387904 u,f385 4611686018427387904 u⟩) (l:=linesN (theNet s) u.flow) (n:=NN s) e1 e2 (by omega) hlk.1 hlk.2 (fr:=numsN (NN s)) (by rw [numsN_len]; omega) (fun i hi=>numsN_mem.1 hi) hpr hpb).mono fun r hr=>hr.1
  have hsrc:(fun v:Nat=>decide ((v:Int)∈numsN (NN s)))=fun v=>decide (v < NN s):=by
   funext v; rw [decide_eq_decide,numsN_mem]; omega
  rw [hsrc] at hg
  refine Gets.bind (solve_of e2 (by omega) (by omega) hlk.1 hg) fun r hr=>?_
  obtain⟨x,t,bad⟩:=r
  rcases hr with ⟨_,k1,k2,k3,_⟩ | ⟨_,_,k1,_⟩
  ·simp only at k1 k2 k3
   have hE:=edg_uv hn.d
   have kp:Pot (EE s) (fun v=>x.getD v 0):=fun e he=>k2 e (by rw [lines_edg]; exact List.mem_append_left _ he)
   refine Gets.some (.inr ⟨h1,rfl,k1,k3,kp,?_⟩)
   have hd:=(hFI.done hE h5).2 _ kp k3 fun i e he hpos=>by
    have a1:=kp e (List.mem_of_getElem? he)
    have hi:i < (EE s).length:=(List.getElem?_eq_some_iff.1 he).1
    have he2:gE (EE s) i=e:=by have:=gE_eq hi; rw [he] at this; exact(Option.some.inj this).symm
    have a2:=k2 (turn e) (by rw [lines_edg]; exact List.mem_append_right _ (List.mem_map.2 ⟨i,usedN_mem.2 ⟨by rw [edg_len] at hi; exact hi,hpos⟩,by rw [show edg (theNet s).Diffs=EE s from rfl,he2]⟩))
    simp only [turn] at a1 a2
    omega
   show IsMax s _ (dot (NN s) (fun v=>w.getD v 0) (fun v=>x.getD v 0))
   rw [hd]
   exact h4.max hS h5
  ·exact absurd ⟨_,hpr⟩ k1
def lpQ (s:Scene) (l:List Int) (a b:Int) (m:Bool) (r:List Int × List (List Int) × Int):Prop:=
 (¬ SOk s∧r=([],[],chk s))∨(SOk s∧¬ PerOk s l a b∧r=([],[],1))∨(SOk s∧PerOk s l a b∧¬ Fea (theNet s).Diffs∧r=([],[],41)) ∨
 (SOk s∧PerOk s l a b∧Fea (theNet s).Diffs∧r.2.2=0∧FlowIn s r.1∧∃ M,IsMax s (fun v=>(lostW s l a b m).getD v 0) M∧FlowPf s (lostW s l a b m) M r.1∧AlF s r.2.1∧dot (NN s) (fun v=>(lostW s l a b m).getD v 0) (fx r.2.1)=M)
theorem f98_eq {s:Scene} (hL:Lens s) {l:List Int} {a b:Int} {m:Bool} (hl:l.length≤9223372036854775807):Gets (f98 4611686018427387904 s l a b m) (lpQ s l a b m):=by
 unfold f98
 refine Gets.bind (f120_eq hL hl) fun r hr=>?_
 rcases hr with ⟨h1,h2⟩ | ⟨h1,h2,h3⟩ | ⟨h1,hP,h3⟩
 ·subst h2
  dsimp only
  rw [show (chk s != 0)=true by simpa using chk_ne.2 h1]
  exact Gets.some (.inl ⟨h1,rfl⟩)
 ·subst h3
  exact Gets.some (.inr (.inl ⟨h1,h2,rfl⟩))
 ·subst h3
  have hw:=(lw_all h1 hP (most:=m)).wok
  simp only [bne_self_eq_false,cond_false,Option.bind_some]
  refine Gets.bind (f216_eq h1 hw) fun r hr=>?_
  obtain⟨fl,is,e⟩:=r
  rcases hr with ⟨h4,h5⟩ | ⟨h4,h5,wt,h6,h7⟩
  ·cases h5
   exact Gets.some (.inr (.inr (.inl ⟨h1,hP,h4,rfl⟩)))
  ·simp only [Prod.mk.injEq] at h5 h6
   obtain⟨rfl,rfl⟩:=h5
   simp only [bne_self_eq_false,cond_false]
   refine Gets.bind (f217_eq h1 hw) fun r hr=>?_
   obtain⟨x,is',e'⟩:=r
   rcases hr with ⟨k4,_⟩ | ⟨_,k5,k6,k7,k8,k9⟩
   ·exact absurd h4 k4
   ·simp only [Prod.mk.injEq] at k5 k6 k7 k8 k9
    obtain⟨rfl,rfl⟩:=k5
    simp only [bne_self_eq_false,cond_false]
    rw [f218_eq h1 rfl k6,Option.bind_some]
    have hb:=h6.f_le (hw.sum h1)
    refine Gets.some (.inr (.inr (.inr ⟨h1,hP,h4,rfl,⟨h6.l1,fun f hf=>?_⟩,_,k9,⟨fun v h0 hv=>?_,?_⟩,rows_al h1 k6 k7 k8,?_⟩)))
    ·obtain⟨i,hi⟩:=List.mem_iff_getElem?.1 hf
     have:=hb i
     rw [List.getD_eq_getElem?_getD,hi] at this
     exact this
    ·obtain⟨π,hFI⟩:=h6.fi
     have:=hFI.con v h0 hv
     rw [this]
     have:=h7 v h0 hv
     omega
    ·have:=(h6.max h1 h7).uniq k9
     show costE (EE s) (fun i=>fl.getD i 0)≤_
     omega
    ·have:fx (rowsOf s x)=fun v=>x.getD v 0:=by funext v; exact rows_fx h1 k6 k7 v
     rw [this]
end Go.Proofs.YthlchdnbokhclaaGreat.Ql
namespace Go.Proofs.YthlchdnbokhclaaGreat.Ql
open Go Go.Proofs.YthlchdnbokhclaaGreat.Bm
theorem flow_weak {s:Scene} (hS:SOk s) {w:List Int} {m:Int} {fl:List Int} (hin:FlowIn s fl) (h:FlowPf s w m fl) {y:Nat→Int} (hy:Pot (EE s) y) (hz:y 0=0):dot (NN s) (fun v=>w.getD v 0) y≤m:=by
 have:=weak (edg_uv (net_mild hS).d) (fun i e _=>(hin.at i).1) hy hz h.1
 exact Int.le_trans this h.2
theorem basinLostExact_pure (s:Scene) (l:List Int) (a b n:Int) (fl:List Int) (h:wf30 s) (hl:wf26 l) (_:wf3 a) (_:wf3 b) (_:wf3 n) (hfl:wf26 fl):∃ k,f20 k s l a b n fl=some true:=by
 refine⟨4611686018427387904,?_⟩
 have hL:=Lens.wf h
 have hl:=wf_len hl.1
 have hfl:=wf_len hfl.1
 have:Gets (f20 4611686018427387904 s l a b n fl) (·=true):=by
  unfold f20
  refine Gets.bind_eq sane_ok (Gets.cond (fun h=>by simp at h) fun _=>?_)
  refine Gets.bind (f36_eq hL) fun k hk=>Gets.cond (fun _=>Gets.some rfl) fun h'=>?_
  have hS:=(hk.1 (by simpa using h')).1
  have hd2:=hS.d.2.1
  have hm:=lay_len hS
  have hml:(theNet s).Diffs.length=(lay s).length:=by simp [theNet]
  refine Gets.bind (f40_eq hL hl) fun r1 h1=>Gets.bind (f98_eq hL hl) fun r2 h2=>Gets.bind (f98_eq hL hl) fun r3 h3=>?_
  obtain⟨x,e⟩:=r1
  obtain⟨p,f,g⟩:=r2
  obtain⟨q,f',i⟩:=r3
  have key:(e≠0∧e=g∧e=i∧(e=1∨e=41)∧x=⟨0,0⟩∧p=[]∧q=[]∧f=[]∧f'=[])∨(e=0∧g=0∧i=0∧PerOk s l a b∧IsLoss s l a b x.Lo x.Hi ∧
    (FlowIn s p∧∃ M,IsMax s (fun v=>(lostW s l a b true).getD v 0) M∧FlowPf s (lostW s l a b true) M p∧AlF s f∧dot (NN s) (fun v=>(lostW s l a b true).getD v 0) (fx f)=M) ∧
    FlowIn s q∧∃ M,IsMax s (fun v=>(lostW s l a b false).getD v 0) M∧FlowPf s (lostW s l a b false) M q∧AlF s f'∧dot (NN s) (fun v=>(lostW s l a b false).getD v 0) (fx f')=M):=by
   rcases h1 with ⟨h1,_⟩ | ⟨_,h1,h4⟩ | ⟨_,h0,h1,h4⟩ | ⟨_,h0,h1,h4,h5⟩
   ·exact absurd hS h1
   ·rcases h2 with ⟨h2,_⟩ | ⟨_,_,h5⟩ | ⟨_,h2,_⟩ | ⟨_,h2,_⟩
    ·exact absurd hS h2
    ·rcases h3 with ⟨h3,_⟩ | ⟨_,_,h6⟩ | ⟨_,h3,_⟩ | ⟨_,h3,_⟩
     ·exact absurd hS h3
     ·cases h4; cases h5; cases h6; exact .inl ⟨by decide,rfl,rfl,.inl rfl,rfl,rfl,rfl,rfl,rfl⟩
     ·exact absurd h3 h1
     ·exact absurd h3 h1
    ·exact absurd h2 h1
    ·exact absurd h2 h1
   ·rcases h2 with ⟨h2,_⟩ | ⟨_,h2,_⟩ | ⟨_,_,h2,h5⟩ | ⟨_,_,h2,_⟩
    ·exact absurd hS h2
    ·exact absurd h0 h2
    ·rcases h3 with ⟨h3,_⟩ | ⟨_,h3,_⟩ | ⟨_,_,h3,h6⟩ | ⟨_,_,h3,_⟩
     ·exact absurd hS h3
     ·exact absurd h0 h3
     ·cases h4; cases h5; cases h6; exact .inl ⟨by decide,rfl,rfl,.inr rfl,rfl,rfl,rfl,rfl,rfl⟩
     ·exact absurd h3 h1
    ·exact absurd h2 h1
   ·rcases h2 with ⟨h2,_⟩ | ⟨_,h2,_⟩ | ⟨_,_,h2,_⟩ | ⟨_,_,_,h6,h7⟩
    ·exact absurd hS h2
    ·exact absurd h0 h2
    ·exact absurd h1 h2
    ·rcases h3 with ⟨h3,_⟩ | ⟨_,h3,_⟩ | ⟨_,_,h3,_⟩ | ⟨_,_,_,h8,h9⟩
     ·exact absurd hS h3
     ·exact absurd h0 h3
     ·exact absurd h1 h3
     ·exact .inr ⟨h4,h6,h8,h0,h5,h7,h9⟩
  clear h1 h2 h3
  rcases key with ⟨k0,rfl,rfl,k1,rfl,rfl,rfl,rfl,rfl⟩ | ⟨rfl,rfl,rfl,hP,hlo,⟨hp0,M,hp1,hp2,hp3,hp4⟩,hq0,N,hq1,hq2,hq3,hq4⟩
  ·simp only [bne_self_eq_false,Bool.or_self,cond_false]
   rw [show (e != 0)=true by simpa using k0]
   rcases k1 with rfl | rfl <;> exact Gets.some (by simp)
  ·have d1:=(lw_all hS hP (most:=true)).dot
   have d0:=(lw_all hS hP (most:=false)).dot
   simp only [sgn,if_true,Bool.false_eq_true,if_false] at d0 d1
   have hlM:=loss_of hS hP hq1 hp1
   obtain⟨eLo,eHi⟩:=hlo.uniq hlM
   have hc:=hP.cls
   rw [d1,loss_vol] at hp4
   rw [d0,loss_vol] at hq4
   simp only [bne_self_eq_false,Bool.or_self,cond_false]
   have lf:=hp3.len
   have lf':=hq3.len
   refine Gets.bind (P:=(·=false)) ?_ fun v hv=>?_
   ·refine Gets.bind (f37_eq hS (by omega)) fun c hcv=>?_
    rw [hcv.2 ((alF_iff hS).1 hp3)]
    simp only [Bool.not_true,cond_false]
    refine Gets.bind (f37_eq hS (by omega)) fun c hcv=>?_
    rw [hcv.2 ((alF_iff hS).1 hq3)]
    simp only [Bool.not_true,cond_false]
    refine Gets.bind (f41_eq hS hc hP.d1 hp3) fun y1 hy1=>Gets.bind (f41_eq hS hc hP.d2 hp3) fun y2 hy2=>?_
    rw [W_eq (by omega) (by omega),show (y1 - y2 != x.Hi)=false by rw [bne_eq_false_iff_eq,hy1.1,hy2.1,hp4,eHi],cond_false]
    refine Gets.bind (f41_eq hS hc hP.d1 hq3) fun y1 hy1=>Gets.bind (f41_eq hS hc hP.d2 hq3) fun y2 hy2=>Gets.some ?_
    rw [W_eq (by omega) (by omega),bne_eq_false_iff_eq,hy1.1,hy2.1,eLo]
    omega
   ·subst hv
    simp only [cond_false]
    have bM:-3221225472≤M∧M≤3221225472∧-3221225472≤N∧N≤3221225472:=by
     obtain⟨r,_,g1⟩:=f41_eq (K:=0) hS hc hP.d1 hp3
     obtain⟨r2,_,g2⟩:=f41_eq (K:=0) hS hc hP.d2 hp3
     obtain⟨r3,_,g3⟩:=f41_eq (K:=0) hS hc hP.d1 hq3
     obtain⟨r4,_,g4⟩:=f41_eq (K:=0) hS hc hP.d2 hq3
     omega
    have ok:∀ {v:Int} {m:Bool} {c:List Int} {r:Int},clQ s l a b v m c r→cfwQ s (lostW s l a b m) (if m then v else oppV v) c r:=fun hq=>by
     rcases hq with ⟨h1,_⟩ | ⟨_,h1,_⟩ | ⟨_,_,h1⟩
     ·exact absurd hS h1
     ·exact absurd hP h1
     ·exact h1
    have hop:∀ v:Int,-1152921504606846976≤v→oppV v=-v:=fun v hv=>by unfold oppV; rw [if_neg (by omega)]
    refine Gets.bind (P:=(·=false)) ?_ fun v hv=>?_
    ·refine Gets.bind (f96_eq hL hl (by have:=hp0.1; omega) (by omega)) fun r hr=>?_
     rw [((ok hr).2 hp0).1 (by rw [if_pos rfl,eHi]; exact hp2)]
     simp only [bne_self_eq_false,cond_false]
     refine Gets.bind (f96_eq hL hl (by have:=hq0.1; omega) (by omega)) fun r hr=>Gets.some ?_
     rw [((ok hr).2 hq0).1 (by rw [if_neg (by decide),hop _ (by omega),eLo,Int.neg_neg]; exact hq2)]; rfl
    ·subst hv
     simp only [cond_false]
     have hz:∃ z:Int,(if 1048576 < (if 0 > n then 0 else n) then 1048576 else (if 0 > n then 0 else n))=z∧0≤z∧z≤1048576:=⟨_,rfl,by split <;> (try split) <;> omega,by split <;> (try split) <;> omega⟩
     obtain⟨z,hz,z3,z4⟩:=hz
     rw [hz,W_eq (n:=1+z) (by omega) (by omega),W_eq (n:=_ - _) (by omega) (by omega),W_eq (n:=_+(1+z)) (by omega) (by omega)]
     have bad:∀ {v:Int} {m:Bool} {c:List Int} {r:Int} {Q:Int},clQ s l a b v m c r→IsMax s (fun v=>(lostW s l a b m).getD v 0) Q→(if m then v else oppV v) < Q→r≠0:=fun {v m c r Q} hq hM hlt h0=>by
      have hq:=ok hq
      obtain⟨_,y,a1,a2,a3⟩:=hM
      by_cases hi:FlowIn s c
      ·by_cases hpf:FlowPf s (lostW s l a b m) (if m then v else oppV v) c
       ·have:=flow_weak hS hi hpf a1 a2
        omega
       ·have:=(hq.2 hi).2 hpf; omega
      ·have:=hq.1 hi; omega
     refine Gets.bind (P:=(·=true)) ?_ fun v hv=>Gets.some hv
     refine Gets.bind (f96_eq hL hl hfl (by omega)) fun r hr=>?_
     have g1:=bad hr hp1 (by rw [if_pos rfl]; omega)
     rw [show (r != 0)=true by simpa using g1,cond_true]
     refine Gets.bind (f96_eq hL hl hfl (by omega)) fun r hr=>?_
     have g1:=bad hr hq1 (by rw [if_neg (by decide),hop _ (by omega)]; omega)
     rw [show (r != 0)=true by simpa using g1,cond_true]
     refine Gets.bind (f96_eq hL hl (by have:=hp0.1; omega) (by omega)) fun r hr=>?_
     have g1:=bad hr hp1 (by rw [if_pos rfl]; omega)
     exact Gets.some (by simpa using g1)
 exact this.out
end Go.Proofs.YthlchdnbokhclaaGreat.Ql

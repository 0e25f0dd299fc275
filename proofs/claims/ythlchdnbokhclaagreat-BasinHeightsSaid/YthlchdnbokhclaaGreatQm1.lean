import Derived.Test.YthlchdnbokhclaaGreatQd1
import Derived.Test.YthlchdnbokhclaaGreatQb1
import Derived.Test.YthlchdnbokhclaaGreatQs
import Derived.Test.YthlchdnbokhclaaGreatQr
set_option linter.all false
namespace Go.Proofs.YthlchdnbokhclaaGreat.Ql
open Go Go.Proofs.YthlchdnbokhclaaGreat.Bm
abbrev scn (s:Scene) (g:List Sight) (c:List Change):Scene:=⟨s.Basin,s.Days,g,c⟩
end Go.Proofs.YthlchdnbokhclaaGreat.Ql
namespace Go.Proofs.YthlchdnbokhclaaGreat.Ql
open Go
theorem Lens.wf {s:Scene} (h:wf30 s):Lens s:=by
 have:=h.Basin.Cells.1
 have:=h.Basin.Pairs.1
 have:=h.Days.1
 have:=h.Sights.1
 have:=h.Changes.1
 unfold maxLen at *
 exact⟨by omega,by omega,by omega,by omega,by omega⟩
theorem wf_len {n:Nat} (h:n≤maxLen):n≤9223372036854775807:=by unfold maxLen at h; omega
end Go.Proofs.YthlchdnbokhclaaGreat.Ql
namespace Go.Proofs.YthlchdnbokhclaaGreat.Ql
open Go Go.Proofs.YthlchdnbokhclaaGreat.Bm
def fx (f:List (List Int)) (v:Nat):Int:=(0::f.flatten).getD v 0
theorem cellAt_No {b:Basin} (hb:BOk b) {i:Nat} {c:Cell} (h:b.Cells[i]?=some c):cellAt b c.No=i:=by
 have h0:0≤cellAt b c.No:=by
  refine Classical.byContradiction fun hlt=>?_
  have:=(fidx_neg (p:=fun x:Cell=>x.No==c.No) (xs:=b.Cells) (i:=0) (by omega)).1 (by unfold cellAt at hlt; omega) c (List.mem_of_getElem? h)
  simp at this
 obtain⟨c',h1,h2⟩:=cellAt_spec h0
 have:=cell_uniq hb h1 h h2
 omega
theorem vol_between {s:Scene} (hS:SOk s) {l:List Int} {d:Int} (hc:∀ no∈l,0≤cellAt s.Basin no) (hd:0≤dayAt s.Days d) {x y:List Int} (hx:IsBot (NN s) (EE s) x) (hy:IsTop (NN s) (EE s) y) {π:Nat→Int} (hp:Pot (EE s) π) (hz:π 0=0) :
  volL s l d (fun v=>x.getD v 0)≤volL s l d π∧volL s l d π≤volL s l d (fun v=>y.getD v 0):=by
 have hn:∀ no∈l,(sightNode s no d).toNat < NN s:=fun no hno=>by have:=sightNode_in (hc no hno) hd; omega
 exact⟨vol_mono hS hc fun no hno=>hx.bot π hp hz _ (hn no hno),vol_mono hS hc fun no hno=>hy.top π hp hz _ (hn no hno)⟩
end Go.Proofs.YthlchdnbokhclaaGreat.Ql
namespace Go.Proofs.YthlchdnbokhclaaGreat.Ql
open Go
def more2 (b:Basin) (i:Int) (r:Int × Bool × Int):Prop:=
 (¬ BOk b→r=(0,false,50))∧(BOk b→¬ (0≤i∧i < b.Pairs.length)→r=(0,false,1)) ∧
 ∀ p,BOk b→0≤i→b.Pairs[i.toNat]?=some p→(alike (cellOf b p.a0) (cellOf b p.a1)=false→r=(0,false,0))∧(alike (cellOf b p.a0) (cellOf b p.a1)=true→r=(moreOf b p,true,0))
theorem more2_core {b:Basin} {i:Int} {p:Arr2_3} {a:Bool} (hb:BOk b) (h0:0≤i) (e:b.Pairs[i.toNat]?=some p) (ha:a=alike (cellOf b p.a0) (cellOf b p.a1)) {o:Option (Int × Bool × Int)} (ho:o=bif (!a) then some (0,false,0) else some (moreOf b p,true,0)):Gets o (more2 b i):=by
 subst ho ha
 have hlt:=(List.getElem?_eq_some_iff.1 e).1
 refine Gets.cond (fun h=>Gets.some ⟨fun h'=>absurd hb h',fun _ h'=>absurd ⟨h0,by omega⟩ h',fun q _ _ eq=>?_⟩) fun h=>Gets.some ⟨fun h'=>absurd hb h',fun _ h'=>absurd ⟨h0,by omega⟩ h',fun q _ _ eq=>?_⟩
 ·rw [e] at eq; cases eq
  simp at h
  exact⟨fun _=>rfl,fun h'=>by rw [h] at h'; cases h'⟩
 ·rw [e] at eq; cases eq
  simp at h
  exact⟨fun h'=>(by rw [h] at h'; cases h'),fun _=>rfl⟩
theorem f55_eq (K:Nat) (b:Basin) (i:Int) (hl:b.Cells.length≤9223372036854775807) (hp:b.Pairs.length≤9223372036854775807):Gets (f55 K b i) (more2 b i):=by
 unfold f55
 refine Gets.bind (f74_eq K b hl hp) fun a ha=>Gets.cond (fun h=>?_) fun h=>?_
 ·subst ha
  have hb:=bchk_ne.1 (by simpa using h)
  rw [bchk_50 hb]
  exact Gets.some ⟨fun _=>rfl,fun h'=>absurd h' hb,fun _ h'=>absurd h' hb⟩
 ·subst ha
  have hb:BOk b:=Classical.byContradiction fun h'=>by have:=bchk_ne.2 h'; simp at h; exact this h
  have:=hb.p1
  simp only [f140,Option.bind_some]
  rw [W_eq (by omega) (by omega)]
  refine Gets.cond (fun h=>Gets.some ⟨fun h'=>absurd hb h',fun _ _=>rfl,fun p _ h0 e=>?_⟩) fun h=>?_
  ·have:=(List.getElem?_eq_some_iff.1 e).1
   simp at h; omega
  ·simp at h
   obtain⟨p,e1,e2⟩:=ix_lt (xs:=b.Pairs) h.1 (by omega)
   have hpk:=hb.pair _ _ e2
   have hc:=hpk.cells
   rw [e1,Option.bind_some,hc.1,Option.bind_some,hc.2.1,Option.bind_some,f141_eq (cellOf_ok hb hpk.1 hpk.2.1) (cellOf_ok hb hpk.2.2.1 hpk.2.2.2.1),Option.bind_some,f142_eq hb hpk]
   exact more2_core hb h.1 e2 rfl rfl
end Go.Proofs.YthlchdnbokhclaaGreat.Ql
namespace Go.Proofs.YthlchdnbokhclaaGreat.Ql
open Go Go.Proofs.YthlchdnbokhclaaGreat.Bm
theorem pair_pot {s:Scene} (hS:SOk s) {π:Nat→Int} (hp:Pot (EE s) π) {i:Nat} {p:Arr2_3} (e:s.Basin.Pairs[i]?=some p) (hal:alike (cellOf s.Basin p.a0) (cellOf s.Basin p.a1)=true) {d:Nat} (hd:d < s.Days.length) :
  π (node s p.a1 d).toNat - π (node s p.a0 d).toNat≤moreOf s.Basin p∧π (node s p.a0 d).toNat - π (node s p.a1 d).toNat≤lessOf s.Basin p:=by
 have h:=pot_lay.1 hp
 have hg:gPair s d s.Days[d] p i=[(⟨node s p.a0 d,node s p.a1 d,moreOf s.Basin p⟩,⟨3,i,s.Days[d],false⟩),(⟨node s p.a1 d,node s p.a0 d,lessOf s.Basin p⟩,⟨4,i,s.Days[d],false⟩)]:=by unfold gPair; rw [if_pos hal]
 have e1:=h _ (mem_lay.2 (.inr (.inl ⟨d,_,i,_,List.getElem?_eq_getElem hd,e,by rw [hg]; exact List.mem_cons_self⟩)))
 have e2:=h _ (mem_lay.2 (.inr (.inl ⟨d,_,i,_,List.getElem?_eq_getElem hd,e,by rw [hg]; exact List.mem_cons_of_mem _ List.mem_cons_self⟩)))
 exact⟨e1,e2⟩
theorem vol_bd {s:Scene} (hS:SOk s) {d:Int} (hd:0≤dayAt s.Days d) {y:Nat→Int} (hp:Pot (EE s) y) (hz:y 0=0):∀ {l:List Int},(∀ no∈l,0≤cellAt s.Basin no)→0≤volL s l d y∧volL s l d y≤l.length*268435456
 | [],_=>by simp [volL]
 | no::l,hc=>by
  have ih:=vol_bd hS hd hp hz (l:=l) (fun n hn=>hc n (List.mem_cons_of_mem _ hn))
  have h1:=area_ok hS (hc no (by simp))
  have h2:=al_bd hS hp hz (hc no (by simp)) hd
  have h3:=prod_bd h1.1 h1.2 h2.1 h2.2
  simp only [volL,List.map_cons,List.sum_cons,List.length_cons] at ih ⊢
  rw [Int.natCast_add,Int.add_mul]
  omega
theorem basinHeights_pure (s:Scene) (i d:Int) (l:List Int) (a b:Int) (h:wf30 s) (_:wf3 i) (_:wf3 d) (hl:wf26 l) (_:wf3 a) (_:wf3 b):∃ k,f8 k s i d l a b=some true:=by
 refine⟨4611686018427387904,?_⟩
 have hL:=Lens.wf h
 have hl:=wf_len hl.1
 have:Gets (f8 4611686018427387904 s i d l a b) (·=true):=by
  unfold f8
  refine Gets.bind_eq sane_ok (Gets.cond (fun h=>by simp at h) fun _=>?_)
  refine Gets.bind (f36_eq hL) fun k hk=>Gets.cond (fun _=>Gets.some rfl) fun h'=>?_
  have hS:=(hk.1 (by simpa using h')).1
  have hc2:=hS.b.c2
  have hdp:=hS.b.d
  refine Gets.bind (f40_eq hL hl) fun r1 h1=>Gets.bind (f39_eq hL hl) fun r2 h2=>Gets.bind (f39_eq hL hl) fun r3 h3=>?_
  obtain⟨x,e1⟩:=r1
  obtain⟨u,e2⟩:=r2
  obtain⟨v,e3⟩:=r3
  refine Gets.cond (fun h4=>?_) fun _=>?_
  ·exfalso
   rw [Bool.and_eq_true,beq_iff_eq] at h4
   obtain⟨h5,h4⟩:=h4
   simp only at h5
   subst h5
   rcases h1 with ⟨h1,_⟩ | ⟨_,_,h1⟩ | ⟨_,_,_,h1⟩ | ⟨_,hP,hF,_,hlo⟩
   ·exact absurd hS h1
   ·simp at h1
   ·simp at h1
   ·have hll:=hP.cls.len
    rcases h2 with ⟨h2,_⟩ | ⟨_,h2,_⟩ | ⟨_,_,h2,_⟩ | ⟨_,_,_,x1,y1,b1,t1,h2⟩
    ·exact absurd hS h2
    ·exact absurd ⟨hP.cls,hP.d1⟩ h2
    ·exact absurd hF h2
    rcases h3 with ⟨h3,_⟩ | ⟨_,h3,_⟩ | ⟨_,_,h3,_⟩ | ⟨_,_,_,x2,y2,b2,t2,h3⟩
    ·exact absurd hS h3
    ·exact absurd ⟨hP.cls,hP.d2⟩ h3
    ·exact absurd hF h3
    cases h2; cases h3
    cases b1.uniq b2
    cases t1.uniq t2
    have n1:=vol_bd hS hP.d1 b1.pot b1.z hP.cls.all
    have n2:=vol_bd hS hP.d1 t1.pot t1.z hP.cls.all
    have n3:=vol_bd hS hP.d2 b1.pot b1.z hP.cls.all
    have n4:=vol_bd hS hP.d2 t1.pot t1.z hP.cls.all
    have hin:∀ y,Pot (EE s) y→y 0=0→∀ dd,0≤dayAt s.Days dd→volL s l dd (fun v=>x1.getD v 0)≤volL s l dd y∧volL s l dd y≤volL s l dd (fun v=>y1.getD v 0):=fun y hy hz dd hdd=>vol_between hS hP.cls.all hdd b1 t1 hy hz
    obtain⟨-,⟨y,a1,a2,a3⟩,z,a4,a5,a6⟩:=hlo
    rw [loss_vol] at a3 a6
    have c1:=hin y a1 a2 a hP.d1
    have c2:=hin y a1 a2 b hP.d2
    have c3:=hin z a4 a5 a hP.d1
    have c4:=hin z a4 a5 b hP.d2
    simp only at a3 a6
    simp only [bne_self_eq_false,Bool.false_or,Bool.or_eq_true,decide_eq_true_eq] at h4
    rw [W_eq (by omega) (by omega),W_eq (by omega) (by omega)] at h4
    omega
  ·refine Gets.bind (f55_eq _ _ i hL.c hL.p) fun r4 h4=>?_
   obtain⟨m,is,e4⟩:=r4
   by_cases hi:0≤i∧i < s.Basin.Pairs.length
   ·obtain⟨p,ep⟩:∃ p,s.Basin.Pairs[i.toNat]?=some p:=⟨_,List.getElem?_eq_getElem (by omega)⟩
    have hp:=h4.2.2 p hS.b hi.1 ep
    cases hal:alike (cellOf s.Basin p.a0) (cellOf s.Basin p.a1)
    ·cases hp.1 hal; exact Gets.some rfl
    ·cases hp.2 hal
     simp only [bne_self_eq_false,Bool.not_true,Bool.or_self,cond_false]
     refine Gets.cond (fun h5=>?_) fun _=>?_
     ·exfalso
      simp only [Bool.or_eq_true,decide_eq_true_eq] at h5
      omega
     ·have hpo:=hS.b.pair _ _ ep
      have hcs:=hpo.cells
      obtain⟨q0,q1,q2,q3,q4,c,c',w1,w2,w3⟩:=hpo
      have v1:=(cellOf_eq q0 w1).2
      have v2:=(cellOf_eq q2 w2).2
      have g1:=cellAt_No hS.b w1
      have g2:=cellAt_No hS.b w2
      rw [show ix s.Basin.Pairs i=some p from ix_eq hi.1 ep,Option.bind_some,hcs.1,Option.bind_some,hcs.2.1,Option.bind_some,v1,v2]
      refine Gets.bind (f33_eq hL) fun r5 h5=>Gets.bind (f33_eq hL) fun r6 h6=>?_
      obtain⟨y,e5⟩:=r5
      obtain⟨z,e6⟩:=r6
      have hin:InS s c.No d↔InS s c'.No d:=by unfold InS; rw [g1,g2]; omega
      rcases h5 with ⟨h5,_⟩ | ⟨_,h5,k5⟩ | ⟨_,h5,h5F,k5⟩ | ⟨_,h5,h5F,x1,y1,b1,t1,k5⟩
      ·exact absurd hS h5
      ·rcases h6 with ⟨h6,_⟩ | ⟨_,h6,k6⟩ | ⟨_,h6,_⟩ | ⟨_,h6,_⟩
       ·exact absurd hS h6
       ·cases k5; cases k6; exact Gets.some rfl
       ·exact absurd (hin.2 h6) h5
       ·exact absurd (hin.2 h6) h5
      ·rcases h6 with ⟨h6,_⟩ | ⟨_,h6,k6⟩ | ⟨_,h6,h6F,k6⟩ | ⟨_,h6,h6F,_⟩
       ·exact absurd hS h6
       ·exact absurd (hin.1 h5) h6
       ·cases k5; cases k6; exact Gets.some rfl
       ·exact absurd h6F h5F
      ·rcases h6 with ⟨h6,_⟩ | ⟨_,h6,k6⟩ | ⟨_,h6,h6F,k6⟩ | ⟨_,h6,h6F,x2,y2,b2,t2,k6⟩
       ·exact absurd hS h6
       ·exact absurd (hin.1 h5) h6
       ·exact absurd h5F h6F
       ·cases k5; cases k6
        cases b1.uniq b2
        cases t1.uniq t2
        have hd:=h5.2
        have hdl:=dayAt_lt (ds:=s.Days) (d:=d)
        have s1:sightNode s c.No d=node s p.a0 (dayAt s.Days d).toNat:=by
         unfold sightNode; rw [g1,show ((p.a0.toNat:Nat):Int)=p.a0 by omega,show (((dayAt s.Days d).toNat:Nat):Int)=dayAt s.Days d by omega]
        have s2:sightNode s c'.No d=node s p.a1 (dayAt s.Days d).toNat:=by
         unfold sightNode; rw [g2,show ((p.a1.toNat:Nat):Int)=p.a1 by omega,show (((dayAt s.Days d).toNat:Nat):Int)=dayAt s.Days d by omega]
        have m1:=pair_pot hS b1.pot ep hal (d:=(dayAt s.Days d).toNat) (by omega)
        have m2:=pair_pot hS t1.pot ep hal (d:=(dayAt s.Days d).toNat) (by omega)
        rw [← s1,← s2] at m1 m2
        have n1:=al_bd hS b1.pot b1.z h5.1 hd
        have n2:=al_bd hS t1.pot t1.z h5.1 hd
        have n3:=al_bd hS b1.pot b1.z (hin.1 h5).1 hd
        have n4:=al_bd hS t1.pot t1.z (hin.1 h5).1 hd
        simp only [bne_self_eq_false,Bool.or_self,cond_false]
        rw [W_eq (by omega) (by omega),W_eq (by omega) (by omega)]
        refine Gets.cond (fun h7=>?_) fun _=>Gets.some ?_
        ·exfalso
         simp only [Bool.and_eq_true,Bool.or_eq_true,decide_eq_true_eq] at h7
         have:lessOf s.Basin p=0:=by unfold lessOf; rw [v1,v2,if_neg (by omega)]
         omega
        ·simp only [Bool.and_eq_true,decide_eq_true_eq]; omega
   ·cases h4.2.1 hS.b hi
    exact Gets.some rfl
 exact this.out
end Go.Proofs.YthlchdnbokhclaaGreat.Ql

import Derived.Test.YthlchdnbokhclaaGreatQd1
import Derived.Test.YthlchdnbokhclaaGreatQb1
import Derived.Test.YthlchdnbokhclaaGreatQs
import Derived.Test.YthlchdnbokhclaaGreatQr
set_option linter.all false
namespace Go.Proofs.YthlchdnbokhclaaGreat.Ql
open Go Go.Proofs.YthlchdnbokhclaaGreat.Bm
abbrev scn (s:Scene) (g:List Sight) (c:List Change):Scene:=⟨s.Basin,s.Days,g,c⟩
theorem SOk.scn {s:Scene} (h:SOk s) {g:List Sight} {c:List Change} (h1:g.length≤256) (h2:c.length≤256) (hg:∀ x∈g,SightOk s x) (hc:∀ x∈c,ChangeOk s x):SOk (scn s g c):=⟨h.b,h.d,⟨h1,h2⟩,hg,hc⟩
theorem pot_sub {s:Scene} {g:List Sight} {c:List Change} (hg:∀ x∈g,x∈s.Sights) (hc:∀ x∈c,x∈s.Changes) {π:Nat→Int} (h:Pot (EE s) π):Pot (EE (scn s g c)) π:=by
 rw [pot_lay] at h ⊢
 intro y hy
 rcases mem_lay.1 hy with h1 | h1 | ⟨i,x,h1,h2⟩ | ⟨i,x,h1,h2⟩
 ·exact h y (mem_lay.2 (.inl h1))
 ·exact h y (mem_lay.2 (.inr (.inl h1)))
 ·obtain⟨j,hj⟩:=List.mem_iff_getElem?.1 (hg x (List.mem_of_getElem? h1))
  have a1:=h _ (mem_lay.2 (.inr (.inr (.inl ⟨j,x,hj,List.mem_cons_self⟩))))
  have a2:=h _ (mem_lay.2 (.inr (.inr (.inl ⟨j,x,hj,List.mem_cons_of_mem _ List.mem_cons_self⟩))))
  simp only [gSight,List.mem_cons,List.not_mem_nil,or_false] at h2
  rcases h2 with rfl | rfl
  ·exact a1
  ·exact a2
 ·obtain⟨j,hj⟩:=List.mem_iff_getElem?.1 (hc x (List.mem_of_getElem? h1))
  have a1:=h _ (mem_lay.2 (.inr (.inr (.inr ⟨j,x,hj,List.mem_cons_self⟩))))
  have a2:=h _ (mem_lay.2 (.inr (.inr (.inr ⟨j,x,hj,List.mem_cons_of_mem _ List.mem_cons_self⟩))))
  simp only [gChange,List.mem_cons,List.not_mem_nil,or_false] at h2
  rcases h2 with rfl | rfl
  ·exact a1
  ·exact a2
end Go.Proofs.YthlchdnbokhclaaGreat.Ql
namespace Go.Proofs.YthlchdnbokhclaaGreat.Ql
open Go
theorem Lens.wf {s:Scene} (h:wf30 s):Lens s:=by
 have:=h.Basin.Cells.1
 have:=h.Basin.Pairs.1
 have:=h.Days.1
 have:=h.Sights.1
 have:=h.Changes.1
 unfold maxLen at *
 exact⟨by omega,by omega,by omega,by omega,by omega⟩
theorem wf_len {n:Nat} (h:n≤maxLen):n≤9223372036854775807:=by unfold maxLen at h; omega
end Go.Proofs.YthlchdnbokhclaaGreat.Ql
namespace Go.Proofs.YthlchdnbokhclaaGreat.Ql
open Go
theorem f131_eq (K:Nat) (s:Scene) (h:SOk s):f131 K s=some s:=by
 have h1:=h.b.c2
 have h2:=h.b.p1
 have h3:=h.d.2.1
 have h4:=h.m
 unfold f131 f249 f250 f85 f42 f43
 rw [app_eq (by simp; omega),Option.bind_some,app_eq (by simp; omega),Option.bind_some,app_eq (by simp; omega),Option.bind_some,app_eq (by simp; omega),Option.bind_some,app_eq (by simp; omega),Option.bind_some]
 rfl
theorem flat_filter {α:Type} (p:α→Bool):∀ (xs:List α) (i:Int),lflat (fun x _=>if p x then [x] else []) xs i=xs.filter p
 | [],_=>rfl
 | x::xs,i=>by
  simp only [lflat]
  rw [flat_filter p xs,List.filter_cons]
  split <;> simp
def none4:Scene:=⟨⟨[],[],0,0,0⟩,[],[],[]⟩
def with2 (s:Scene) (g:Sight) (r:Scene × Int):Prop:=
 (chk s≠0→r=(none4,chk s))∧(SOk s→s.Sights.length=256→r=(none4,2))∧(SOk s→s.Sights.length≠256→¬ SightOk s g→r=(none4,51))∧(SOk s→s.Sights.length≠256→SightOk s g→r=({ s with Sights:=s.Sights++[g] },0))
theorem f53_eq (K:Nat) (s:Scene) (g:Sight) (hL:Lens s):Gets (f53 K s g) (with2 s g):=by
 unfold f53
 refine Gets.bind (f66_eq K s hL) fun a ha=>Gets.cond (fun h=>Gets.some ?_) fun h=>?_
 ·subst ha
  have h:chk s≠0:=by simpa using h
  exact⟨fun _=>rfl,fun h'=>absurd (chk_iff.2 h') h,fun h'=>absurd (chk_iff.2 h') h,fun h'=>absurd (chk_iff.2 h') h⟩
 subst ha
 have h0:chk s=0:=by simpa using h
 have hs:=chk_iff.1 h0
 have hm:=hs.m.1
 refine Gets.cond (fun h=>Gets.some ⟨fun h'=>absurd h0 h',fun _ _=>rfl,fun _ h'=>absurd (by simp at h; omega) h',fun _ h'=>absurd (by simp at h; omega) h'⟩) fun h=>Gets.bind (f130_eq K s g hL) fun r hr=>Gets.cond (fun h2=>Gets.some ⟨fun h'=>absurd h0 h',fun _ h'=>absurd h' (by simp at h; omega),fun _ _ _=>rfl,fun _ _ h'=>by rw [hr.2 h'] at h2; cases h2⟩) fun h2=>?_
 rw [f131_eq K s hs,Option.bind_some,app_eq (by simp; omega),Option.bind_some]
 exact Gets.some ⟨fun h'=>absurd h0 h',fun _ h'=>absurd h' (by simp at h; omega),fun _ _ h'=>absurd (hr.1 (by simpa using h2)) h',fun _ _ _=>rfl⟩
def wout2 (s:Scene) (n:Int) (r:Scene × Int):Prop:=(chk s≠0→r=(none4,chk s))∧(SOk s→r=({ s with Sights:=s.Sights.filter (fun x=>x.No != n) },0))
theorem f67_eq (K:Nat) (s:Scene) (n:Int) (hL:Lens s):Gets (f67 K s n) (wout2 s n):=by
 unfold f67
 refine Gets.bind (f66_eq K s hL) fun a ha=>Gets.cond (fun h=>Gets.some ?_) fun h=>?_
 ·subst ha
  have h:chk s≠0:=by simpa using h
  exact⟨fun _=>rfl,fun h'=>absurd (chk_iff.2 h') h⟩
 subst ha
 have h0:chk s=0:=by simpa using h
 have hs:=chk_iff.1 h0
 have hm:=hs.m.1
 rw [f131_eq K s hs,Option.bind_some]
 unfold f138
 refine Gets.bind (P:=(·={ s with Sights:=s.Sights.filter (fun x=>x.No != n) })) (Gets.bind (P:=(·=s.Sights.filter (fun x=>x.No != n))) (rngL_flat (fun x _=>if x.No != n then [x] else []) (fun acc v=>v=acc) (a0:=[]) (B:=256) (by rw [flat_filter]; exact Nat.le_trans (by simpa using List.length_filter_le _ _) hm) hL.g rfl (fun k x acc v nx hx hB hv hnx=>?_) fun v hv=>Gets.some (by rw [hv,flat_filter]; rfl)) fun v hv=>Gets.some (by rw [hv])) fun v hv=>Gets.some ⟨fun h'=>absurd h0 h',fun _=>by rw [hv]⟩
 subst hv
 simp only [f176,Option.bind_some]
 refine Gets.bind (P:=(·=v++if x.No != n then [x] else [])) (Gets.cond (fun h=>?_) fun h=>Gets.some (by rw [h]; simp)) fun w hw=>hnx _ hw
 simp only [h,if_true] at hB ⊢
 rw [app_eq (by simp at hB ⊢; omega),Option.bind_some]
 exact Gets.some rfl
end Go.Proofs.YthlchdnbokhclaaGreat.Ql
namespace Go.Proofs.YthlchdnbokhclaaGreat.Ql
open Go Go.Proofs.YthlchdnbokhclaaGreat.Bm
structure Nar (p0 p1:Scene):Prop where
 h0:SOk p0
 ex:∃ g c,p1=scn p0 g c∧SOk (scn p0 g c)∧(∀ x∈g,x∈p0.Sights)∧∀ x∈c,x∈p0.Changes
def Ins (a b:Span):Prop:=b.Lo≤a.Lo∧a.Hi≤b.Hi
theorem f68_in {K:Nat} {a b:Span} (h:Ins a b):f68 K a b=some true:=by
 unfold f68
 rw [show (decide (b.Lo≤a.Lo)&&decide (a.Hi≤b.Hi))=true by simp only [Bool.and_eq_true,decide_eq_true_eq]; exact h]
theorem nar_cel {p0 p1:Scene} (h:Nar p0 p1) {c d:Int} {r r':Span × Int} (hr:celQ p0 c d r) (hr':celQ p1 c d r') (h0:r.2=0):r'.2=0∧Ins r.1 r'.1:=by
 obtain⟨hS,g,c',rfl,hT,hg,hc⟩:=h
 have hP:∀ {π},Pot (EE p0) π→Pot (EE (scn p0 g c')) π:=fun hp=>pot_sub hg hc hp
 rcases hr with ⟨h1,_⟩ | ⟨_,_,h1⟩ | ⟨_,_,_,h1⟩ | ⟨_,h1,⟨π,h2⟩,x,y,h3,h4,h5⟩
 ·exact absurd hS h1
 ·subst h1; simp at h0
 ·subst h1; simp at h0
 ·rcases hr' with ⟨k1,_⟩ | ⟨_,k1,_⟩ | ⟨_,_,k1,_⟩ | ⟨_,_,_,x',y',k3,k4,k5⟩
  ·exact absurd hT k1
  ·exact absurd h1 k1
  ·exact absurd ⟨π,hP h2⟩ k1
  ·subst h5 k5
   have hsn:=sightNode_in h1.1 h1.2
   have a1:=k3.bot _ (hP h3.pot) h3.z (sightNode p0 c d).toNat (show _ < NN p0 by omega)
   have a2:=k4.top _ (hP h4.pot) h4.z (sightNode p0 c d).toNat (show _ < NN p0 by omega)
   exact⟨rfl,a1,a2⟩
theorem nar_val {p0 p1:Scene} (h:Nar p0 p1) {l:List Int} {d:Int} {r r':Span × Int} (hr:valQ p0 l d r) (hr':valQ p1 l d r') (h0:r.2=0):r'.2=0∧Ins r.1 r'.1:=by
 obtain⟨hS,g,c',rfl,hT,hg,hc⟩:=h
 have hP:∀ {π},Pot (EE p0) π→Pot (EE (scn p0 g c')) π:=fun hp=>pot_sub hg hc hp
 rcases hr with ⟨h1,_⟩ | ⟨_,_,h1⟩ | ⟨_,_,_,h1⟩ | ⟨_,h1,⟨π,h2⟩,x,y,h3,h4,h5⟩
 ·exact absurd hS h1
 ·subst h1; simp at h0
 ·subst h1; simp at h0
 ·have hcl:ClsOk (scn p0 g c') l:=⟨h1.1.pos,h1.1.rise,h1.1.all⟩
  rcases hr' with ⟨k1,_⟩ | ⟨_,k1,_⟩ | ⟨_,_,k1,_⟩ | ⟨_,_,_,x',y',k3,k4,k5⟩
  ·exact absurd hT k1
  ·exact absurd ⟨hcl,h1.2⟩ k1
  ·exact absurd ⟨π,hP h2⟩ k1
  ·subst h5 k5
   have hn:∀ no∈l,(sightNode p0 no d).toNat < NN p0:=fun no hno=>by have:=sightNode_in (h1.1.all no hno) h1.2; omega
   refine⟨rfl,?_,?_⟩
   ·exact vol_mono (d:=d) (x:=fun v=>x'.getD v 0) (y:=fun v=>x.getD v 0) hS h1.1.all fun no hno=>k3.bot _ (hP h3.pot) h3.z _ (hn no hno)
   ·exact vol_mono (d:=d) (x:=fun v=>y.getD v 0) (y:=fun v=>y'.getD v 0) hS h1.1.all fun no hno=>k4.top _ (hP h4.pot) h4.z _ (hn no hno)
theorem nar_los {p0 p1:Scene} (h:Nar p0 p1) {l:List Int} {a b:Int} {r r':Span × Int} (hr:losQ p0 l a b r) (hr':losQ p1 l a b r') (h0:r.2=0):r'.2=0∧Ins r.1 r'.1:=by
 obtain⟨hS,g,c',rfl,hT,hg,hc⟩:=h
 have hP:∀ {π},Pot (EE p0) π→Pot (EE (scn p0 g c')) π:=fun hp=>pot_sub hg hc hp
 rcases hr with ⟨h1,_⟩ | ⟨_,_,h1⟩ | ⟨_,_,_,h1⟩ | ⟨_,h1,⟨π,h2⟩,h3,h4⟩
 ·exact absurd hS h1
 ·subst h1; simp at h0
 ·subst h1; simp at h0
 ·rcases hr' with ⟨k1,_⟩ | ⟨_,k1,_⟩ | ⟨_,_,k1,_⟩ | ⟨_,_,_,k3,k4⟩
  ·exact absurd hT k1
  ·exact absurd ⟨⟨h1.cls.pos,h1.cls.rise,h1.cls.all⟩,h1.d1,h1.d2,h1.lt⟩ k1
  ·exact absurd ⟨π,hP h2⟩ k1
  ·obtain⟨_,⟨y,a1,a2,a3⟩,z,a4,a5,a6⟩:=h4
   have b1:=k4.all y (hP a1) a2
   have b2:=k4.all z (hP a4) a5
   have e1:∀ y,lossL (scn p0 g c') l a b y=lossL p0 l a b y:=fun y=>rfl
   rw [e1] at b1 b2
   exact⟨k3,by omega,by omega⟩
theorem basinNarrower_pure (s:Scene) (x:Sight) (n:Int) (l:List Int) (a b:Int) (h:wf30 s) (_:wf64 x) (_:wf3 n) (hl:wf26 l) (_:wf3 a) (_:wf3 b):∃ k,f11 k s x n l a b=some true:=by
 refine⟨4611686018427387904,?_⟩
 have hL:=Lens.wf h
 have hl:=wf_len hl.1
 have:Gets (f11 4611686018427387904 s x n l a b) (·=true):=by
  unfold f11
  refine Gets.bind_eq sane_ok (Gets.cond (fun h=>by simp at h) fun _=>?_)
  refine Gets.bind (P:=fun v=>v=false→(SOk s∧Small s)∧0 < l.length) (Gets.bind (f36_eq hL) fun k hk=>Gets.cond (fun _=>Gets.some (fun h=>by cases h)) fun h'=>Gets.some (fun h=>⟨hk.1 ?_,?_⟩)) fun v hv=>Gets.cond (fun _=>Gets.some rfl) fun h'=>?_
  ·cases k
   ·cases h'
   ·rfl
  ·have h9:¬ (l.length:Int)=0:=fun h8=>by
    have:((l.length:Int)==0)=true:=beq_iff_eq.2 h8
    rw [this] at h; cases h
   omega
  obtain⟨⟨hS,hSm⟩,hlp⟩:=hv h'
  have hm:=hSm.g
  refine Gets.bind (f53_eq _ s x hL) fun r1 h1=>Gets.bind (f67_eq _ s n hL) fun r2 h2=>?_
  have h2:=h2.2 hS
  subst h2
  obtain⟨more,e⟩:=r1
  have hmore:(e=51)∨(e=0∧SightOk s x∧more={ s with Sights:=s.Sights++[x] }):=by
   by_cases hx:SightOk s x
   ·have:=h1.2.2.2 hS (by omega) hx
    cases this
    exact .inr ⟨rfl,hx,rfl⟩
   ·have:=h1.2.2.1 hS (by omega) hx
    cases this
    exact .inl rfl
  have n1:Nar s (scn s (s.Sights.filter fun y=>y.No != n) s.Changes):=by
   have hsub:∀ y∈s.Sights.filter (fun y=>y.No != n),y∈s.Sights:=fun y hy=>(List.mem_filter.1 hy).1
   exact⟨hS,_,_,rfl,hS.scn (Nat.le_trans (List.length_filter_le _ _) hS.m.1) hS.m.2 (fun y hy=>hS.g y (hsub y hy)) hS.h,hsub,fun _ h=>h⟩
  refine Gets.cond (fun h3=>?_) fun _=>?_
  ·exfalso
   rcases hmore with rfl | ⟨rfl,_⟩ <;> simp at h3
  refine Gets.bind (P:=fun v=>v.length≤2∧∀ p∈v,Nar p.a0 p.a1) ?_ fun v hv=>?_
  ·refine Gets.cond (fun h3=>?_) fun h3=>Gets.some ⟨by simp,fun p hp=>by simp at hp; subst hp; exact n1⟩
   rcases hmore with rfl | ⟨rfl,hx,rfl⟩
   ·simp at h3
   ·rw [app_eq (by simp),Option.bind_some]
    refine Gets.some ⟨by simp,fun p hp=>?_⟩
    simp only [List.cons_append,List.nil_append,List.mem_cons,List.not_mem_nil,or_false] at hp
    rcases hp with rfl | rfl
    ·exact n1
    ·have hT:SOk (scn s (s.Sights++[x]) s.Changes):=hS.scn (by simp; omega) hS.m.2 (fun y hy=>by
      rcases List.mem_append.1 hy with h | h
      ·exact hS.g y h
      ·simp at h; subst h; exact hx) hS.h
     exact⟨hT,s.Sights,s.Changes,rfl,hS,fun y hy=>List.mem_append_left _ hy,fun _ h=>h⟩
  refine Gets.jo (fun _=>True) (fun _ _=>Gets.some rfl) fun j hj=>rngL_gets (fun _ _=>True) (by have:=hv.1; omega) trivial (fun k p _ nx hp _ hnx=>?_) fun _ h=>hj _ h
  have hN:=hv.2 p (List.mem_of_getElem? hp)
  have hL0:=Lens.of hN.h0
  have hL1:Lens p.a1:=by
   obtain⟨_,g,c,e,hT,_⟩:=hN
   rw [e]; exact Lens.of hT
  rw [ix_getD 0 (by omega) (by omega),Option.bind_some]
  refine Gets.bind (f33_eq hL0) fun r1 h1=>Gets.bind (f33_eq hL1) fun r2 h2=>Gets.bind (f39_eq hL0 hl) fun r3 h3=>Gets.bind (f39_eq hL1 hl) fun r4 h4=>Gets.bind (f40_eq hL0 hl) fun r5 h5=>Gets.bind (f40_eq hL1 hl) fun r6 h6=>?_
  have k1:=nar_cel hN h1 h2
  have k2:=nar_val hN h3 h4
  have k3:=nar_los hN h5 h6
  obtain⟨u1,e1⟩:=r1
  obtain⟨u2,e2⟩:=r2
  obtain⟨u3,e3⟩:=r3
  obtain⟨u4,e4⟩:=r4
  obtain⟨u5,e5⟩:=r5
  obtain⟨u6,e6⟩:=r6
  simp only at k1 k2 k3
  refine Gets.bind (P:=(·=false)) ?_ fun v hv=>by subst hv; exact hnx _ trivial
  have t3:∀ {o:Option Bool},o=(bif (e5==0) then (bif (e6 != 0) then some true else (f68 4611686018427387904 u5 u6).bind fun x171=>some (!x171)) else some false)→Gets o (·=false):=by
   rintro o rfl
   by_cases h0:e5=0
   ·obtain⟨a1,a2⟩:=k3 h0
    subst h0 a1
    simp only [beq_self_eq_true,cond_true,bne_self_eq_false,cond_false,f68_in a2,Option.bind_some]
    exact Gets.some rfl
   ·rw [show (e5==0)=false by simpa using h0]; exact Gets.some rfl
  have t2:∀ {o:Option Bool},o=(bif (e3==0) then (bif (e4 != 0) then some true else (f68 4611686018427387904 u3 u4).bind fun x157=>bif (!x157) then some true else (bif (e5==0) then (bif (e6 != 0) then some true else (f68 4611686018427387904 u5 u6).bind fun x171=>some (!x171)) else some false)) else (bif (e5==0) then (bif (e6 != 0) then some true else (f68 4611686018427387904 u5 u6).bind fun x171=>some (!x171)) else some false))→Gets o (·=false):=by
   rintro o rfl
   by_cases h0:e3=0
   ·obtain⟨a1,a2⟩:=k2 h0
    subst h0 a1
    simp only [beq_self_eq_true,cond_true,bne_self_eq_false,cond_false,f68_in a2,Option.bind_some,Bool.not_true]
    exact t3 rfl
   ·rw [show (e3==0)=false by simpa using h0]; exact t3 rfl
  by_cases h0:e1=0
  ·obtain⟨a1,a2⟩:=k1 h0
   subst h0 a1
   simp only [beq_self_eq_true,cond_true,bne_self_eq_false,cond_false,f68_in a2,Option.bind_some,Bool.not_true]
   exact t2 rfl
  ·rw [show (e1==0)=false by simpa using h0]
   exact t2 rfl
 exact this.out
end Go.Proofs.YthlchdnbokhclaaGreat.Ql

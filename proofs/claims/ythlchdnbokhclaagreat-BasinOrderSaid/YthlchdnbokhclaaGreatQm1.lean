import Derived.Test.YthlchdnbokhclaaGreatQd1
import Derived.Test.YthlchdnbokhclaaGreatQb1
import Derived.Test.YthlchdnbokhclaaGreatQs
import Derived.Test.YthlchdnbokhclaaGreatQr
set_option linter.all false
namespace Go.Proofs.YthlchdnbokhclaaGreat.Ql
open Go Go.Proofs.YthlchdnbokhclaaGreat.Bm
abbrev scn (s:Scene) (g:List Sight) (c:List Change):Scene:=⟨s.Basin,s.Days,g,c⟩
theorem SOk.scn {s:Scene} (h:SOk s) {g:List Sight} {c:List Change} (h1:g.length≤256) (h2:c.length≤256) (hg:∀ x∈g,SightOk s x) (hc:∀ x∈c,ChangeOk s x):SOk (scn s g c):=⟨h.b,h.d,⟨h1,h2⟩,hg,hc⟩
theorem pot_sub {s:Scene} {g:List Sight} {c:List Change} (hg:∀ x∈g,x∈s.Sights) (hc:∀ x∈c,x∈s.Changes) {π:Nat→Int} (h:Pot (EE s) π):Pot (EE (scn s g c)) π:=by
 rw [pot_lay] at h ⊢
 intro y hy
 rcases mem_lay.1 hy with h1 | h1 | ⟨i,x,h1,h2⟩ | ⟨i,x,h1,h2⟩
 ·exact h y (mem_lay.2 (.inl h1))
 ·exact h y (mem_lay.2 (.inr (.inl h1)))
 ·obtain⟨j,hj⟩:=List.mem_iff_getElem?.1 (hg x (List.mem_of_getElem? h1))
  have a1:=h _ (mem_lay.2 (.inr (.inr (.inl ⟨j,x,hj,List.mem_cons_self⟩))))
  have a2:=h _ (mem_lay.2 (.inr (.inr (.inl ⟨j,x,hj,List.mem_cons_of_mem _ List.mem_cons_self⟩))))
  simp only [gSight,List.mem_cons,List.not_mem_nil,or_false] at h2
  rcases h2 with rfl | rfl
  ·exact a1
  ·exact a2
 ·obtain⟨j,hj⟩:=List.mem_iff_getElem?.1 (hc x (List.mem_of_getElem? h1))
  have a1:=h _ (mem_lay.2 (.inr (.inr (.inr ⟨j,x,hj,List.mem_cons_self⟩))))
  have a2:=h _ (mem_lay.2 (.inr (.inr (.inr ⟨j,x,hj,List.mem_cons_of_mem _ List.mem_cons_self⟩))))
  simp only [gChange,List.mem_cons,List.not_mem_nil,or_false] at h2
  rcases h2 with rfl | rfl
  ·exact a1
  ·exact a2
theorem IsTop.congr {n:Nat} {E E':List Ed} (h:∀ π,Pot E π↔Pot E' π) {x:List Int} (k:IsTop n E x):IsTop n E' x:=⟨k.len,k.z,(h _).1 k.pot,fun π hp=>k.top π ((h π).2 hp)⟩
theorem IsBot.congr {n:Nat} {E E':List Ed} (h:∀ π,Pot E π↔Pot E' π) {x:List Int} (k:IsBot n E x):IsBot n E' x:=⟨k.len,k.z,(h _).1 k.pot,fun π hp=>k.bot π ((h π).2 hp)⟩
theorem fea_congr {s:Scene} {g:List Sight} {c:List Change} (hS:SOk s) (hT:SOk (scn s g c)) (hP:∀ π,Pot (EE (scn s g c)) π↔Pot (EE s) π):Fea (theNet (scn s g c)).Diffs↔Fea (theNet s).Diffs:=⟨fun⟨π,h⟩=>⟨π,(hP π).1 h⟩,fun⟨π,h⟩=>⟨π,(hP π).2 h⟩⟩
theorem gtQ.congr {s:Scene} {g:List Sight} {c:List Change} (hS:SOk s) (hT:SOk (scn s g c)) (hP:∀ π,Pot (EE (scn s g c)) π↔Pot (EE s) π) {r:List (List Int) × Int} (h:gtQ (scn s g c) r):gtQ s r:=by
 rcases h with ⟨h1,_⟩ | ⟨_,h1,h2⟩ | ⟨_,h1,x,h2,h3⟩
 ·exact absurd hT h1
 ·exact .inr (.inl ⟨hS,fun h=>h1 ((fea_congr hS hT hP).2 h),h2⟩)
 ·exact .inr (.inr ⟨hS,(fea_congr hS hT hP).1 h1,x,h2.congr hP,h3⟩)
theorem lsQ.congr {s:Scene} {g:List Sight} {c:List Change} (hS:SOk s) (hT:SOk (scn s g c)) (hP:∀ π,Pot (EE (scn s g c)) π↔Pot (EE s) π) {r:List (List Int) × Int} (h:lsQ (scn s g c) r):lsQ s r:=by
 rcases h with ⟨h1,_⟩ | ⟨_,h1,h2⟩ | ⟨_,h1,x,h2,h3⟩
 ·exact absurd hT h1
 ·exact .inr (.inl ⟨hS,fun h=>h1 ((fea_congr hS hT hP).2 h),h2⟩)
 ·exact .inr (.inr ⟨hS,(fea_congr hS hT hP).1 h1,x,h2.congr hP,h3⟩)
theorem valQ.congr {s:Scene} {g:List Sight} {c:List Change} (hS:SOk s) (hT:SOk (scn s g c)) (hP:∀ π,Pot (EE (scn s g c)) π↔Pot (EE s) π) {l:List Int} {d:Int} {r:Span × Int} (h:valQ (scn s g c) l d r):valQ s l d r:=by
 have hc:ClsOk (scn s g c) l↔ClsOk s l:=⟨fun h=>⟨h.pos,h.rise,h.all⟩,fun h=>⟨h.pos,h.rise,h.all⟩⟩
 rcases h with ⟨h1,_⟩ | ⟨_,h1,h2⟩ | ⟨_,h1,h2,h3⟩ | ⟨_,h1,h2,x,y,h3,h4,h5⟩
 ·exact absurd hT h1
 ·exact .inr (.inl ⟨hS,fun h=>h1 ⟨hc.2 h.1,h.2⟩,h2⟩)
 ·exact .inr (.inr (.inl ⟨hS,⟨hc.1 h1.1,h1.2⟩,fun h=>h2 ((fea_congr hS hT hP).2 h),h3⟩))
 ·exact .inr (.inr (.inr ⟨hS,⟨hc.1 h1.1,h1.2⟩,(fea_congr hS hT hP).1 h2,x,y,h3.congr hP,h4.congr hP,h5⟩))
theorem losQ.congr {s:Scene} {g:List Sight} {c:List Change} (hS:SOk s) (hT:SOk (scn s g c)) (hP:∀ π,Pot (EE (scn s g c)) π↔Pot (EE s) π) {l:List Int} {a b:Int} {r:Span × Int} (h:losQ (scn s g c) l a b r):losQ s l a b r:=by
 have hc:PerOk (scn s g c) l a b↔PerOk s l a b:=⟨fun h=>⟨⟨h.cls.pos,h.cls.rise,h.cls.all⟩,h.d1,h.d2,h.lt⟩,fun h=>⟨⟨h.cls.pos,h.cls.rise,h.cls.all⟩,h.d1,h.d2,h.lt⟩⟩
 rcases h with ⟨h1,_⟩ | ⟨_,h1,h2⟩ | ⟨_,h1,h2,h3⟩ | ⟨_,h1,h2,h3,h4⟩
 ·exact absurd hT h1
 ·exact .inr (.inl ⟨hS,fun h=>h1 (hc.2 h),h2⟩)
 ·exact .inr (.inr (.inl ⟨hS,hc.1 h1,fun h=>h2 ((fea_congr hS hT hP).2 h),h3⟩))
 ·refine .inr (.inr (.inr ⟨hS,hc.1 h1,(fea_congr hS hT hP).1 h2,h3,?_⟩))
  obtain⟨a1,⟨y,a2,a3,a4⟩,z,a5,a6,a7⟩:=h4
  exact⟨fun y hy hz=>a1 y ((hP y).2 hy) hz,⟨y,(hP y).1 a2,a3,a4⟩,z,(hP z).1 a5,a6,a7⟩
end Go.Proofs.YthlchdnbokhclaaGreat.Ql
namespace Go.Proofs.YthlchdnbokhclaaGreat.Ql
open Go
theorem Lens.wf {s:Scene} (h:wf30 s):Lens s:=by
 have:=h.Basin.Cells.1
 have:=h.Basin.Pairs.1
 have:=h.Days.1
 have:=h.Sights.1
 have:=h.Changes.1
 unfold maxLen at *
 exact⟨by omega,by omega,by omega,by omega,by omega⟩
theorem wf_len {n:Nat} (h:n≤maxLen):n≤9223372036854775807:=by unfold maxLen at h; omega
end Go.Proofs.YthlchdnbokhclaaGreat.Ql
namespace Go.Proofs.YthlchdnbokhclaaGreat.Ql
open Go Go.Proofs.YthlchdnbokhclaaGreat.Bm
theorem app_nil {α:Type} {xs:List α} (h:xs.length≤1000):app [] xs=some xs:=by rw [app_eq (by simp; omega)]; rfl
theorem basinOrder_pure (s:Scene) (l:List Int) (a b:Int) (h:wf30 s) (hl:wf26 l) (_:wf3 a) (_:wf3 b):∃ k,f6 k s l a b=some true:=by
 refine⟨4611686018427387904,?_⟩
 have hL:=Lens.wf h
 have hl:=wf_len hl.1
 have:Gets (f6 4611686018427387904 s l a b) (·=true):=by
  unfold f6
  refine Gets.bind_eq sane_ok (Gets.cond (fun h=>by simp at h) fun _=>?_)
  refine Gets.bind (f36_eq hL) fun k hk=>Gets.cond (fun _=>Gets.some rfl) fun h'=>?_
  have hS:=(hk.1 (by simpa using h')).1
  have hm:=hS.m
  unfold f42 f43
  rw [app_nil (by omega),Option.bind_some,app_nil (by omega),Option.bind_some]
  refine Gets.bind (P:=(·=s.Sights.reverse)) (Gets.bind (rev_gets s.Sights (by omega)) fun r hr=>Gets.some hr) fun g hg=>Gets.bind (P:=(·=s.Changes.reverse)) (Gets.bind (rev_gets s.Changes (by omega)) fun r hr=>Gets.some hr) fun c hc=>?_
  subst hg hc
  have hT:SOk (scn s s.Sights.reverse s.Changes.reverse):=hS.scn (by simp; omega) (by simp; omega) (fun x hx=>hS.g x (by simpa using hx)) (fun x hx=>hS.h x (by simpa using hx))
  have hP:∀ π,Pot (EE (scn s s.Sights.reverse s.Changes.reverse)) π↔Pot (EE s) π:=fun π=>
   ⟨fun h=>pot_sub (s:=scn s s.Sights.reverse s.Changes.reverse) (g:=s.Sights) (c:=s.Changes) (fun x hx=>by simpa using hx) (fun x hx=>by simpa using hx) h,fun h=>pot_sub (fun x hx=>by simpa using hx) (fun x hx=>by simpa using hx) h⟩
  have hLT:=Lens.of hT
  refine Gets.bind (f29_eq hL) fun r1 h1=>Gets.bind (f29_eq hLT) fun r1' h1'=>Gets.bind (f31_eq hL) fun r2 h2=>Gets.bind (f31_eq hLT) fun r2' h2'=>Gets.bind (f40_eq hL hl) fun r3 h3=>Gets.bind (f40_eq hLT hl) fun r3' h3'=>Gets.bind (f39_eq hL hl) fun r4 h4=>Gets.bind (f39_eq hLT hl) fun r4' h4'=>?_
  cases h1.uniq (gtQ.congr hS hT hP h1')
  cases h2.uniq (lsQ.congr hS hT hP h2')
  cases h3.uniq (losQ.congr hS hT hP h3')
  cases h4.uniq (valQ.congr hS hT hP h4')
  simp only [small_self h1.small,small_self h2.small,Option.bind_some,cond_true,beq_self_eq_true,decide_true]
  exact Gets.some rfl
 exact this.out
end Go.Proofs.YthlchdnbokhclaaGreat.Ql

import Derived.Test.YthlchdnbokhclaaGreatQd1
import Derived.Test.YthlchdnbokhclaaGreatQc1
import Derived.Test.YthlchdnbokhclaaGreatQb1
import Derived.Test.YthlchdnbokhclaaGreatQs
import Derived.Test.YthlchdnbokhclaaGreatQr
set_option linter.all false
namespace Go.Proofs.YthlchdnbokhclaaGreat.Ql
open Go Go.Proofs.YthlchdnbokhclaaGreat.Bm
abbrev scn (s:Scene) (g:List Sight) (c:List Change):Scene:=⟨s.Basin,s.Days,g,c⟩
theorem SOk.scn {s:Scene} (h:SOk s) {g:List Sight} {c:List Change} (h1:g.length≤256) (h2:c.length≤256) (hg:∀ x∈g,SightOk s x) (hc:∀ x∈c,ChangeOk s x):SOk (scn s g c):=⟨h.b,h.d,⟨h1,h2⟩,hg,hc⟩
theorem pot_sub {s:Scene} {g:List Sight} {c:List Change} (hg:∀ x∈g,x∈s.Sights) (hc:∀ x∈c,x∈s.Changes) {π:Nat→Int} (h:Pot (EE s) π):Pot (EE (scn s g c)) π:=by
 rw [pot_lay] at h ⊢
 intro y hy
 rcases mem_lay.1 hy with h1 | h1 | ⟨i,x,h1,h2⟩ | ⟨i,x,h1,h2⟩
 ·exact h y (mem_lay.2 (.inl h1))
 ·exact h y (mem_lay.2 (.inr (.inl h1)))
 ·obtain⟨j,hj⟩:=List.mem_iff_getElem?.1 (hg x (List.mem_of_getElem? h1))
  have a1:=h _ (mem_lay.2 (.inr (.inr (.inl ⟨j,x,hj,List.mem_cons_self⟩))))
  have a2:=h _ (mem_lay.2 (.inr (.inr (.inl ⟨j,x,hj,List.mem_cons_of_mem _ List.mem_cons_self⟩))))
  simp only [gSight,List.mem_cons,List.not_mem_nil,or_false] at h2
  rcases h2 with rfl | rfl
  ·exact a1
  ·exact a2
 ·obtain⟨j,hj⟩:=List.mem_iff_getElem?.1 (hc x (List.mem_of_getElem? h1))
  have a1:=h _ (mem_lay.2 (.inr (.inr (.inr ⟨j,x,hj,List.mem_cons_self⟩))))
  have a2:=h _ (mem_lay.2 (.inr (.inr (.inr ⟨j,x,hj,List.mem_cons_of_mem _ List.mem_cons_self⟩))))
  simp only [gChange,List.mem_cons,List.not_mem_nil,or_false] at h2
  rcases h2 with rfl | rfl
  ·exact a1
  ·exact a2
end Go.Proofs.YthlchdnbokhclaaGreat.Ql
namespace Go.Proofs.YthlchdnbokhclaaGreat.Ql
open Go Go.Proofs.YthlchdnbokhclaaGreat.Bm
abbrev onlyS (s:Scene) (p:Int→Bool):Scene:=scn s (s.Sights.filter fun g=>p g.No) s.Changes
def FeaO (s:Scene) (p:Int→Bool):Prop:=Fea (theNet (onlyS s p)).Diffs
theorem only_ok {s:Scene} (hS:SOk s) (p:Int→Bool):SOk (onlyS s p):=
 hS.scn (Nat.le_trans (List.length_filter_le _ _) hS.m.1) hS.m.2 (fun x hx=>hS.g x (List.mem_filter.1 hx).1) hS.h
theorem only_pot {s:Scene} {p q:Int→Bool} (h:∀ g∈s.Sights,p g.No=true→q g.No=true) {π:Nat→Int} (hp:Pot (EE (onlyS s q)) π):Pot (EE (onlyS s p)) π:=
 pot_sub (s:=onlyS s q) (g:=s.Sights.filter fun g=>p g.No) (c:=s.Changes) (fun x hx=>by
  obtain⟨h1,h2⟩:=List.mem_filter.1 hx
  exact List.mem_filter.2 ⟨h1,h x h1 h2⟩) (fun _ h=>h) hp
theorem FeaO.mono {s:Scene} {p q:Int→Bool} (h:∀ g∈s.Sights,p g.No=true→q g.No=true) (hq:FeaO s q):FeaO s p:=by
 obtain⟨π,hp⟩:=hq
 exact⟨π,only_pot h hp⟩
theorem filter_flat {α:Type} (p:α→Bool):∀ (xs:List α) (i:Int),lflat (fun x _=>if p x then [x] else []) xs i=xs.filter p
 | [],_=>rfl
 | x::xs,i=>by
  simp only [lflat]
  rw [filter_flat p xs,List.filter_cons]
  split <;> simp
theorem f138_eq {K:Nat} {s:Scene} (hS:SOk s) {q:Int→Option Bool} (p:Int→Bool) (hq:∀ n,q n=some (p n)):f138 K s q=some (onlyS s p):=by
 have hm:=hS.m.1
 have:Gets (f138 K s q) (·=onlyS s p):=by
  unfold f138
  refine Gets.bind (P:=(·=s.Sights.filter (fun x=>p x.No))) (rngL_flat (fun x _=>if p x.No then [x] else []) (fun acc v=>v=acc) (a0:=[]) (B:=256) (by rw [filter_flat]; exact Nat.le_trans (by simpa using List.length_filter_le _ _) hm) (by omega) rfl (fun k x acc v nx hx hB hv hnx=>?_) fun v hv=>Gets.some (by rw [hv,filter_flat]; rfl)) fun v hv=>Gets.some (by rw [hv])
  subst hv
  rw [hq,Option.bind_some]
  refine Gets.bind (P:=(·=v++if p x.No then [x] else [])) (Gets.cond (fun h=>?_) fun h=>Gets.some (by rw [h]; simp)) fun w hw=>hnx _ hw
  simp only [h,if_true] at hB ⊢
  rw [app_eq (by simp at hB ⊢; omega),Option.bind_some]
  exact Gets.some rfl
 exact this.out
def inL (l:List Int) (n:Int):Bool:=decide (n∈l)
def inW (l:List Int) (w n:Int):Bool:=decide (n≠w∧n∈l)
theorem f83_in {K:Nat} {l:List Int} {n:Int} (h:l.length≤9223372036854775807):f83 K l n=some (inL l n):=by
 rw [f83_eq K l n h]
 congr 1
 unfold inL
 rw [decide_eq_decide]
 constructor
 ·intro h1
  exact List.mem_of_getElem? (dayAt_spec h1)
 ·intro h1
  refine Classical.byContradiction fun hlt=>?_
  have:=(fidx_neg (p:=fun x:Int=>x==n) (xs:=l) (i:=0) (by omega)).1 (by unfold dayAt at hlt; omega) n h1
  simp at this
theorem f255_eq {K:Nat} {l:List Int} {w n:Int} (h:l.length≤9223372036854775807):f255 K n w l=some (inW l w n):=by
 unfold f255
 rw [f83_in h]
 by_cases h1:n=w
 ·subst h1; simp [inW]
 ·rw [show (n != w)=true by simpa using h1]
  simp [inW,inL,h1]
theorem f137_eq {s:Scene} (hS:SOk s):Gets (f137 4611686018427387904 s) fun r=>(r=true↔Fea (theNet s).Diffs):=by
 unfold f137
 refine Gets.bind (f31_eq (Lens.of hS)) fun r hr=>?_
 obtain⟨f,e⟩:=r
 refine Gets.some ?_
 rcases hr with ⟨h1,_⟩ | ⟨_,h1,h2⟩ | ⟨_,h1,x,_,h2⟩
 ·exact absurd hS h1
 ·cases h2; simp [h1]
 ·cases h2; simp [h1]
def ClR (s:Scene) (l:List Int):Prop:=¬ FeaO s (inL l)∧∀ n∈l,FeaO s (inW l n)
def clsQ (s:Scene) (l:List Int) (r:Int):Prop:=(¬ SOk s→r=chk s)∧(SOk s→(¬ Rise l→r=1)∧(Rise l→(ClR s l→r=0)∧(¬ ClR s l→r=43)))
theorem f78_eq {s:Scene} (hL:Lens s) {l:List Int} (hl:l.length≤9223372036854775807):Gets (f78 4611686018427387904 s l) (clsQ s l):=by
 unfold f78
 refine Gets.bind (f66_eq _ s hL) fun a ha=>Gets.cond (fun h=>Gets.some ?_) fun h=>?_
 ·subst ha
  have:=chk_ne.1 (show chk s≠0 by simpa using h)
  exact⟨fun _=>rfl,fun h'=>absurd h' this⟩
 subst ha
 have hS:=chk_iff.1 (show chk s=0 by simpa using h)
 refine Gets.bind (f174_eq _ l hl) fun b hb=>Gets.cond (fun h'=>Gets.some ⟨fun h2=>absurd hS h2,fun _=>⟨fun _=>rfl,fun h2=>?_⟩⟩) fun h'=>?_
 ·rw [hb.2 h2] at h'; cases h'
 have hR:Rise l:=hb.1 (by simpa using h')
 have ok:∀ {r},(ClR s l→r=0)∧(¬ ClR s l→r=43)→clsQ s l r:=fun h2=>⟨fun h3=>absurd hS h3,fun _=>⟨fun h3=>absurd hR h3,fun _=>h2⟩⟩
 rw [f138_eq hS (inL l) (fun n=>by unfold f184; rw [f83_in hl]; rfl),Option.bind_some]
 refine Gets.bind (f137_eq (only_ok hS _)) fun x hx=>Gets.cond (fun h2=>Gets.some (ok ⟨fun h3=>absurd (hx.1 h2) h3.1,fun _=>rfl⟩)) fun h2=>?_
 have hno:¬ FeaO s (inL l):=fun h3=>by rw [hx.2 h3] at h2; cases h2
 refine Gets.jo (fun _=>∀ n∈l,FeaO s (inW l n)) (fun _ h3=>Gets.some (ok ⟨fun _=>rfl,fun h4=>absurd ⟨hno,h3⟩ h4⟩)) fun j hj=>rngL_gets (fun k _=>∀ (i:Nat) n,i < k→l[i]?=some n→FeaO s (inW l n)) hl (fun i n h=>by omega) (fun k n _ nx hn hi hnx=>?_) fun _ h=>hj _ (all_to h)
 unfold f139
 dsimp only [Option.bind_some]
 rw [f138_eq hS (inW l n) (fun y=>f255_eq hl),Option.bind_some]
 refine Gets.bind (f137_eq (only_ok hS _)) fun x hx=>Gets.cond (fun h2=>Gets.some (ok ⟨fun h3=>?_,fun _=>rfl⟩)) fun h2=>hnx _ fun i m him e=>?_
 ·have:=hx.2 (h3.2 n (List.mem_of_getElem? hn))
  rw [this] at h2; cases h2
 ·by_cases hk:i=k
  ·subst hk; rw [hn] at e; cases e; exact hx.1 (by simpa using h2)
  ·exact hi i m (by omega) e
theorem erase_in {l:List Int} (h:Rise l) {i:Nat} {n:Int} (hn:l[i]?=some n) {y:Int}:y∈l.eraseIdx i↔y≠n∧y∈l:=by
 rw [List.mem_eraseIdx_iff_getElem?]
 constructor
 ·rintro⟨j,hj,e⟩
  refine⟨fun hy=>?_,List.mem_of_getElem? e⟩
  subst hy
  exact hj (h.inj e hn)
 ·rintro⟨h1,h2⟩
  obtain⟨j,e⟩:=List.mem_iff_getElem?.1 h2
  refine⟨j,fun hj=>?_,e⟩
  subst hj
  rw [hn] at e; cases e; exact h1 rfl
theorem inL_erase {l:List Int} (h:Rise l) {i:Nat} {n:Int} (hn:l[i]?=some n):inL (l.eraseIdx i)=inW l n:=by
 funext y
 unfold inL inW
 rw [decide_eq_decide]
 exact erase_in h hn
end Go.Proofs.YthlchdnbokhclaaGreat.Ql
namespace Go.Proofs.YthlchdnbokhclaaGreat.Ql
open Go Go.Proofs.YthlchdnbokhclaaGreat.Bm
theorem rise_pw {l:List Int}:Rise l↔l.Pairwise (· < ·):=by
 constructor
 ·intro h
  rw [List.pairwise_iff_getElem]
  intro i j hi hj hij
  exact h.lt hij (List.getElem?_eq_getElem hi) (List.getElem?_eq_getElem hj)
 ·intro h j d d' e e'
  rw [List.pairwise_iff_getElem] at h
  obtain⟨h1,rfl⟩:=List.getElem?_eq_some_iff.1 e
  obtain⟨h2,rfl⟩:=List.getElem?_eq_some_iff.1 e'
  exact h j (j+1) h1 h2 (by omega)
theorem Rise.erase {l:List Int} (h:Rise l) (i:Nat):Rise (l.eraseIdx i):=rise_pw.2 ((rise_pw.1 h).sublist (List.eraseIdx_sublist _ _))
theorem f84_eq {K:Nat} {l:List Int} {i:Int} (h0:0≤i) (h1:i < l.length) (hl:l.length≤1000000):f84 K l i (W (i+1))=some (l.eraseIdx i.toNat):=by
 rw [W_eq (by omega) (by omega)]
 unfold f84
 have b:∀ a c d:Int,0≤a→a≤c→c≤d→bnds a c d=some ():=fun a c d h1 h2 h3=>by unfold bnds; rw [if_pos ⟨h1,h2,h3⟩]
 rw [b _ _ _ h0 (by omega) (by omega),Option.bind_some,b _ _ _ h0 (by omega) (by omega),Option.bind_some,show (i==i+1)=false by rw [beq_eq_false_iff_ne]; omega,cond_false,b _ _ _ (by omega) h0 (by omega),Option.bind_some,b _ _ _ (by omega) (by omega) (by omega),Option.bind_some]
 have e1:vapp l i (i+1) (l.length:Int) l.length=some (l.eraseIdx i.toNat):=by
  unfold vapp
  rw [if_pos ⟨by omega,by omega,by omega,by omega,by omega,by omega⟩,List.eraseIdx_eq_take_drop_succ,show (i+1).toNat=i.toNat+1 by omega]
  rw [List.take_of_length_le (i:=(l.length:Int).toNat - (i.toNat+1)) (l:=l.drop (i.toNat+1)) (by simp)]
 have hlen:(l.eraseIdx i.toNat).length=l.length - 1:=by rw [List.length_eraseIdx,if_pos (by omega)]
 rw [e1,Option.bind_some,b _ _ _ (by omega) (by simp; omega) (by omega),Option.bind_some]
 unfold vown clrI clr
 have e2:(((Int.toNat ((l.eraseIdx i.toNat).length:Int) - Int.toNat 0:Nat):Int)).toNat=(l.eraseIdx i.toNat).length:=by simp
 rw [e2,if_pos ⟨by omega,by simp; omega⟩,Option.bind_some,show (((l.eraseIdx i.toNat).length:Int)).toNat=(l.eraseIdx i.toNat).length from rfl]
 simp
structure LeastQ (l:List Int) (P:List Int→Bool) (r:List Int):Prop where
 rise:Rise r
 sub:∀ x∈r,x∈l
 has:P l=true→P r=true
 min:∀ i,i < r.length→P (r.eraseIdx i)=false
 len:r.length≤l.length
theorem f135_eq {l:List Int} {q:List Int→Option Bool} {P:List Int→Bool} (hl:Rise l) (hll:l.length≤1000000) (hq:∀ x:List Int,x.length≤l.length→q x=some (P x)) (hm:∀ a b,Rise a→Rise b→(∀ x∈a,x∈b)→P a=true→P b=true):Gets (f135 4611686018427387904 l q) (LeastQ l P):=by
 have e85:∀ z:List Int,z.length≤1000000→f85 4611686018427387904 z=some z:=fun z hz=>by unfold f85; rw [app_eq (by simp; omega)]; rfl
 unfold f135
 rw [e85 l hll,Option.bind_some]
 refine Gets.bind (P:=LeastQ l P) ?_ fun r hr=>Gets.some hr
 refine whl_gets (fun v:List Int × Int=>Rise v.1∧(∀ x∈v.1,x∈l)∧(P l=true→P v.1=true)∧0≤v.2∧v.2≤v.1.length∧v.1.length≤l.length∧∀ j:Nat,(j:Int) < v.2→P (v.1.eraseIdx j)=false) (fun v=>(2*v.1.length - v.2).toNat) ?_ ⟨hl,fun _ h=>h,fun h=>h,Int.le_refl _,by simp,Nat.le_refl _,fun j h=>by simp only at h; omega⟩ (by simp only; omega)
 rintro⟨v,i⟩ nx ⟨h1,h2,h3,h4,h5,h6,h7⟩ hnx
 simp only at h1 h2 h3 h4 h5 h6 h7
 refine Gets.cond (fun h=>?_) fun h=>Gets.some ⟨h1,h2,h3,fun j hj=>h7 j ?_,h6⟩
 ·have h:i < v.length:=of_decide_eq_true h
  have hlen:(v.eraseIdx i.toNat).length=v.length - 1:=by rw [List.length_eraseIdx,if_pos (by omega)]
  have hi:v[i.toNat]?=some v[i.toNat]:=List.getElem?_eq_getElem (by omega)
  rw [e85 v (by omega),Option.bind_some,f84_eq h4 h (by omega),Option.bind_some,hq _ (by omega),Option.bind_some]
  cases hP:P (v.eraseIdx i.toNat)
  ·rw [cond_false,Option.bind_some,W_eq (by omega) (by omega)]
   refine hnx _ ⟨h1,h2,h3,by simp only; omega,by simp only; omega,h6,fun j hj=>?_⟩ (by simp only; omega)
   simp only at hj
   by_cases hji:(j:Int)=i
   ·rw [show j=i.toNat by omega]; exact hP
   ·exact h7 j (by omega)
  ·rw [cond_true,Option.bind_some]
   refine hnx _ ⟨h1.erase _,fun x hx=>h2 x ((erase_in h1 hi).1 hx).2,fun _=>hP,h4,by simp only; omega,by simp only; omega,fun j hj=>?_⟩ (by simp only; omega)
   simp only at hj ⊢
   have hj2:v[j]?=some v[j]:=List.getElem?_eq_getElem (by omega)
   have hj3:(v.eraseIdx i.toNat)[j]?=some v[j]:=by rw [List.getElem?_eraseIdx_of_lt (by omega)]; exact hj2
   cases hc:P ((v.eraseIdx i.toNat).eraseIdx j)
   ·rfl
   ·have:=hm _ (v.eraseIdx j) ((h1.erase _).erase _) (h1.erase _) (fun x hx=>by
     obtain⟨a1,a2⟩:=(erase_in (h1.erase _) hj3).1 hx
     exact(erase_in h1 hj2).2 ⟨a1,((erase_in h1 hi).1 a2).2⟩) hc
    rw [h7 j hj] at this; cases this
 ·have h:¬ i < v.length:=of_decide_eq_false h
  omega
def SameIn (n:Nat) (v xs:List Int):Prop:=(∀ k,k < n→∃ k',k' < n∧v.getD k 0=xs.getD k' 0)∧∀ k,k < n→∃ k',k' < n∧xs.getD k 0=v.getD k' 0
theorem f319_eq {K:Nat} {a b:Int}:f319 K a b=some (decide (a < b)):=by
 unfold f319 f350
 simp
theorem f313_eq {xs:List Int} (hn:xs.length≤1000):Gets (f313 4611686018427387904 xs 0 xs.length) fun r=>r.length=xs.length∧SameIn xs.length r xs∧∀ a b,a < b→b < xs.length→r.getD a 0≤r.getD b 0:=by
 unfold f313
 refine Gets.bind (P:=fun r=>r.length=xs.length∧SameIn xs.length r xs∧∀ a b,a < b→b < xs.length→r.getD a 0≤r.getD b 0) ?_ fun r hr=>Gets.some hr
 rw [show W (0+1)=1 by decide]
 refine rngN_gets (fun i v=>v.length=xs.length∧SameIn xs.length v xs∧∀ a b:Nat,a < b→(b:Int) < i→b < xs.length→v.getD a 0≤v.getD b 0) ⟨by omega,by omega⟩ ⟨rfl,⟨fun k hk=>⟨k,hk,rfl⟩,fun k hk=>⟨k,hk,rfl⟩⟩,fun a b h1 h2=>by omega⟩ (fun i v nx h0 h1 ⟨h2,h3,h4⟩ hnx=>?_) fun i v h0 h1 h2 h3 ⟨h4,h5,h6⟩=>Gets.some ⟨h4,h5,fun a b hab hb=>h6 a b hab (by omega) hb⟩
 refine Gets.bind (P:=fun w=>w.length=xs.length∧SameIn xs.length w xs∧∀ a b:Nat,a < b→(b:Int)≤i→b < xs.length→w.getD a 0≤w.getD b 0) ?_ fun w hw=>hnx _ ⟨hw.1,hw.2.1,fun a b hab hb hb2=>hw.2.2 a b hab (by omega) hb2⟩
 refine whl_gets (fun v:List Int × Int=>v.1.length=xs.length∧SameIn xs.length v.1 xs∧0≤v.2∧v.2≤i∧∀ a b:Nat,a < b→(b:Int)≤i→b < xs.length→(b:Int)≠v.2→v.1.getD a 0≤v.1.getD b 0) (fun v=>v.2.toNat) ?_ ⟨h2,h3,by simp only; omega,Int.le_refl _,fun a b hab hb hb2 hne=>h4 a b hab (by simp only at hne; omega) hb2⟩ (by simp only; omega)
 rintro⟨v,j⟩ nx2 ⟨k1,k2,k3,k4,k5⟩ hnx2
 simp only at k1 k2 k3 k4 k5
 refine Gets.bind (P:=fun r=>(r=true↔0 < j∧v.getD j.toNat 0 < v.getD (j - 1).toNat 0)) (Gets.cond (fun h=>?_) fun h=>Gets.some ?_) fun r hr=>Gets.cond (fun h=>?_) fun h=>Gets.some ⟨k1,k2,fun a b hab hb hb2=>?_⟩
 ·have h:0 < j:=by have:=of_decide_eq_true h; omega
  rw [W_eq (by omega) (by omega),ix_getD 0 k3 (by omega),Option.bind_some,ix_getD 0 (by omega) (by omega),Option.bind_some,f319_eq,Option.bind_some]
  refine Gets.some ?_
  rw [decide_eq_true_eq]
  exact⟨fun h'=>⟨h,h'⟩,fun h'=>h'.2⟩
 ·have h:¬ 0 < j:=by have:=of_decide_eq_false h; omega
  exact⟨fun h'=>(by cases h'),fun h'=>absurd h'.1 h⟩
 ·obtain⟨h5,h6⟩:=hr.1 h
  rw [W_eq (by omega) (by omega),ix_getD 0 (i:=j - 1) (by omega) (by omega),Option.bind_some,ix_getD 0 k3 (by omega),Option.bind_some,ix_getD 0 (i:=j - 1) (by omega) (by simp; omega),Option.bind_some]
  have hg:∀ k:Nat,((v.set j.toNat (v.getD (j - 1).toNat 0)).set (j - 1).toNat (v.getD j.toNat 0)).getD k 0=if k=(j - 1).toNat then v.getD j.toNat 0 else if k=j.toNat then v.getD (j - 1).toNat 0 else v.getD k 0:=fun k=>by
   rw [getD_set (by simp; omega),getD_set (by omega)]
  refine hnx2 _ ⟨by simp [k1],⟨fun k hk=>?_,fun k hk=>?_⟩,by simp only; omega,by simp only; omega,fun a b hab hb hb2 hne=>?_⟩ (by simp only; omega)
  ·simp only [hg]
   split
   ·exact k2.1 _ (by omega)
   ·split
    ·exact k2.1 _ (by omega)
    ·exact k2.1 _ hk
  ·obtain⟨k',q1,q2⟩:=k2.2 k hk
   by_cases e1:k'=j.toNat
   ·exact⟨(j - 1).toNat,by omega,by rw [hg,if_pos rfl,q2,e1]⟩
   ·by_cases e2:k'=(j - 1).toNat
    ·exact⟨j.toNat,by omega,by rw [hg,if_neg (by omega),if_pos rfl,q2,e2]⟩
    ·exact⟨k',q1,by rw [hg,if_neg e2,if_neg e1,q2]⟩
  ·simp only at hne
   simp only [hg]
   by_cases b1:b=j.toNat
   ·rw [if_neg (show ¬ b=(j - 1).toNat by omega),if_pos b1]
    by_cases a1:a=(j - 1).toNat
    ·rw [if_pos a1]; omega
    ·rw [if_neg a1,if_neg (by omega)]
     exact k5 a (j - 1).toNat (by omega) (by omega) (by omega) (by omega)
   ·rw [if_neg (show ¬ b=(j - 1).toNat by omega),if_neg b1]
    by_cases a1:a=(j - 1).toNat
    ·rw [if_pos a1]
     exact k5 j.toNat b (by omega) hb hb2 (by omega)
    ·rw [if_neg a1]
     by_cases a2:a=j.toNat
     ·rw [if_pos a2]
      exact k5 (j - 1).toNat b (by omega) hb hb2 (by omega)
     ·rw [if_neg a2]
      exact k5 a b hab hb hb2 (by omega)
 ·have h:¬ (0 < j∧v.getD j.toNat 0 < v.getD (j - 1).toNat 0):=fun h'=>by rw [hr.2 h'] at h; cases h
  by_cases hbj:(b:Int)=j
  ·have e1:j.toNat=b:=by omega
   rw [e1] at h
   have h:v.getD (j - 1).toNat 0≤v.getD b 0:=by omega
   by_cases ha:a=(j - 1).toNat
   ·rw [ha]; exact h
   ·have:=k5 a (j - 1).toNat (by omega) (by omega) (by omega) (by omega)
    exact Int.le_trans this h
  ·exact k5 a b hab hb hb2 hbj
theorem f254_all:∀ n:Nat,n≤12→∃ r,f254 4611686018427387904 (IntKind.wrap .u64 (n:Int))=some r:=by
 have h:∀ n:Nat,n≤12→(f254 4611686018427387904 (IntKind.wrap .u64 (n:Int))).isSome=true:=by decide +kernel
 exact fun n hn=>Option.isSome_iff_exists.1 (h n hn)
theorem f133_eq {xs:List Int} (hn:xs.length≤12):Gets (f133 4611686018427387904 xs) fun r=>r.length=xs.length∧SameIn xs.length r xs∧∀ a b,a < b→b < xs.length→r.getD a 0≤r.getD b 0:=by
 unfold f133
 obtain⟨m,hm⟩:=f254_all xs.length hn
 rw [hm,Option.bind_some]
 unfold f253
 refine Gets.bind (P:=fun r=>r.length=xs.length∧SameIn xs.length r xs∧∀ a b,a < b→b < xs.length→r.getD a 0≤r.getD b 0) ?_ fun r hr=>Gets.some hr
 refine whl_count (fun _ _=>True) 0 ?_ (k:=0) trivial (by omega) (by omega)
 intro k v nx _ _ _
 rw [W_eq (by omega) (by omega),show decide ((xs.length:Int) - 0≤12)=true by rw [decide_eq_true_eq]; omega,cond_true]
 exact Gets.bind (f313_eq (by omega)) fun r hr=>Gets.some hr
end Go.Proofs.YthlchdnbokhclaaGreat.Ql
namespace Go.Proofs.YthlchdnbokhclaaGreat.Ql
open Go Go.Proofs.YthlchdnbokhclaaGreat.Bm
theorem SameIn.mem {v xs:List Int} (h:SameIn xs.length v xs) (hl:v.length=xs.length) (x:Int):x∈v↔x∈xs:=by
 constructor
 ·intro hx
  obtain⟨i,hi⟩:=List.mem_iff_getElem?.1 hx
  obtain⟨k,h1,h2⟩:=h.1 i (by have:=(List.getElem?_eq_some_iff.1 hi).1; omega)
  rw [List.getD_eq_getElem?_getD,hi] at h2
  have h2:x=xs.getD k 0:=h2
  rw [h2]; exact getD_mem h1
 ·intro hx
  obtain⟨i,hi⟩:=List.mem_iff_getElem?.1 hx
  obtain⟨k,h1,h2⟩:=h.2 i (List.getElem?_eq_some_iff.1 hi).1
  rw [List.getD_eq_getElem?_getD,hi] at h2
  have h2:x=v.getD k 0:=h2
  rw [h2]; exact getD_mem (by omega)
structure CompQ (xs r:List Int):Prop where
 rise:Rise r
 mem:∀ x,x∈r↔x∈xs
 len:r.length≤xs.length
theorem rise_getD {l:List Int}:Rise l↔∀ j,j+1 < l.length→l.getD j 0 < l.getD (j+1) 0:=by
 constructor
 ·intro h j hj
  rw [List.getD_eq_getElem?_getD,List.getD_eq_getElem?_getD,List.getElem?_eq_getElem (by omega),List.getElem?_eq_getElem (by omega)]
  exact h j _ _ (List.getElem?_eq_getElem (by omega)) (List.getElem?_eq_getElem hj)
 ·intro h j d d' e e'
  have:=h j (List.getElem?_eq_some_iff.1 e').1
  rw [List.getD_eq_getElem?_getD,List.getD_eq_getElem?_getD,e,e'] at this
  exact this
theorem f134_eq {K:Nat} {xs:List Int} (hn:xs.length≤1000) (hs:∀ a b,a < b→b < xs.length→xs.getD a 0≤xs.getD b 0):Gets (f134 K xs) (CompQ xs):=by
 have b:∀ a c d:Int,0≤a→a≤c→c≤d→bnds a c d=some ():=fun a c d h1 h2 h3=>by unfold bnds; rw [if_pos ⟨h1,h2,h3⟩]
 have vx:∀ a c d:Int,0≤a→0≤d→d < c - a→vix a c d=some ():=fun a c d h1 h2 h3=>by unfold vix; rw [if_pos ⟨h1,h2,h3⟩]
 unfold f134
 refine Gets.cond (fun h=>Gets.some ⟨?_,fun x=>Iff.rfl,Nat.le_refl _⟩) fun h=>?_
 ·have:=of_decide_eq_true h
  exact rise_getD.2 fun j hj=>by omega
 have h2:2≤xs.length:=by have:=of_decide_eq_false h; omega
 refine Gets.jo (fun _=>∀ j,j+1 < xs.length→xs.getD j 0 < xs.getD (j+1) 0) (fun _ h1=>Gets.some ⟨rise_getD.2 h1,fun x=>Iff.rfl,Nat.le_refl _⟩) fun j hj=>rngN_gets (fun i _=>∀ j:Nat,(j:Int)+1 < i→j+1 < xs.length→xs.getD j 0 < xs.getD (j+1) 0) ⟨by omega,by omega⟩ (fun j h1 h2=>by omega) (fun i _ nx h0 h1 hi hnx=>?_) fun i _ h0 h1 h2 h3 hi=>hj _ fun j hj=>hi j (by omega) hj
 have hle:=hs (i - 1).toNat i.toNat (by omega) (by omega)
 rw [ix_getD 0 (by omega) h1,Option.bind_some,W_eq (by omega) (by omega),ix_getD 0 (by omega) (by omega),Option.bind_some]
 refine Gets.cond (fun h3=>?_) fun h3=>hnx _ fun j hj1 hj2=>?_
 ·have h3:xs.getD i.toNat 0=xs.getD (i - 1).toNat 0:=by simpa only [beq_iff_eq] using h3
  rw [b _ _ _ (by omega) (by omega) (by omega),Option.bind_some]
  refine Gets.bind (P:=fun v:List Int × Int=>v.1.length=xs.length∧0≤v.2∧v.2≤xs.length∧(∀ a:Nat,(a:Int)+1 < v.2→v.1.getD a 0 < v.1.getD (a+1) 0)∧(∀ a:Nat,(a:Int) < v.2→∃ c,c < xs.length∧v.1.getD a 0=xs.getD c 0)∧∀ c,c < xs.length→∃ a:Nat,(a:Int) < v.2∧xs.getD c 0=v.1.getD a 0) ?_ fun v hv=>?_
  ·refine rngN_gets (fun(m:Int) (v:List Int × Int)=>v.1.length=xs.length∧i≤v.2∧v.2≤i+m - 1∧(∀ a:Nat,(a:Int)+1 < v.2→v.1.getD a 0 < v.1.getD (a+1) 0)∧(∀ a:Nat,(a:Int) < v.2→∃ c,c < xs.length∧v.1.getD a 0=xs.getD c 0)∧(∀ c:Nat,(c:Int) < i+m→c < xs.length→∃ a:Nat,(a:Int) < v.2∧xs.getD c 0=v.1.getD a 0)∧v.1.getD (v.2 - 1).toNat 0=xs.getD (i+m - 1).toNat 0∧∀ c:Nat,i+m - 1≤c→v.1.getD c 0=xs.getD c 0) ⟨by omega,by omega⟩ ⟨rfl,Int.le_refl _,by simp only; omega,fun a ha=>hi a (by simp only at ha; omega) (by simp only at ha; omega),fun a ha=>⟨a,by simp only at ha; omega,rfl⟩,fun c hc hcl=>?_,by simp only; rw [← h3]; congr 1; omega,fun c _=>rfl⟩ (fun m v nx2 hm0 hm1 hv hnx2=>?_) fun m v hm0 hm1 hm2 hm3 hv=>Gets.some ?_
   ·by_cases hci:(c:Int)=i
    ·exact⟨(i - 1).toNat,by simp only; omega,by simp only; rw [← h3]; congr 1; omega⟩
    ·exact⟨c,by simp only; omega,rfl⟩
   ·obtain⟨v,t⟩:=v
    obtain⟨k1,k2,k3,k4,k5,k6,k7,k8⟩:=hv
    simp only at k1 k2 k3 k4 k5 k6 k7 k8
    have hm1:m < (xs.length:Int) - i:=by omega
    have e1:=k8 (i+m).toNat (by omega)
    have e2:=k8 (i+m - 1).toNat (by omega)
    have hle2:=hs (i+m - 1).toNat (i+m).toNat (by omega) (by omega)
    dsimp only
    rw [vx _ _ _ (by omega) (by omega) (by omega),Option.bind_some,ix_getD 0 (by omega) (by omega),Option.bind_some,W_eq (by omega) (by omega),vx _ _ _ (by omega) (by omega) (by omega),Option.bind_some,ix_getD 0 (by omega) (by omega),Option.bind_some,show i+(m - 1)=i+m - 1 by omega,e1,e2]
    have en:((i+(m+1) - 1).toNat)=(i+m).toNat:=by omega
    refine Gets.bind (P:=fun w:List Int × Int=>(xs.getD (i+m).toNat 0=xs.getD (i+m - 1).toNat 0∧w=(v,t))∨(xs.getD (i+m - 1).toNat 0 < xs.getD (i+m).toNat 0∧w=(v.set t.toNat (xs.getD (i+m).toNat 0),t+1))) (Gets.cond (fun h4=>?_) fun h4=>Gets.some (.inl ⟨by simpa only [bne_eq_false_iff_eq] using h4,rfl⟩)) fun w hw=>?_
    ·have h4:xs.getD (i+m).toNat 0≠xs.getD (i+m - 1).toNat 0:=by simpa only [bne_iff_ne,ne_eq] using h4
     rw [Option.bind_some,ix_getD 0 (by omega) (by omega),Option.bind_some,W_eq (by omega) (by omega)]
     exact Gets.some (.inr ⟨by omega,rfl⟩)
    ·rcases hw with ⟨h4,rfl⟩ | ⟨h4,rfl⟩
     ·refine hnx2 _ ⟨k1,k2,by simp only; omega,k4,k5,fun c hc hcl=>?_,?_,fun c hc=>k8 c (by omega)⟩
      ·by_cases hcm:(c:Int)=i+m
       ·refine⟨(t - 1).toNat,by simp only; omega,?_⟩
        simp only
        rw [k7,← h4,show c=(i+m).toNat by omega]
       ·exact k6 c (by omega) hcl
      ·simp only
       rw [en,k7,h4]
     ·have hg:∀ k:Nat,(v.set t.toNat (xs.getD (i+m).toNat 0)).getD k 0=if k=t.toNat then xs.getD (i+m).toNat 0 else v.getD k 0:=fun k=>getD_set (by omega) k
      refine hnx2 _ ⟨by simp [k1],by simp only; omega,by simp only; omega,fun a ha=>?_,fun a ha=>?_,fun c hc hcl=>?_,?_,fun c hc=>?_⟩
      ·simp only at ha ⊢
       rw [hg,hg,if_neg (by omega)]
       by_cases h5:a+1=t.toNat
       ·rw [if_pos h5]
        have h6:(t - 1).toNat=a:=by omega
        rw [h6] at k7
        omega
       ·rw [if_neg h5]; exact k4 a (by omega)
      ·simp only at ha ⊢
       rw [hg]
       split
       ·exact⟨(i+m).toNat,by omega,rfl⟩
       ·exact k5 a (by omega)
      ·simp only
       by_cases hcm:(c:Int)=i+m
       ·exact⟨t.toNat,by omega,by rw [hg,if_pos rfl,show c=(i+m).toNat by omega]⟩
       ·obtain⟨a,a1,a2⟩:=k6 c (by omega) hcl
        exact⟨a,by omega,by rw [hg,if_neg (by omega)]; exact a2⟩
      ·simp only
       rw [hg,if_pos (by omega),en]
      ·simp only
       rw [hg,if_neg (by omega)]
       exact k8 c (by omega)
   ·obtain⟨v,t⟩:=v
    obtain⟨k1,k2,k3,k4,k5,k6,k7,k8⟩:=hv
    simp only at k1 k2 k3 k4 k5 k6
    exact⟨k1,by simp only; omega,by simp only; omega,k4,k5,fun c hc=>k6 c (by omega) hc⟩
  ·obtain⟨v,t⟩:=v
   obtain⟨k1,k2,k3,k4,k5,k6⟩:=hv
   simp only at k1 k2 k3 k4 k5 k6
   have hcl:(clrI v t (v.length:Int) 0).length=v.length:=by unfold clrI clr; simp; omega
   dsimp only
   rw [b _ _ _ (by omega) (by omega) (by omega),Option.bind_some,b _ _ _ (by omega) (by omega) (by omega),Option.bind_some]
   have hv:vown (clrI v t (v.length:Int) 0) t=some (v.take t.toNat):=by
    unfold vown
    rw [if_pos ⟨by omega,by omega⟩]
    unfold clrI clr
    rw [List.append_assoc,List.take_append_of_le_length (by simp; omega),List.take_take]
    simp
   rw [hv,Option.bind_some]
   have hg:∀ a:Nat,(a:Int) < t→(v.take t.toNat).getD a 0=v.getD a 0:=fun a ha=>by
    rw [List.getD_eq_getElem?_getD,List.getElem?_take_of_lt (by omega),← List.getD_eq_getElem?_getD]
   have hl:(v.take t.toNat).length=t.toNat:=by simp; omega
   refine Gets.some ⟨rise_getD.2 fun a ha=>?_,fun x=>⟨fun hx=>?_,fun hx=>?_⟩,by omega⟩
   ·rw [hg _ (by omega),hg _ (by omega)]
    exact k4 a (by omega)
   ·obtain⟨a,ha⟩:=List.mem_iff_getElem?.1 hx
    have hal:=(List.getElem?_eq_some_iff.1 ha).1
    obtain⟨c,c1,c2⟩:=k5 a (by omega)
    rw [← hg a (by omega),List.getD_eq_getElem?_getD,ha] at c2
    have c2:x=xs.getD c 0:=c2
    rw [c2]; exact getD_mem c1
   ·obtain⟨c,hc⟩:=List.mem_iff_getElem?.1 hx
    obtain⟨a,a1,a2⟩:=k6 c (List.getElem?_eq_some_iff.1 hc).1
    rw [← hg a a1,List.getD_eq_getElem?_getD,hc] at a2
    have a2:x=(v.take t.toNat).getD a 0:=a2
    rw [a2]; exact getD_mem (by omega)
 ·have h3:¬ xs.getD i.toNat 0=xs.getD (i - 1).toNat 0:=by simpa only [beq_eq_false_iff_ne,ne_eq] using h3
  by_cases hji:(j:Int)+1=i
  ·have e1:j=(i - 1).toNat:=by omega
   have e2:j+1=i.toNat:=by omega
   rw [e2,e1]
   omega
  ·exact hi j (by omega) hj2
end Go.Proofs.YthlchdnbokhclaaGreat.Ql
namespace Go.Proofs.YthlchdnbokhclaaGreat.Ql
open Go Go.Proofs.YthlchdnbokhclaaGreat.Bm
structure Round (n:Net) (ds:List Diff):Prop where
 pos:0 < ds.length
 mem:∀ d∈ds,d∈n.Diffs
 neg:∃ a x,pth ds a 0=some (a,x)∧x < 0
 inj:∀ (i j:Nat) d d',i < j→ds[i]?=some d→ds[j]?=some d'→d.From≠d'.From
theorem upL_sum {n:Nat} {l:List Diff} (hl:LOk n l) {src:Nat→Bool} {s:S} (hi:Inv (edg l) src s):∀ {ks:List Nat} {b a:Nat},UpL (edg l) s.p b ks a→∃ (ds:List Diff) (x:Int),ds.length=ks.length∧(∀ (j k:Nat),ks.reverse[j]?=some k→∃ d:Diff,l[k]?=some d∧ds[j]?=some d)∧pth ds (a:Int) 0=some ((b:Int),x)∧Up (edg l) s.p b a ks.length x
 | [],b,a,h=>by
  simp only [UpL] at h; subst h
  exact⟨[],0,rfl,fun j k h=>by simp at h,by simp [pth],.nil⟩
 | k::ks,b,a,h=>by
  obtain⟨h1,e,h2,h3⟩:=h
  obtain⟨ds,x,h4,h5,h6,h6'⟩:=upL_sum hl hi h3
  obtain⟨d,h7,rfl⟩:=edg_of h2
  obtain⟨_,e',h8,h9,_⟩:=hi.par _ _ h1
  rw [h2] at h8; cases h8
  have hd:=hl d (List.mem_of_getElem? h7)
  have f0:=hd.f0
  have t0:=hd.t0
  simp only [E1] at h6 h9 h6'
  have hup:=(Up.nil.snoc h1 h2).trans h6'
  simp only [E1] at hup
  refine⟨ds++[d],x+d.Most,by simp [h4],fun j q hj=>?_,?_,?_⟩
  ·rw [List.reverse_cons] at hj
   by_cases hlt:j < ks.length
   ·rw [List.getElem?_append_left (by simpa using hlt)] at hj
    obtain⟨d',a1,a2⟩:=h5 j q hj
    exact⟨d',a1,by rw [List.getElem?_append_left (by omega)]; exact a2⟩
   ·rw [List.getElem?_append_right (by simpa using (by omega:ks.length≤j))] at hj
    simp only [List.length_reverse] at hj
    cases hz:j - ks.length with
    | zero=>
     rw [hz] at hj; simp at hj; subst hj
     exact⟨d,h7,by rw [List.getElem?_append_right (by omega),h4,hz]; rfl⟩
    | succ z=>rw [hz] at hj; simp at hj
  ·rw [pth_snoc,h6,Option.bind_some,if_pos (by simp only; omega)]
   congr 2
   omega
  ·rw [List.length_cons,show ks.length+1=0+1+ks.length by omega,show x+d.Most=0+d.Most+x by omega]
   exact hup
theorem upL_nodes {R:List Ed} {p:Nat→Option Nat} {z b:Nat}:∀ {l:List Nat} {a m:Nat} {x:Int},Up R p z a m x→UpL R p a l b→∀ (i k:Nat),l[i]?=some k→∃ e y,R[k]?=some e∧Up R p z e.u (m+i+1) y
 | [],a,m,x,h,hl,i,k,hi=>by simp at hi
 | q::ks,a,m,x,h,hl,i,k,hi=>by
  obtain⟨h1,e,h2,h3⟩:=hl
  cases i with
  | zero=>simp at hi; subst hi; exact⟨e,_,h2,h.snoc h1 h2⟩
  | succ i=>
   obtain⟨e',y,a1,a2⟩:=upL_nodes (h.snoc h1 h2) h3 i k (by simpa using hi)
   exact⟨e',y,a1,by rwa [show m+(i+1)+1=m+1+i+1 by omega]⟩
def clashQ (n:Net) (r:List Int × Bool × Int):Prop:=(Fea n.Diffs∧r=([],false,0))∨(¬ Fea n.Diffs∧r.2=(true,0)∧∃ ds,AtP n.Diffs r.1 ds∧Round n ds)
theorem f132_eq {n:Net} (hn:Mild n):Gets (f132 4611686018427387904 n) (clashQ n):=by
 have h1:=hn.n1
 have h2:=hn.n2
 have h3:=hn.l
 unfold f132
 rw [f227_yes hn,Option.bind_some]
 simp only [bne_self_eq_false,cond_false]
 refine Gets.bind (solve_mild (n:=n) hn rfl rfl) fun r hr=>?_
 obtain⟨x,t,bad⟩:=r
 refine Gets.cond (fun h=>Gets.some (.inl ⟨?_,rfl⟩)) fun h=>?_
 ·have h:bad < 0:=of_decide_eq_true h
  rcases hr with ⟨_,_,hp,_⟩ | ⟨h4,_⟩
  ·exact⟨_,hp⟩
  ·simp only at h4; omega
 ·have h:¬ bad < 0:=of_decide_eq_false h
  rcases hr with ⟨h4,_⟩ | ⟨h4,h5,h6,_,hg⟩
  ·simp only at h4; omega
  ·simp only at h4 h5 hg
   obtain⟨hln,hi,_,hx⟩:=hg
   simp only at hln hi hx
   have hla:t.last.length=n.Nodes.toNat:=hln.c
   obtain⟨q,c,hq0,hqn,hcyc⟩:∃ q c,0 < q∧q≤n.Nodes.toNat∧Up (edg n.Diffs) (stS t.long t.has t.last).p bad.toNat bad.toNat q c:=by
    rcases hx with ⟨hx,_⟩ | ⟨_,_,a,y,ha,hu⟩
    ·omega
    ·exact hu.cycle (fun e he=>(edg_uv hn.d e he).1) ha (Nat.le_refl _)
   refine Gets.bind (P:=fun v=>∃ ks:List Nat,v=ks.map (fun(k:Nat)=>(k:Int))∧0 < ks.length∧ks.length≤n.Nodes.toNat∧UpL (edg n.Diffs) (stS t.long t.has t.last).p bad.toNat ks bad.toNat∧∀ m y,0 < m→m < ks.length→¬ Up (edg n.Diffs) (stS t.long t.has t.last).p bad.toNat bad.toNat m y) ?_ fun v hv=>?_
   ·refine whl_count (fun(k:Nat) (v:List Int × Int)=>0≤v.2∧v.2 < n.Nodes∧∃ ks:List Nat,ks.length=k∧k < q∧v.1=ks.map (fun(k:Nat)=>(k:Int))∧UpL (edg n.Diffs) (stS t.long t.has t.last).p bad.toNat ks v.2.toNat∧(∃ y,Up (edg n.Diffs) (stS t.long t.has t.last).p bad.toNat v.2.toNat k y)∧∀ m y,0 < m→m≤k→¬ Up (edg n.Diffs) (stS t.long t.has t.last).p bad.toNat bad.toNat m y) n.Nodes.toNat ?_ (k:=0) ⟨h4,by simp only; omega,[],rfl,hq0,rfl,rfl,⟨0,.nil⟩,fun m y a1 a2=>by omega⟩ (by omega) (by omega)
    rintro k ⟨w,at_⟩ nx ⟨g1,g2,ks,g3,g4,g5,g6,⟨y,g7⟩,g8⟩ hk hnx
    simp only at g1 g2 g5 g6 g7
    obtain⟨z,e,p1,p2,_⟩:=(hcyc.rot hq0 g7).first hq0
    have hlast:t.last.getD at_.toNat (-1)=z:=by
     have p1:pN (t.last.getD at_.toNat (-1))=some z:=p1
     unfold pN at p1
     split at p1
     ·cases p1
     ·simp only [Option.some.injEq] at p1; omega
    obtain⟨d,p3,rfl⟩:=edg_of p2
    have hd:=hn.d d (List.mem_of_getElem? p3)
    have hf0:=hd.f0
    have hf1:=hd.f1
    have hf2:d.From < n.Nodes:=by omega
    dsimp only
    rw [ix_getD (-1) g1 (by omega),Option.bind_some,hlast,g5,app_eq (by simp; omega),Option.bind_some,ix_nat p3,Option.bind_some]
    have hup:=g7.snoc p1 p2
    have hupl:=g6.snoc p1 p2
    have hmap:(ks.map (fun(k:Nat)=>(k:Int)))++[(z:Int)]=(ks++[z]).map (fun(k:Nat)=>(k:Int)):=by simp
    refine Gets.cond (fun h=>Gets.some ⟨ks++[z],hmap,by simp,by simp; omega,?_,fun m y a1 a2=>g8 m y a1 (by simp at a2; omega)⟩) fun h=>?_
    ·have h:d.From=bad:=by simpa only [beq_iff_eq] using h
     have:(E1 d).u=bad.toNat:=by simp only [E1]; rw [h]
     rw [this] at hupl
     exact hupl
    ·have h:¬ d.From=bad:=by simpa only [beq_eq_false_iff_ne,ne_eq] using h
     have hne:(E1 d).u≠bad.toNat:=fun he=>h (by have he:d.From.toNat=bad.toNat:=he; omega)
     have hkq:k+1 < q:=by
      refine Classical.byContradiction fun hge=>?_
      have:q=k+1:=Nat.le_antisymm (Nat.le_of_not_lt hge) g4
      rw [this] at hcyc
      exact hne (hup.det hcyc).1
     refine hnx _ (by omega) ⟨hf0,hf2,ks++[z],by simp [g3],hkq,by simp only; rw [hmap],hupl,⟨_,hup⟩,fun m y a1 a2 hc=>?_⟩
     by_cases hm:m=k+1
     ·subst hm
      exact hne (hup.det hc).1
     ·exact g8 m y a1 (by omega) hc
   ·obtain⟨ks,rfl,k0,k1,k2,k3⟩:=hv
    rw [f252_eq (by simp; omega),Option.bind_some]
    obtain⟨ds,x,e1,e2,e3,e4⟩:=upL_sum hn.d hi k2
    have hneg:=hi.cyc _ _ _ e4 k0
    have hat:AtP n.Diffs (ks.map (fun(k:Nat)=>(k:Int))).reverse ds:=by
     refine⟨by simp [e1],fun j k hj=>?_⟩
     simp only [← List.map_reverse,List.getElem?_map,Option.map_eq_some_iff] at hj
     obtain⟨q,hq,rfl⟩:=hj
     obtain⟨d,a1,a2⟩:=e2 j q hq
     exact⟨by omega,d,by simpa using a1,a2⟩
    refine Gets.some (.inr ⟨h6,rfl,ds,hat,by omega,hat.mem,⟨_,x,e3,hneg⟩,fun i j d d' hij hi1 hj1 he=>?_⟩)
    have hjl:=(List.getElem?_eq_some_iff.1 hj1).1
    obtain⟨q1,a1⟩:∃ q1,ks.reverse[i]?=some q1:=⟨_,List.getElem?_eq_getElem (by simp; omega)⟩
    obtain⟨q2,a2⟩:∃ q2,ks.reverse[j]?=some q2:=⟨_,List.getElem?_eq_getElem (by simp; omega)⟩
    obtain⟨d1,b1,b2⟩:=e2 i q1 a1
    obtain⟨d2,b3,b4⟩:=e2 j q2 a2
    rw [hi1] at b2; cases b2
    rw [hj1] at b4; cases b4
    rw [List.getElem?_reverse (by omega)] at a1 a2
    obtain⟨f1,y1,c1,c2⟩:=upL_nodes (Up.nil (p:=(stS t.long t.has t.last).p)) k2 _ _ a1
    obtain⟨f2,y2,c3,c4⟩:=upL_nodes (Up.nil (p:=(stS t.long t.has t.last).p)) k2 _ _ a2
    rw [edg_at b1] at c1; cases c1
    rw [edg_at b3] at c3; cases c3
    have hu:(E1 d).u=(E1 d').u:=by simp only [E1]; rw [he]
    rw [hu] at c2
    obtain⟨cc,yy,s1,s2⟩:=e4.split (0+(ks.length - 1 - i)+1) (by omega)
    obtain⟨t1,_⟩:=s1.det c2
    rw [t1] at s2
    have:=c4.trans s2
    exact k3 _ _ (by omega) (by omega) this
end Go.Proofs.YthlchdnbokhclaaGreat.Ql
namespace Go.Proofs.YthlchdnbokhclaaGreat.Ql
open Go Go.Proofs.YthlchdnbokhclaaGreat.Bm
theorem lay_sight {s:Scene} (hS:SOk s) {d:Diff} {r:Reason} (h:(d,r)∈lay s) :
  (r.Kind=5→∃ (i:Nat) (g:Sight),s.Sights[i]?=some g∧r.Index=i∧(d.From=0∨d.To=0)∧∀ p:Int→Bool,p g.No=true→d∈(theNet (onlyS s p)).Diffs) ∧
  (r.Kind≠5→∀ p:Int→Bool,d∈(theNet (onlyS s p)).Diffs):=by
 rcases mem_lay.1 h with ⟨a,day,c,x,h1,h2,h3⟩ | ⟨a,day,i,q,h1,h2,h3⟩ | ⟨i,g,h1,h3⟩ | ⟨i,g,h1,h3⟩
 ·refine⟨fun hk=>?_,fun _ p=>List.mem_map.2 ⟨(d,r),mem_lay.2 (.inl ⟨a,day,c,x,h1,h2,h3⟩),rfl⟩⟩
  simp only [gCell,List.mem_cons,List.not_mem_nil,or_false,Prod.mk.injEq] at h3
  rcases h3 with ⟨_,rfl⟩ | ⟨_,rfl⟩ <;> exact absurd hk (by simp)
 ·refine⟨fun hk=>?_,fun _ p=>List.mem_map.2 ⟨(d,r),mem_lay.2 (.inr (.inl ⟨a,day,i,q,h1,h2,h3⟩)),rfl⟩⟩
  simp only [gPair] at h3
  split at h3
  ·simp only [List.mem_cons,List.not_mem_nil,or_false,Prod.mk.injEq] at h3
   rcases h3 with ⟨_,rfl⟩ | ⟨_,rfl⟩ <;> exact absurd hk (by simp)
  ·simp at h3
 ·refine⟨fun _=>⟨i,g,h1,?_,?_,fun p hp=>?_⟩,fun hk=>?_⟩
  ·simp only [gSight,List.mem_cons,List.not_mem_nil,or_false,Prod.mk.injEq] at h3
   rcases h3 with ⟨_,rfl⟩ | ⟨_,rfl⟩ <;> rfl
  ·simp only [gSight,List.mem_cons,List.not_mem_nil,or_false,Prod.mk.injEq] at h3
   rcases h3 with ⟨rfl,_⟩ | ⟨rfl,_⟩ <;> simp
  ·obtain⟨j,hj⟩:=List.mem_iff_getElem?.1 (List.mem_filter.2 ⟨List.mem_of_getElem? h1,hp⟩:g∈s.Sights.filter fun g=>p g.No)
   simp only [gSight,List.mem_cons,List.not_mem_nil,or_false,Prod.mk.injEq] at h3
   rcases h3 with ⟨rfl,_⟩ | ⟨rfl,_⟩
   ·exact List.mem_map.2 ⟨_,mem_lay.2 (.inr (.inr (.inl ⟨j,g,hj,List.mem_cons_self⟩))),rfl⟩
   ·exact List.mem_map.2 ⟨_,mem_lay.2 (.inr (.inr (.inl ⟨j,g,hj,List.mem_cons_of_mem _ List.mem_cons_self⟩))),rfl⟩
  ·simp only [gSight,List.mem_cons,List.not_mem_nil,or_false,Prod.mk.injEq] at h3
   rcases h3 with ⟨_,rfl⟩ | ⟨_,rfl⟩ <;> exact absurd rfl hk
 ·refine⟨fun hk=>?_,fun _ p=>List.mem_map.2 ⟨(d,r),mem_lay.2 (.inr (.inr (.inr ⟨i,g,h1,h3⟩))),rfl⟩⟩
  simp only [gChange,List.mem_cons,List.not_mem_nil,or_false,Prod.mk.injEq] at h3
  rcases h3 with ⟨_,rfl⟩ | ⟨_,rfl⟩ <;> exact absurd hk (by simp)
theorem pth_next:∀ {ds:List Diff} {a x b y:Int},pth ds a x=some (b,y)→(∀ d,ds[0]?=some d→d.From=a)∧(∀ (i:Nat) d d',ds[i]?=some d→ds[i+1]?=some d'→d'.From=d.To)∧∀ (i:Nat) d,ds[i]?=some d→i+1=ds.length→d.To=b
 | [],a,x,b,y,h=>⟨fun d h=>by simp at h,fun i d d' h=>by simp at h,fun i d h=>by simp at h⟩
 | c::ds,a,x,b,y,h=>by
  simp only [pth] at h
  split at h
  ·rename_i hc
   obtain⟨h1,h2,h3⟩:=pth_next h
   refine⟨fun d hd=>by simp at hd; subst hd; exact hc,fun i d d' hd hd'=>?_,fun i d hd hl=>?_⟩
   ·cases i with
    | zero=>
    have hd':ds[0]?=some d':=hd'
    simp at hd; subst hd; exact h1 d' hd'
    | succ i=>exact h2 i d d' (by simpa using hd) (by simpa using hd')
   ·cases i with
    | zero=>
     simp at hd; subst hd
     have:ds=[]:=by cases ds with
      | nil=>rfl
      | cons _ _=>simp at hl
     subst this
     simp only [pth,Option.some.injEq,Prod.mk.injEq] at h
     exact h.1
    | succ i=>exact h3 i d (by simpa using hd) (by simpa using hl)
  ·cases h
theorem Round.to_inj {n:Net} {ds:List Diff} (h:Round n ds) (i j:Nat) (d d':Diff) (hij:i < j) (hi:ds[i]?=some d) (hj:ds[j]?=some d'):d.To≠d'.To:=by
 obtain⟨a,x,hp,_⟩:=h.neg
 obtain⟨p1,p2,p3⟩:=pth_next hp
 have hjl:=(List.getElem?_eq_some_iff.1 hj).1
 intro he
 obtain⟨e,h1⟩:∃ e,ds[i+1]?=some e:=⟨_,List.getElem?_eq_getElem (by omega)⟩
 have q1:=p2 i d e hi h1
 by_cases hl:j+1=ds.length
 ·have q2:=p3 j d' hj hl
  obtain⟨f,h2⟩:∃ f,ds[0]?=some f:=⟨_,List.getElem?_eq_getElem (by omega)⟩
  have q3:=p1 f h2
  exact h.inj 0 (i+1) f e (by omega) h2 h1 (by omega)
 ·obtain⟨f,h2⟩:∃ f,ds[j+1]?=some f:=⟨_,List.getElem?_eq_getElem (by omega)⟩
  have q2:=p2 j d' f hj h2
  exact h.inj (i+1) (j+1) e f (by omega) h1 h2 (by omega)
def clQ' (s:Scene) (r:List Int × Bool × Int):Prop:=
 (¬ SOk s∧r=([],false,chk s))∨(SOk s∧Fea (theNet s).Diffs∧r=([],false,0))∨(SOk s∧¬ Fea (theNet s).Diffs∧r.2=(true,0)∧Rise r.1∧r.1.length≤2∧ClR s r.1)
theorem inW_none {s:Scene} (hS:SOk s) {l:List Int}:FeaO s (inW l (-1))↔FeaO s (inL l):=by
 have:∀ g∈s.Sights,inW l (-1) g.No=inL l g.No:=fun g hg=>by
  have:=(hS.g g hg).1
  unfold inW inL
  rw [decide_eq_decide]
  constructor
  ·exact fun h=>h.2
  ·exact fun h=>⟨by omega,h⟩
 exact⟨fun h=>h.mono fun g hg hp=>by rw [this g hg]; exact hp,fun h=>h.mono fun g hg hp=>by rw [← this g hg]; exact hp⟩
open Classical in
noncomputable def notFea (s:Scene) (l:List Int):Bool:=decide (¬ FeaO s (inL l))
open Classical in
theorem notFea_t {s:Scene} {l:List Int}:notFea s l=true↔¬ FeaO s (inL l):=by unfold notFea; rw [decide_eq_true_eq]
open Classical in
theorem notFea_f {s:Scene} {l:List Int}:notFea s l=false↔FeaO s (inL l):=by unfold notFea; rw [decide_eq_false_iff_not,Classical.not_not]
theorem f136_eq {s:Scene} (hS:SOk s) {l:List Int} (hl:l.length≤1000000):f136 4611686018427387904 l s=some (notFea s l):=by
 have:Gets (f136 4611686018427387904 l s) (·=notFea s l):=by
  unfold f136 f139
  dsimp only [Option.bind_some]
  rw [f138_eq hS (inW l (-1)) (fun y=>f255_eq (by omega)),Option.bind_some]
  refine Gets.bind (f137_eq (only_ok hS _)) fun x hx=>Gets.some ?_
  have hx:x=true↔FeaO s (inW l (-1)):=hx
  rw [inW_none hS] at hx
  rw [Bool.eq_iff_iff,notFea_t,← hx]
  cases x <;> simp
 exact this.out
theorem least_cl {s:Scene} (hS:SOk s) {l r:List Int} (h:LeastQ l (notFea s) r) (h0:¬ FeaO s (inL l)):ClR s r:=by
 have h1:notFea s r=true:=h.has (notFea_t.2 h0)
 rw [notFea_t] at h1
 refine⟨h1,fun n hn=>?_⟩
 obtain⟨i,hi⟩:=List.mem_iff_getElem?.1 hn
 have h2:=h.min i (List.getElem?_eq_some_iff.1 hi).1
 rw [notFea_f,inL_erase h.rise hi] at h2
 exact h2
open Classical in
theorem f54_eq {s:Scene} (hL:Lens s):Gets (f54 4611686018427387904 s) (clQ' s):=by
 unfold f54
 refine Gets.bind (f66_eq _ s hL) fun a ha=>Gets.cond (fun h=>Gets.some (.inl ⟨?_,by rw [ha]⟩)) fun h=>?_
 ·subst ha; exact chk_ne.1 (by simpa using h)
 subst ha
 have hS:=chk_iff.1 (show chk s=0 by simpa using h)
 have hll:=lay_len hS
 have hm:=hS.m.1
 refine Gets.bind (f102_eq _ s hS) fun lb hlb=>?_
 subst hlb
 refine Gets.bind (f132_eq (n:=theNet s) (net_mild hS)) fun r hr=>?_
 obtain⟨ks,is,e⟩:=r
 rcases hr with ⟨h1,h2⟩ | ⟨h1,h2,ds,hat,hR⟩
 ·cases h2
  exact Gets.some (.inr (.inl ⟨hS,h1,rfl⟩))
 ·simp only [Prod.mk.injEq] at h2 hat
  obtain⟨rfl,rfl⟩:=h2
  have hkl:=hat.1
  have hdl:ds.length≤400:=by
   refine Classical.byContradiction fun hgt=>?_
   have hN:=NN_le hS
   obtain⟨i,j,hij,hj,he⟩:=pigeon (n:=193) (m:=193) (fun i=>(ds.getD i ⟨0,0,0⟩).From.toNat) (fun i hi=>by
    have hd:=hR.mem (ds.getD i ⟨0,0,0⟩) (by rw [List.getD_eq_getElem?_getD,List.getElem?_eq_getElem (by omega)]; exact List.getElem_mem _)
    obtain⟨y,hy,he⟩:=List.mem_map.1 hd
    have:=(lay_ok hS hy).1.f1
    rw [he] at this
    show (ds.getD i ⟨0,0,0⟩).From.toNat < 193
    omega) (Nat.le_refl _)
   have e1:ds[i]?=some (ds.getD i ⟨0,0,0⟩):=by rw [List.getD_eq_getElem?_getD,List.getElem?_eq_getElem (by omega)]; rfl
   have e2:ds[j]?=some (ds.getD j ⟨0,0,0⟩):=by rw [List.getD_eq_getElem?_getD,List.getElem?_eq_getElem (by omega)]; rfl
   have p1:=((net_mild hS).d _ (hR.mem _ (List.mem_of_getElem? e1))).f0
   have p2:=((net_mild hS).d _ (hR.mem _ (List.mem_of_getElem? e2))).f0
   have he:(ds.getD i ⟨0,0,0⟩).From.toNat=(ds.getD j ⟨0,0,0⟩).From.toNat:=he
   exact hR.inj i j _ _ hij e1 e2 (by omega)
  simp only [bne_self_eq_false,Bool.not_true,Bool.or_self,cond_false]
  refine Gets.bind (P:=fun v=>v.length≤2∧∀ d∈ds,∀ p:Int→Bool,(∀ x∈v,p x=true)→d∈(theNet (onlyS s p)).Diffs) ?_ fun v hv=>?_
  ·refine rngL_gets (fun(k:Nat) (v:List Int)=>v.length≤(if ∃ i d,i < k∧ds[i]?=some d∧d.From=0 then 1 else 0)+(if ∃ i d,i < k∧ds[i]?=some d∧d.To=0 then 1 else 0)∧∀ i d,i < k→ds[i]?=some d→∀ p:Int→Bool,(∀ x∈v,p x=true)→d∈(theNet (onlyS s p)).Diffs) (by omega) ⟨by simp,fun i d h=>by omega⟩ (fun k x v nx hx ⟨hv1,hv2⟩ hnx=>?_) fun v hv=>Gets.some ⟨?_,fun d hd p hp=>?_⟩
   ·have hk:=(List.getElem?_eq_some_iff.1 hx).1
    obtain⟨h0,d,hd1,hd2⟩:=hat.2 k x hx
    simp only [theNet,List.getElem?_map,Option.map_eq_some_iff] at hd1
    obtain⟨⟨d',r⟩,hlay,rfl⟩:=hd1
    simp only at hd2
    have hmem:=List.mem_of_getElem? hlay
    have hsg:=lay_sight hS hmem
    have hre:ix (LB s (theNet s).Nodes (lay s)).reasons x=some r:=ix_eq h0 (by simp only [LB,List.getElem?_map,hlay]; rfl)
    have hbnd:v.length≤2:=by
     refine Nat.le_trans hv1 ?_
     split <;> split <;> omega
    rw [hre,Option.bind_some]
    refine Gets.bind (P:=fun w=>(r.Kind≠5∧w=v)∨(r.Kind=5∧∃ (i:Nat) (g:Sight),s.Sights[i]?=some g∧r.Index=i∧(d'.From=0∨d'.To=0)∧(∀ p:Int→Bool,p g.No=true→d'∈(theNet (onlyS s p)).Diffs)∧w=v++[g.No])) (Gets.cond (fun h2=>?_) fun h2=>Gets.some (.inl ⟨by simpa only [beq_eq_false_iff_ne,ne_eq] using h2,rfl⟩)) fun w hw=>?_
    ·have h2:r.Kind=5:=by simpa only [beq_iff_eq] using h2
     obtain⟨i,g,g1,g2,g3,g4⟩:=hsg.1 h2
     rw [g2,ix_nat g1,Option.bind_some,app_eq (by simp; omega),Option.bind_some]
     exact Gets.some (.inr ⟨h2,i,g,g1,rfl,g3,g4,rfl⟩)
    ·have mono1:∀ (f:Diff→Int),(∃ i d,i < k∧ds[i]?=some d∧f d=0)→∃ i d,i < k+1∧ds[i]?=some d∧f d=0:=fun f ⟨i,d,a,b,c⟩=>⟨i,d,by omega,b,c⟩
     rcases hw with ⟨h2,rfl⟩ | ⟨h2,i,g,g1,g2,g3,g4,rfl⟩
     ·refine hnx _ ⟨?_,fun i d hi hd p hp=>?_⟩
      ·refine Nat.le_trans hv1 ?_
       by_cases c1:∃ i d,i < k∧ds[i]?=some d∧d.From=0 <;> by_cases c2:∃ i d,i < k∧ds[i]?=some d∧d.To=0
       ·rw [if_pos c1,if_pos c2,if_pos (mono1 _ c1),if_pos (mono1 _ c2)]; omega
       ·rw [if_pos c1,if_neg c2,if_pos (mono1 _ c1)]; omega
       ·rw [if_neg c1,if_pos c2,if_pos (mono1 _ c2)]; omega
       ·rw [if_neg c1,if_neg c2]; omega
      ·by_cases hik:i=k
       ·subst hik; rw [hd2] at hd; cases hd; exact hsg.2 h2 p
       ·exact hv2 i d (by omega) hd p hp
     ·refine hnx _ ⟨?_,fun i d hi hd p hp=>?_⟩
      ·rw [List.length_append,List.length_singleton]
       rcases g3 with g3 | g3
       ·have c1:¬ ∃ i d,i < k∧ds[i]?=some d∧d.From=0:=fun⟨i,d,a,b,c⟩=>hR.inj i k d d' a b hd2 (by omega)
        have c3:∃ i d,i < k+1∧ds[i]?=some d∧d.From=0:=⟨k,d',by omega,hd2,g3⟩
        rw [if_neg c1] at hv1
        rw [if_pos c3]
        by_cases c2:∃ i d,i < k∧ds[i]?=some d∧d.To=0
        ·rw [if_pos c2] at hv1; rw [if_pos (mono1 _ c2)]; omega
        ·rw [if_neg c2] at hv1; omega
       ·have c1:¬ ∃ i d,i < k∧ds[i]?=some d∧d.To=0:=fun⟨i,d,a,b,c⟩=>hR.to_inj i k d d' a b hd2 (by omega)
        have c3:∃ i d,i < k+1∧ds[i]?=some d∧d.To=0:=⟨k,d',by omega,hd2,g3⟩
        rw [if_neg c1] at hv1
        rw [if_pos c3]
        by_cases c2:∃ i d,i < k∧ds[i]?=some d∧d.From=0
        ·rw [if_pos c2] at hv1; rw [if_pos (mono1 _ c2)]; omega
        ·rw [if_neg c2] at hv1; omega
      ·by_cases hik:i=k
       ·subst hik; rw [hd2] at hd; cases hd; exact g4 p (hp _ (by simp))
       ·exact hv2 i d (by omega) hd p fun x hx=>hp x (List.mem_append_left _ hx)
   ·refine Nat.le_trans hv.1 ?_
    split <;> split <;> omega
   ·obtain⟨i,hi⟩:=List.mem_iff_getElem?.1 hd
    exact hv.2 i d (by have:=(List.getElem?_eq_some_iff.1 hi).1; omega) hi p hp
  ·obtain⟨hv1,hv2⟩:=hv
   refine Gets.bind (f133_eq (xs:=v) (by omega)) fun w hw=>Gets.bind (f134_eq (xs:=w) (by rw [hw.1]; omega) (by rw [hw.1]; exact hw.2.2)) fun u hu=>?_
   have hul:u.length≤2:=Nat.le_trans hu.len (by rw [hw.1]; exact hv1)
   have hmem:∀ x,x∈u↔x∈v:=fun x=>by rw [hu.mem,hw.2.1.mem hw.1]
   have hno:¬ FeaO s (inL u):=by
    rintro⟨π,hp⟩
    obtain⟨a,x,hpth,hneg⟩:=hR.neg
    have:=pth_pot hp (fun d hd=>hv2 d hd (inL u) fun x hx=>by unfold inL; rw [decide_eq_true_eq,hmem]; exact hx) hpth
    omega
   refine Gets.bind (f135_eq (P:=notFea s) hu.rise (by omega) (fun x hx=>f136_eq hS (by omega)) (fun a b ra rb hab hP=>?_)) fun r hr=>Gets.some (.inr (.inr ⟨hS,h1,rfl,hr.rise,?_,least_cl hS hr hno⟩))
   ·rw [notFea_t] at hP ⊢
    exact fun hF=>hP (hF.mono fun g hg hp=>by unfold inL at hp ⊢; rw [decide_eq_true_eq] at hp ⊢; exact hab _ hp)
   ·have:=hr.len
    simp only; omega
end Go.Proofs.YthlchdnbokhclaaGreat.Ql
namespace Go.Proofs.YthlchdnbokhclaaGreat.Ql
open Go Go.Proofs.YthlchdnbokhclaaGreat.Bm
theorem fidx_pre {α:Type} {p:α→Bool}:∀ {xs:List α} {i:Int} {k:Nat},fidx p xs i=i+k→0≤i→∀ (j:Nat) x,j < k→xs[j]?=some x→p x=false
 | [],i,k,h,h0,j,x,hj,hx=>by simp at hx
 | y::xs,i,k,h,h0,j,x,hj,hx=>by
  unfold fidx at h
  cases hy:p y
  ·simp only [hy,Bool.false_eq_true,if_false] at h
   cases j with
   | zero=>simp at hx; subst hx; exact hy
   | succ j=>
    cases k with
    | zero=>omega
    | succ k=>exact fidx_pre (xs:=xs) (i:=i+1) (k:=k) (by rw [h]; omega) (by omega) j x (by omega) (by simpa using hx)
  ·simp only [hy,if_true] at h
   omega
theorem f192_eq {xs:List Sight} {g:Sight→Option Bool} {p:Sight→Bool} (hg:∀ x,g x=some (p x)) (hl:xs.length≤1000000):f192 4611686018427387904 xs g=some (xs.filter fun x=>!p x):=by
 have b:∀ a c d:Int,0≤a→a≤c→c≤d→bnds a c d=some ():=fun a c d h1 h2 h3=>by unfold bnds; rw [if_pos ⟨h1,h2,h3⟩]
 have e1:f200 4611686018427387904 xs g=some (fidx p xs 0):=rngL_find (f:=id) (by omega) (fun _ _=>rfl) fun nx x i u=>by rw [hg,Option.bind_some]; rfl
 have:Gets (f192 4611686018427387904 xs g) (·=xs.filter fun x=>!p x):=by
  unfold f192
  rw [e1,Option.bind_some]
  refine Gets.cond (fun h=>Gets.some ?_) fun h=>?_
  ·have h:fidx p xs 0=-1:=by simpa only [beq_iff_eq] using h
   have:=(fidx_neg (p:=p) (xs:=xs) (i:=0) (by omega)).1 (by omega)
   rw [List.filter_eq_self.2 fun x hx=>by rw [this x hx]; rfl]
  ·have h:¬ fidx p xs 0=-1:=by simpa only [beq_eq_false_iff_ne,ne_eq] using h
   have h0:0≤fidx p xs 0:=by rcases fidx_lt (p:=p) (xs:=xs) with ⟨h1,h2⟩; omega
   obtain⟨a,x,h1,h2,h3⟩:=fidx_spec (by omega) h0
   have hal:=(List.getElem?_eq_some_iff.1 h2).1
   have hpre:=fidx_pre h1 (by omega)
   rw [h1,Int.zero_add]
   have hf0:(xs.take (a+1)).filter (fun x=>!p x)=xs.take a:=by
    rw [List.take_succ,h2,List.filter_append,Option.toList_some,List.filter_cons,h3]
    simp only [Bool.not_true,Bool.false_eq_true,if_false,List.filter_nil,List.append_nil]
    refine List.filter_eq_self.2 fun y hy=>?_
    obtain⟨j,hj⟩:=List.mem_iff_getElem?.1 hy
    have hjl:=(List.getElem?_eq_some_iff.1 hj).1
    simp only [List.length_take] at hjl
    rw [List.getElem?_take_of_lt (by omega)] at hj
    rw [hpre j y (by omega) hj]; rfl
   rw [W_eq (by omega) (by omega)]
   refine Gets.bind (P:=fun v:List Sight × Int=>v.1.length=xs.length∧0≤v.2∧v.2≤xs.length∧v.1.take v.2.toNat=xs.filter fun x=>!p x) ?_ fun v hv=>?_
   ·refine whl_count (fun(k:Nat) (v:List Sight × Int × Int)=>v.1.length=xs.length∧0≤v.2.1∧v.2.1 < v.2.2∧v.2.2=(a:Int)+1+k∧v.2.2≤xs.length∧v.1.take v.2.1.toNat=(xs.take v.2.2.toNat).filter (fun x=>!p x)∧∀ j:Nat,v.2.2≤j→v.1[j]?=xs[j]?) xs.length ?_ (k:=0) ⟨rfl,by simp only; omega,by simp only; omega,by simp,by simp only; omega,?_,fun j _=>rfl⟩ (by omega) (by omega)
    ·rintro k ⟨v,i,j⟩ nx ⟨k1,k2,k3,k4,k5,k6,k7⟩ hk hnx
     simp only at k1 k2 k3 k4 k5 k6 k7
     refine Gets.cond (fun h4=>?_) fun h4=>Gets.some ⟨k1,k2,by simp only; omega,?_⟩
     ·have h4:j < v.length:=of_decide_eq_true h4
      have hj:xs[j.toNat]?=some xs[j.toNat]:=List.getElem?_eq_getElem (by omega)
      have hvj:=k7 j.toNat (by omega)
      rw [hj] at hvj
      obtain⟨w,hw⟩:∃ w,v[i.toNat]?=some w:=⟨_,List.getElem?_eq_getElem (by omega)⟩
      dsimp only
      rw [ix_eq (by omega) hvj,Option.bind_some,hg,Option.bind_some]
      have hts:(xs.take (j+1).toNat).filter (fun x=>!p x)=(xs.take j.toNat).filter (fun x=>!p x)++if !p xs[j.toNat] then [xs[j.toNat]] else []:=by
       rw [show (j+1).toNat=j.toNat+1 by omega,List.take_succ,hj,List.filter_append,Option.toList_some,List.filter_cons]
       rfl
      cases hp:p xs[j.toNat]
      ·simp only [Bool.not_false,cond_true]
       rw [ix_eq k2 hw,Option.bind_some,Option.bind_some,W_eq (by omega) (by omega),W_eq (by omega) (by omega)]
       refine hnx _ (by omega) ⟨by simp [k1],by simp only; omega,by simp only; omega,by simp only; omega,by simp only; omega,?_,fun q hq=>?_⟩
       ·simp only
        rw [hts,hp,← k6,show (i+1).toNat=i.toNat+1 by omega,List.take_succ,List.getElem?_set_self (by omega),List.take_set_of_le (by omega)]
        rfl
       ·simp only at hq ⊢
        rw [List.getElem?_set_ne (by omega)]
        exact k7 q (by omega)
      ·simp only [Bool.not_true,cond_false,Option.bind_some]
       rw [W_eq (by omega) (by omega)]
       refine hnx _ (by omega) ⟨k1,k2,by simp only; omega,by simp only; omega,by simp only; omega,?_,fun q hq=>k7 q (by simp only at hq; omega)⟩
       simp only
       rw [hts,hp,← k6]
       simp
     ·have h4:¬ j < v.length:=of_decide_eq_false h4
      simp only
      rw [k6,List.take_of_length_le (by omega)]
    ·simp only [Int.toNat_natCast]
     rw [show ((a:Int)+1).toNat=a+1 by omega,hf0]
   ·obtain⟨v,t⟩:=v
    obtain⟨k1,k2,k3,k4⟩:=hv
    simp only at k1 k2 k3 k4
    have hcl:∀ z,(clrI v t (v.length:Int) z).length=v.length:=fun z=>by unfold clrI clr; simp; omega
    dsimp only
    rw [b _ _ _ (by omega) (by omega) (by omega),Option.bind_some,b _ _ _ (by omega) (by omega) (by rw [hcl]; omega),Option.bind_some]
    have hv:∀ z,vown (clrI v t (v.length:Int) z) t=some (v.take t.toNat):=fun z=>by
     unfold vown
     rw [if_pos ⟨by omega,by rw [hcl]; omega⟩]
     unfold clrI clr
     rw [List.append_assoc,List.take_append_of_le_length (by simp; omega),List.take_take]
     simp
    rw [hv,Option.bind_some]
    exact Gets.some k4
 exact this.out
theorem f82_eq {s:Scene} (hS:SOk s) {l:List Int} (hl:l.length≤9223372036854775807):f82 4611686018427387904 s l=some (onlyS s (inL l)):=by
 have hm:=hS.m.1
 unfold f82 f42
 rw [app_eq (by simp; omega),Option.bind_some,List.nil_append,f192_eq (p:=fun x=>!inL l x.No) (fun x=>by unfold f193; rw [f83_in hl]; rfl) (by omega)]
 simp
end Go.Proofs.YthlchdnbokhclaaGreat.Ql
namespace Go.Proofs.YthlchdnbokhclaaGreat.Ql
open Go
theorem Lens.wf {s:Scene} (h:wf30 s):Lens s:=by
 have:=h.Basin.Cells.1
 have:=h.Basin.Pairs.1
 have:=h.Days.1
 have:=h.Sights.1
 have:=h.Changes.1
 unfold maxLen at *
 exact⟨by omega,by omega,by omega,by omega,by omega⟩
end Go.Proofs.YthlchdnbokhclaaGreat.Ql
namespace Go.Proofs.YthlchdnbokhclaaGreat.Ql
open Go Go.Proofs.YthlchdnbokhclaaGreat.Bm
theorem ls_fea {s:Scene} (hS:SOk s) {r:List (List Int) × Int} (h:lsQ s r):(Fea (theNet s).Diffs→r.2=0)∧(¬ Fea (theNet s).Diffs→r.2=41):=by
 rcases h with ⟨h1,_⟩ | ⟨_,h1,h2⟩ | ⟨_,h1,x,_,h2⟩
 ·exact absurd hS h1
 ·subst h2; exact⟨fun h=>absurd h h1,fun _=>rfl⟩
 ·subst h2; exact⟨fun _=>rfl,fun h=>absurd h1 h⟩
theorem basinAccused_pure (s:Scene) (h:wf30 s):∃ k,f16 k s=some true:=by
 refine⟨4611686018427387904,?_⟩
 have hL:=Lens.wf h
 have e85:∀ z:List Int,z.length≤1000000→f85 4611686018427387904 z=some z:=fun z hz=>by unfold f85; rw [app_eq (by simp; omega)]; rfl
 have:Gets (f16 4611686018427387904 s) (·=true):=by
  unfold f16
  refine Gets.bind_eq sane_ok (Gets.cond (fun h=>by simp at h) fun _=>?_)
  refine Gets.bind (f36_eq hL) fun k hk=>Gets.cond (fun _=>Gets.some rfl) fun h'=>?_
  have hS:=(hk.1 (by simpa using h')).1
  refine Gets.bind (f54_eq hL) fun r hr=>Gets.bind (f29_eq hL) fun g hg=>?_
  obtain⟨c,is,e⟩:=r
  obtain⟨gf,ge⟩:=g
  rcases hr with ⟨h1,_⟩ | ⟨_,hF,h2⟩ | ⟨_,hF,h2,h3,h4,h5⟩
  ·exact absurd hS h1
  ·cases h2
   have hge:ge=0:=by
    rcases hg with ⟨h1,_⟩ | ⟨_,h1,_⟩ | ⟨_,h1,x,_,h2⟩
    ·exact absurd hS h1
    ·exact absurd hF h1
    ·cases h2; rfl
   subst hge
   refine Gets.cond (fun h=>?_) fun _=>Gets.cond (fun _=>Gets.some rfl) fun h=>by cases h
   ·exfalso
    have:(s.Sights.length:Int) < 0:=by simpa using h
    omega
  ·simp only [Prod.mk.injEq] at h2 h3 h4 h5
   obtain⟨rfl,rfl⟩:=h2
   have hge:ge=41:=by
    rcases hg with ⟨h1,_⟩ | ⟨_,h1,h2⟩ | ⟨_,h1,x,_,h2⟩
    ·exact absurd hS h1
    ·cases h2; rfl
    ·exact absurd h1 hF
   subst hge
   have hcs:c.length≤s.Sights.length:=by
    have hin:∀ n∈c,∃ g∈s.Sights,g.No=n:=fun n hn=>by
     refine Classical.byContradiction fun hno=>?_
     have:FeaO s (inL c):=(h5.2 n hn).mono fun g hg hp=>by
      unfold inL at hp; unfold inW
      rw [decide_eq_true_eq] at hp ⊢
      exact⟨fun he=>hno ⟨g,hg,he⟩,hp⟩
     exact h5.1 this
    refine Classical.byContradiction fun hlt=>?_
    have hidx:∀ i,i < c.length→∃ j,j < s.Sights.length∧∃ g,s.Sights[j]?=some g∧c[i]?=some g.No:=fun i hi=>by
     have e:=List.getElem?_eq_getElem hi
     obtain⟨g,hg,h1⟩:=hin _ (List.mem_of_getElem? e)
     obtain⟨j,hj⟩:=List.mem_iff_getElem?.1 hg
     exact⟨j,(List.getElem?_eq_some_iff.1 hj).1,g,hj,by rw [e,h1]⟩
    have hN:s.Sights.length≤c.length - 1:=by omega
    let f:Nat→Nat:=fun i=>if hi:i < c.length then Classical.choose (hidx i hi) else 0
    obtain⟨i,j,hij,hj,he⟩:=pigeon (n:=s.Sights.length) (m:=c.length - 1) f (fun i hi=>by
     have hi':i < c.length:=by omega
     simp only [f,dif_pos hi']
     exact(Classical.choose_spec (hidx i hi')).1) hN
    have hi':i < c.length:=by omega
    have hj':j < c.length:=by omega
    simp only [f,dif_pos hi',dif_pos hj'] at he
    obtain⟨_,g1,a1,a2⟩:=Classical.choose_spec (hidx i hi')
    obtain⟨_,g2,a3,a4⟩:=Classical.choose_spec (hidx j hj')
    rw [he,a3] at a1; cases a1
    have:=h3.inj a2 a4
    omega
   refine Gets.cond (fun h=>?_) fun _=>Gets.cond (fun h=>by cases h) fun _=>?_
   ·exfalso
    simp at h
    omega
   ·refine Gets.bind (f78_eq hL (by simp only; omega)) fun x hx=>?_
    simp only at hx
    rw [((hx.2 hS).2 h3).1 h5]
    simp only [bne_self_eq_false,cond_false]
    rw [f82_eq hS (by omega),Option.bind_some]
    refine Gets.bind (f31_eq (Lens.of (only_ok hS _))) fun r hr=>?_
    obtain⟨rf,re⟩:=r
    have hre:re=41:=(ls_fea (only_ok hS _) hr).2 h5.1
    subst hre
    simp only [bne_self_eq_false,cond_false]
    refine Gets.jo (fun _=>True) (fun _ _=>?_) fun j hj=>rngN_gets (fun _ _=>True) ⟨by omega,by omega⟩ trivial (fun i _ nx h0 hi _ hnx=>?_) fun _ _ _ _ _ _ h=>hj _ h
    ·refine Gets.jo (fun _=>True) (fun _ _=>Gets.some (by simp only [decide_eq_true_eq]; omega)) fun j hj=>rngL_gets (fun _ _=>True) hL.g trivial (fun k x _ nx hx _ hnx=>?_) fun _ h=>hj _ h
     have hk:=(List.getElem?_eq_some_iff.1 hx).1
     rw [sub_eq (by omega) (by omega) (by omega),Option.bind_some]
     unfold f89 f200
     refine Gets.bind (cont_gets (xs:=(s.Sights.drop (Int.toNat 0)).take ((k:Int).toNat - Int.toNat 0)) (fun y:Sight=>(y.No==x.No)) (by have:=hL.g; simp; omega) (fun y _=>rfl)) fun b hb=>Gets.cond (fun _=>Gets.some rfl) fun _=>hnx _ trivial
    ·have hc:c[i.toNat]?=some c[i.toNat]:=List.getElem?_eq_getElem (by omega)
     rw [e85 c (by omega),Option.bind_some,f84_eq h0 hi (by omega),Option.bind_some,f82_eq hS (Nat.le_trans (List.length_eraseIdx_le _ _) (by omega)),Option.bind_some]
     refine Gets.bind (f31_eq (Lens.of (only_ok hS _))) fun r hr=>?_
     obtain⟨rf,re⟩:=r
     have hre:re=0:=(ls_fea (only_ok hS _) hr).1 (by rw [inL_erase h3 hc]; exact h5.2 _ (List.mem_of_getElem? hc))
     subst hre
     exact hnx _ trivial
 exact this.out
end Go.Proofs.YthlchdnbokhclaaGreat.Ql

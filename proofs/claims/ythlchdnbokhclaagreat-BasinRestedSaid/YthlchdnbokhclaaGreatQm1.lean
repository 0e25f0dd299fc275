import Derived.Test.YthlchdnbokhclaaGreatQd1
import Derived.Test.YthlchdnbokhclaaGreatQc1
import Derived.Test.YthlchdnbokhclaaGreatQb1
import Derived.Test.YthlchdnbokhclaaGreatQs
import Derived.Test.YthlchdnbokhclaaGreatQr
set_option linter.all false
namespace Go.Proofs.YthlchdnbokhclaaGreat.Ql
open Go Go.Proofs.YthlchdnbokhclaaGreat.Bm
abbrev scn (s:Scene) (g:List Sight) (c:List Change):Scene:=⟨s.Basin,s.Days,g,c⟩
theorem SOk.scn {s:Scene} (h:SOk s) {g:List Sight} {c:List Change} (h1:g.length≤256) (h2:c.length≤256) (hg:∀ x∈g,SightOk s x) (hc:∀ x∈c,ChangeOk s x):SOk (scn s g c):=⟨h.b,h.d,⟨h1,h2⟩,hg,hc⟩
theorem pot_sub {s:Scene} {g:List Sight} {c:List Change} (hg:∀ x∈g,x∈s.Sights) (hc:∀ x∈c,x∈s.Changes) {π:Nat→Int} (h:Pot (EE s) π):Pot (EE (scn s g c)) π:=by
 rw [pot_lay] at h ⊢
 intro y hy
 rcases mem_lay.1 hy with h1 | h1 | ⟨i,x,h1,h2⟩ | ⟨i,x,h1,h2⟩
 ·exact h y (mem_lay.2 (.inl h1))
 ·exact h y (mem_lay.2 (.inr (.inl h1)))
 ·obtain⟨j,hj⟩:=List.mem_iff_getElem?.1 (hg x (List.mem_of_getElem? h1))
  have a1:=h _ (mem_lay.2 (.inr (.inr (.inl ⟨j,x,hj,List.mem_cons_self⟩))))
  have a2:=h _ (mem_lay.2 (.inr (.inr (.inl ⟨j,x,hj,List.mem_cons_of_mem _ List.mem_cons_self⟩))))
  simp only [gSight,List.mem_cons,List.not_mem_nil,or_false] at h2
  rcases h2 with rfl | rfl
  ·exact a1
  ·exact a2
 ·obtain⟨j,hj⟩:=List.mem_iff_getElem?.1 (hc x (List.mem_of_getElem? h1))
  have a1:=h _ (mem_lay.2 (.inr (.inr (.inr ⟨j,x,hj,List.mem_cons_self⟩))))
  have a2:=h _ (mem_lay.2 (.inr (.inr (.inr ⟨j,x,hj,List.mem_cons_of_mem _ List.mem_cons_self⟩))))
  simp only [gChange,List.mem_cons,List.not_mem_nil,or_false] at h2
  rcases h2 with rfl | rfl
  ·exact a1
  ·exact a2
end Go.Proofs.YthlchdnbokhclaaGreat.Ql
namespace Go.Proofs.YthlchdnbokhclaaGreat.Ql
open Go Go.Proofs.YthlchdnbokhclaaGreat.Bm
abbrev onlyS (s:Scene) (p:Int→Bool):Scene:=scn s (s.Sights.filter fun g=>p g.No) s.Changes
def FeaO (s:Scene) (p:Int→Bool):Prop:=Fea (theNet (onlyS s p)).Diffs
theorem only_ok {s:Scene} (hS:SOk s) (p:Int→Bool):SOk (onlyS s p):=
 hS.scn (Nat.le_trans (List.length_filter_le _ _) hS.m.1) hS.m.2 (fun x hx=>hS.g x (List.mem_filter.1 hx).1) hS.h
theorem only_pot' {s:Scene} {p:Int→Bool} {π:Nat→Int} (hp:Pot (EE s) π):Pot (EE (onlyS s p)) π:=pot_sub (fun x hx=>(List.mem_filter.1 hx).1) (fun _ h=>h) hp
theorem filter_flat {α:Type} (p:α→Bool):∀ (xs:List α) (i:Int),lflat (fun x _=>if p x then [x] else []) xs i=xs.filter p
 | [],_=>rfl
 | x::xs,i=>by
  simp only [lflat]
  rw [filter_flat p xs,List.filter_cons]
  split <;> simp
theorem f138_eq {K:Nat} {s:Scene} (hS:SOk s) {q:Int→Option Bool} (p:Int→Bool) (hq:∀ n,q n=some (p n)):f138 K s q=some (onlyS s p):=by
 have hm:=hS.m.1
 have:Gets (f138 K s q) (·=onlyS s p):=by
  unfold f138
  refine Gets.bind (P:=(·=s.Sights.filter (fun x=>p x.No))) (rngL_flat (fun x _=>if p x.No then [x] else []) (fun acc v=>v=acc) (a0:=[]) (B:=256) (by rw [filter_flat]; exact Nat.le_trans (by simpa using List.length_filter_le _ _) hm) (by omega) rfl (fun k x acc v nx hx hB hv hnx=>?_) fun v hv=>Gets.some (by rw [hv,filter_flat]; rfl)) fun v hv=>Gets.some (by rw [hv])
  subst hv
  rw [hq,Option.bind_some]
  refine Gets.bind (P:=(·=v++if p x.No then [x] else [])) (Gets.cond (fun h=>?_) fun h=>Gets.some (by rw [h]; simp)) fun w hw=>hnx _ hw
  simp only [h,if_true] at hB ⊢
  rw [app_eq (by simp at hB ⊢; omega),Option.bind_some]
  exact Gets.some rfl
 exact this.out
def inL (l:List Int) (n:Int):Bool:=decide (n∈l)
def inW (l:List Int) (w n:Int):Bool:=decide (n≠w∧n∈l)
theorem f83_in {K:Nat} {l:List Int} {n:Int} (h:l.length≤9223372036854775807):f83 K l n=some (inL l n):=by
 rw [f83_eq K l n h]
 congr 1
 unfold inL
 rw [decide_eq_decide]
 constructor
 ·intro h1
  exact List.mem_of_getElem? (dayAt_spec h1)
 ·intro h1
  refine Classical.byContradiction fun hlt=>?_
  have:=(fidx_neg (p:=fun x:Int=>x==n) (xs:=l) (i:=0) (by omega)).1 (by unfold dayAt at hlt; omega) n h1
  simp at this
theorem f255_eq {K:Nat} {l:List Int} {w n:Int} (h:l.length≤9223372036854775807):f255 K n w l=some (inW l w n):=by
 unfold f255
 rw [f83_in h]
 by_cases h1:n=w
 ·subst h1; simp [inW]
 ·rw [show (n != w)=true by simpa using h1]
  simp [inW,inL,h1]
def ClR (s:Scene) (l:List Int):Prop:=¬ FeaO s (inL l)∧∀ n∈l,FeaO s (inW l n)
def clsQ (s:Scene) (l:List Int) (r:Int):Prop:=(¬ SOk s→r=chk s)∧(SOk s→(¬ Rise l→r=1)∧(Rise l→(ClR s l→r=0)∧(¬ ClR s l→r=43)))
theorem erase_in {l:List Int} (h:Rise l) {i:Nat} {n:Int} (hn:l[i]?=some n) {y:Int}:y∈l.eraseIdx i↔y≠n∧y∈l:=by
 rw [List.mem_eraseIdx_iff_getElem?]
 constructor
 ·rintro⟨j,hj,e⟩
  refine⟨fun hy=>?_,List.mem_of_getElem? e⟩
  subst hy
  exact hj (h.inj e hn)
 ·rintro⟨h1,h2⟩
  obtain⟨j,e⟩:=List.mem_iff_getElem?.1 h2
  refine⟨j,fun hj=>?_,e⟩
  subst hj
  rw [hn] at e; cases e; exact h1 rfl
theorem inL_erase {l:List Int} (h:Rise l) {i:Nat} {n:Int} (hn:l[i]?=some n):inL (l.eraseIdx i)=inW l n:=by
 funext y
 unfold inL inW
 rw [decide_eq_decide]
 exact erase_in h hn
end Go.Proofs.YthlchdnbokhclaaGreat.Ql
namespace Go.Proofs.YthlchdnbokhclaaGreat.Ql
open Go Go.Proofs.YthlchdnbokhclaaGreat.Bm
theorem rise_pw {l:List Int}:Rise l↔l.Pairwise (· < ·):=by
 constructor
 ·intro h
  rw [List.pairwise_iff_getElem]
  intro i j hi hj hij
  exact h.lt hij (List.getElem?_eq_getElem hi) (List.getElem?_eq_getElem hj)
 ·intro h j d d' e e'
  rw [List.pairwise_iff_getElem] at h
  obtain⟨h1,rfl⟩:=List.getElem?_eq_some_iff.1 e
  obtain⟨h2,rfl⟩:=List.getElem?_eq_some_iff.1 e'
  exact h j (j+1) h1 h2 (by omega)
theorem Rise.erase {l:List Int} (h:Rise l) (i:Nat):Rise (l.eraseIdx i):=rise_pw.2 ((rise_pw.1 h).sublist (List.eraseIdx_sublist _ _))
theorem f84_eq {K:Nat} {l:List Int} {i:Int} (h0:0≤i) (h1:i < l.length) (hl:l.length≤1000000):f84 K l i (W (i+1))=some (l.eraseIdx i.toNat):=by
 rw [W_eq (by omega) (by omega)]
 unfold f84
 have b:∀ a c d:Int,0≤a→a≤c→c≤d→bnds a c d=some ():=fun a c d h1 h2 h3=>by unfold bnds; rw [if_pos ⟨h1,h2,h3⟩]
 rw [b _ _ _ h0 (by omega) (by omega),Option.bind_some,b _ _ _ h0 (by omega) (by omega),Option.bind_some,show (i==i+1)=false by rw [beq_eq_false_iff_ne]; omega,cond_false,b _ _ _ (by omega) h0 (by omega),Option.bind_some,b _ _ _ (by omega) (by omega) (by omega),Option.bind_some]
 have e1:vapp l i (i+1) (l.length:Int) l.length=some (l.eraseIdx i.toNat):=by
  unfold vapp
  rw [if_pos ⟨by omega,by omega,by omega,by omega,by omega,by omega⟩,List.eraseIdx_eq_take_drop_succ,show (i+1).toNat=i.toNat+1 by omega]
  rw [List.take_of_length_le (i:=(l.length:Int).toNat - (i.toNat+1)) (l:=l.drop (i.toNat+1)) (by simp)]
 have hlen:(l.eraseIdx i.toNat).length=l.length - 1:=by rw [List.length_eraseIdx,if_pos (by omega)]
 rw [e1,Option.bind_some,b _ _ _ (by omega) (by simp; omega) (by omega),Option.bind_some]
 unfold vown clrI clr
 have e2:(((Int.toNat ((l.eraseIdx i.toNat).length:Int) - Int.toNat 0:Nat):Int)).toNat=(l.eraseIdx i.toNat).length:=by simp
 rw [e2,if_pos ⟨by omega,by simp; omega⟩,Option.bind_some,show (((l.eraseIdx i.toNat).length:Int)).toNat=(l.eraseIdx i.toNat).length from rfl]
 simp
structure LeastQ (l:List Int) (P:List Int→Bool) (r:List Int):Prop where
 rise:Rise r
 sub:∀ x∈r,x∈l
 has:P l=true→P r=true
 min:∀ i,i < r.length→P (r.eraseIdx i)=false
 len:r.length≤l.length
theorem f135_eq {l:List Int} {q:List Int→Option Bool} {P:List Int→Bool} (hl:Rise l) (hll:l.length≤1000000) (hq:∀ x:List Int,x.length≤l.length→q x=some (P x)) (hm:∀ a b,Rise a→Rise b→(∀ x∈a,x∈b)→P a=true→P b=true):Gets (f135 4611686018427387904 l q) (LeastQ l P):=by
 have e85:∀ z:List Int,z.length≤1000000→f85 4611686018427387904 z=some z:=fun z hz=>by unfold f85; rw [app_eq (by simp; omega)]; rfl
 unfold f135
 rw [e85 l hll,Option.bind_some]
 refine Gets.bind (P:=LeastQ l P) ?_ fun r hr=>Gets.some hr
 refine whl_gets (fun v:List Int × Int=>Rise v.1∧(∀ x∈v.1,x∈l)∧(P l=true→P v.1=true)∧0≤v.2∧v.2≤v.1.length∧v.1.length≤l.length∧∀ j:Nat,(j:Int) < v.2→P (v.1.eraseIdx j)=false) (fun v=>(2*v.1.length - v.2).toNat) ?_ ⟨hl,fun _ h=>h,fun h=>h,Int.le_refl _,by simp,Nat.le_refl _,fun j h=>by simp only at h; omega⟩ (by simp only; omega)
 rintro⟨v,i⟩ nx ⟨h1,h2,h3,h4,h5,h6,h7⟩ hnx
 simp only at h1 h2 h3 h4 h5 h6 h7
 refine Gets.cond (fun h=>?_) fun h=>Gets.some ⟨h1,h2,h3,fun j hj=>h7 j ?_,h6⟩
 ·have h:i < v.length:=of_decide_eq_true h
  have hlen:(v.eraseIdx i.toNat).length=v.length - 1:=by rw [List.length_eraseIdx,if_pos (by omega)]
  have hi:v[i.toNat]?=some v[i.toNat]:=List.getElem?_eq_getElem (by omega)
  rw [e85 v (by omega),Option.bind_some,f84_eq h4 h (by omega),Option.bind_some,hq _ (by omega),Option.bind_some]
  cases hP:P (v.eraseIdx i.toNat)
  ·rw [cond_false,Option.bind_some,W_eq (by omega) (by omega)]
   refine hnx _ ⟨h1,h2,h3,by simp only; omega,by simp only; omega,h6,fun j hj=>?_⟩ (by simp only; omega)
   simp only at hj
   by_cases hji:(j:Int)=i
   ·rw [show j=i.toNat by omega]; exact hP
   ·exact h7 j (by omega)
  ·rw [cond_true,Option.bind_some]
   refine hnx _ ⟨h1.erase _,fun x hx=>h2 x ((erase_in h1 hi).1 hx).2,fun _=>hP,h4,by simp only; omega,by simp only; omega,fun j hj=>?_⟩ (by simp only; omega)
   simp only at hj ⊢
   have hj2:v[j]?=some v[j]:=List.getElem?_eq_getElem (by omega)
   have hj3:(v.eraseIdx i.toNat)[j]?=some v[j]:=by rw [List.getElem?_eraseIdx_of_lt (by omega)]; exact hj2
   cases hc:P ((v.eraseIdx i.toNat).eraseIdx j)
   ·rfl
   ·have:=hm _ (v.eraseIdx j) ((h1.erase _).erase _) (h1.erase _) (fun x hx=>by
     obtain⟨a1,a2⟩:=(erase_in (h1.erase _) hj3).1 hx
     exact(erase_in h1 hj2).2 ⟨a1,((erase_in h1 hi).1 a2).2⟩) hc
    rw [h7 j hj] at this; cases this
 ·have h:¬ i < v.length:=of_decide_eq_false h
  omega
def SameIn (n:Nat) (v xs:List Int):Prop:=(∀ k,k < n→∃ k',k' < n∧v.getD k 0=xs.getD k' 0)∧∀ k,k < n→∃ k',k' < n∧xs.getD k 0=v.getD k' 0
theorem f319_eq {K:Nat} {a b:Int}:f319 K a b=some (decide (a < b)):=by
 unfold f319 f350
 simp
theorem f313_eq {xs:List Int} (hn:xs.length≤1000):Gets (f313 4611686018427387904 xs 0 xs.length) fun r=>r.length=xs.length∧SameIn xs.length r xs∧∀ a b,a < b→b < xs.length→r.getD a 0≤r.getD b 0:=by
 unfold f313
 refine Gets.bind (P:=fun r=>r.length=xs.length∧SameIn xs.length r xs∧∀ a b,a < b→b < xs.length→r.getD a 0≤r.getD b 0) ?_ fun r hr=>Gets.some hr
 rw [show W (0+1)=1 by decide]
 refine rngN_gets (fun i v=>v.length=xs.length∧SameIn xs.length v xs∧∀ a b:Nat,a < b→(b:Int) < i→b < xs.length→v.getD a 0≤v.getD b 0) ⟨by omega,by omega⟩ ⟨rfl,⟨fun k hk=>⟨k,hk,rfl⟩,fun k hk=>⟨k,hk,rfl⟩⟩,fun a b h1 h2=>by omega⟩ (fun i v nx h0 h1 ⟨h2,h3,h4⟩ hnx=>?_) fun i v h0 h1 h2 h3 ⟨h4,h5,h6⟩=>Gets.some ⟨h4,h5,fun a b hab hb=>h6 a b hab (by omega) hb⟩
 refine Gets.bind (P:=fun w=>w.length=xs.length∧SameIn xs.length w xs∧∀ a b:Nat,a < b→(b:Int)≤i→b < xs.length→w.getD a 0≤w.getD b 0) ?_ fun w hw=>hnx _ ⟨hw.1,hw.2.1,fun a b hab hb hb2=>hw.2.2 a b hab (by omega) hb2⟩
 refine whl_gets (fun v:List Int × Int=>v.1.length=xs.length∧SameIn xs.length v.1 xs∧0≤v.2∧v.2≤i∧∀ a b:Nat,a < b→(b:Int)≤i→b < xs.length→(b:Int)≠v.2→v.1.getD a 0≤v.1.getD b 0) (fun v=>v.2.toNat) ?_ ⟨h2,h3,by simp only; omega,Int.le_refl _,fun a b hab hb hb2 hne=>h4 a b hab (by simp only at hne; omega) hb2⟩ (by simp only; omega)
 rintro⟨v,j⟩ nx2 ⟨k1,k2,k3,k4,k5⟩ hnx2
 simp only at k1 k2 k3 k4 k5
 refine Gets.bind (P:=fun r=>(r=true↔0 < j∧v.getD j.toNat 0 < v.getD (j - 1).toNat 0)) (Gets.cond (fun h=>?_) fun h=>Gets.some ?_) fun r hr=>Gets.cond (fun h=>?_) fun h=>Gets.some ⟨k1,k2,fun a b hab hb hb2=>?_⟩
 ·have h:0 < j:=by have:=of_decide_eq_true h; omega
  rw [W_eq (by omega) (by omega),ix_getD 0 k3 (by omega),Option.bind_some,ix_getD 0 (by omega) (by omega),Option.bind_some,f319_eq,Option.bind_some]
  refine Gets.some ?_
  rw [decide_eq_true_eq]
  exact⟨fun h'=>⟨h,h'⟩,fun h'=>h'.2⟩
 ·have h:¬ 0 < j:=by have:=of_decide_eq_false h; omega
  exact⟨fun h'=>(by cases h'),fun h'=>absurd h'.1 h⟩
 ·obtain⟨h5,h6⟩:=hr.1 h
  rw [W_eq (by omega) (by omega),ix_getD 0 (i:=j - 1) (by omega) (by omega),Option.bind_some,ix_getD 0 k3 (by omega),Option.bind_some,ix_getD 0 (i:=j - 1) (by omega) (by simp; omega),Option.bind_some]
  have hg:∀ k:Nat,((v.set j.toNat (v.getD (j - 1).toNat 0)).set (j - 1).toNat (v.getD j.toNat 0)).getD k 0=if k=(j - 1).toNat then v.getD j.toNat 0 else if k=j.toNat then v.getD (j - 1).toNat 0 else v.getD k 0:=fun k=>by
   rw [getD_set (by simp; omega),getD_set (by omega)]
  refine hnx2 _ ⟨by simp [k1],⟨fun k hk=>?_,fun k hk=>?_⟩,by simp only; omega,by simp only; omega,fun a b hab hb hb2 hne=>?_⟩ (by simp only; omega)
  ·simp only [hg]
   split
   ·exact k2.1 _ (by omega)
   ·split
    ·exact k2.1 _ (by omega)
    ·exact k2.1 _ hk
  ·obtain⟨k',q1,q2⟩:=k2.2 k hk
   by_cases e1:k'=j.toNat
   ·exact⟨(j - 1).toNat,by omega,by rw [hg,if_pos rfl,q2,e1]⟩
   ·by_cases e2:k'=(j - 1).toNat
    ·exact⟨j.toNat,by omega,by rw [hg,if_neg (by omega),if_pos rfl,q2,e2]⟩
    ·exact⟨k',q1,by rw [hg,if_neg e2,if_neg e1,q2]⟩
  ·simp only at hne
   simp only [hg]
   by_cases b1:b=j.toNat
   ·rw [if_neg (show ¬ b=(j - 1).toNat by omega),if_pos b1]
    by_cases a1:a=(j - 1).toNat
    ·rw [if_pos a1]; omega
    ·rw [if_neg a1,if_neg (by omega)]
     exact k5 a (j - 1).toNat (by omega) (by omega) (by omega) (by omega)
   ·rw [if_neg (show ¬ b=(j - 1).toNat by omega),if_neg b1]
    by_cases a1:a=(j - 1).toNat
    ·rw [if_pos a1]
     exact k5 j.toNat b (by omega) hb hb2 (by omega)
    ·rw [if_neg a1]
     by_cases a2:a=j.toNat
     ·rw [if_pos a2]
      exact k5 (j - 1).toNat b (by omega) hb hb2 (by omega)
     ·rw [if_neg a2]
      exact k5 a b hab hb hb2 (by omega)
 ·have h:¬ (0 < j∧v.getD j.toNat 0 < v.getD (j - 1).toNat 0):=fun h'=>by rw [hr.2 h'] at h; cases h
  by_cases hbj:(b:Int)=j
  ·have e1:j.toNat=b:=by omega
   rw [e1] at h
   have h:v.getD (j - 1).toNat 0≤v.getD b 0:=by omega
   by_cases ha:a=(j - 1).toNat
   ·rw [ha]; exact h
   ·have:=k5 a (j - 1).toNat (by omega) (by omega) (by omega) (by omega)
    exact Int.le_trans this h
  ·exact k5 a b hab hb hb2 hbj
theorem f254_all:∀ n:Nat,n≤12→∃ r,f254 4611686018427387904 (IntKind.wrap .u64 (n:Int))=some r:=by
 have h:∀ n:Nat,n≤12→(f254 4611686018427387904 (IntKind.wrap .u64 (n:Int))).isSome=true:=by decide +kernel
 exact fun n hn=>Option.isSome_iff_exists.1 (h n hn)
theorem f133_eq {xs:List Int} (hn:xs.length≤12):Gets (f133 4611686018427387904 xs) fun r=>r.length=xs.length∧SameIn xs.length r xs∧∀ a b,a < b→b < xs.length→r.getD a 0≤r.getD b 0:=by
 unfold f133
 obtain⟨m,hm⟩:=f254_all xs.length hn
 rw [hm,Option.bind_some]
 unfold f253
 refine Gets.bind (P:=fun r=>r.length=xs.length∧SameIn xs.length r xs∧∀ a b,a < b→b < xs.length→r.getD a 0≤r.getD b 0) ?_ fun r hr=>Gets.some hr
 refine whl_count (fun _ _=>True) 0 ?_ (k:=0) trivial (by omega) (by omega)
 intro k v nx _ _ _
 rw [W_eq (by omega) (by omega),show decide ((xs.length:Int) - 0≤12)=true by rw [decide_eq_true_eq]; omega,cond_true]
 exact Gets.bind (f313_eq (by omega)) fun r hr=>Gets.some hr
end Go.Proofs.YthlchdnbokhclaaGreat.Ql
namespace Go.Proofs.YthlchdnbokhclaaGreat.Ql
open Go Go.Proofs.YthlchdnbokhclaaGreat.Bm
theorem SameIn.mem {v xs:List Int} (h:SameIn xs.length v xs) (hl:v.length=xs.length) (x:Int):x∈v↔x∈xs:=by
 constructor
 ·intro hx
  obtain⟨i,hi⟩:=List.mem_iff_getElem?.1 hx
  obtain⟨k,h1,h2⟩:=h.1 i (by have:=(List.getElem?_eq_some_iff.1 hi).1; omega)
  rw [List.getD_eq_getElem?_getD,hi] at h2
  have h2:x=xs.getD k 0:=h2
  rw [h2]; exact getD_mem h1
 ·intro hx
  obtain⟨i,hi⟩:=List.mem_iff_getElem?.1 hx
  obtain⟨k,h1,h2⟩:=h.2 i (List.getElem?_eq_some_iff.1 hi).1
  rw [List.getD_eq_getElem?_getD,hi] at h2
  have h2:x=v.getD k 0:=h2
  rw [h2]; exact getD_mem (by omega)
structure CompQ (xs r:List Int):Prop where
 rise:Rise r
 mem:∀ x,x∈r↔x∈xs
 len:r.length≤xs.length
theorem rise_getD {l:List Int}:Rise l↔∀ j,j+1 < l.length→l.getD j 0 < l.getD (j+1) 0:=by
 constructor
 ·intro h j hj
  rw [List.getD_eq_getElem?_getD,List.getD_eq_getElem?_getD,List.getElem?_eq_getElem (by omega),List.getElem?_eq_getElem (by omega)]
  exact h j _ _ (List.getElem?_eq_getElem (by omega)) (List.getElem?_eq_getElem hj)
 ·intro h j d d' e e'
  have:=h j (List.getElem?_eq_some_iff.1 e').1
  rw [List.getD_eq_getElem?_getD,List.getD_eq_getElem?_getD,e,e'] at this
  exact this
theorem f134_eq {K:Nat} {xs:List Int} (hn:xs.length≤1000) (hs:∀ a b,a < b→b < xs.length→xs.getD a 0≤xs.getD b 0):Gets (f134 K xs) (CompQ xs):=by
 have b:∀ a c d:Int,0≤a→a≤c→c≤d→bnds a c d=some ():=fun a c d h1 h2 h3=>by unfold bnds; rw [if_pos ⟨h1,h2,h3⟩]
 have vx:∀ a c d:Int,0≤a→0≤d→d < c - a→vix a c d=some ():=fun a c d h1 h2 h3=>by unfold vix; rw [if_pos ⟨h1,h2,h3⟩]
 unfold f134
 refine Gets.cond (fun h=>Gets.some ⟨?_,fun x=>Iff.rfl,Nat.le_refl _⟩) fun h=>?_
 ·have:=of_decide_eq_true h
  exact rise_getD.2 fun j hj=>by omega
 have h2:2≤xs.length:=by have:=of_decide_eq_false h; omega
 refine Gets.jo (fun _=>∀ j,j+1 < xs.length→xs.getD j 0 < xs.getD (j+1) 0) (fun _ h1=>Gets.some ⟨rise_getD.2 h1,fun x=>Iff.rfl,Nat.le_refl _⟩) fun j hj=>rngN_gets (fun i _=>∀ j:Nat,(j:Int)+1 < i→j+1 < xs.length→xs.getD j 0 < xs.getD (j+1) 0) ⟨by omega,by omega⟩ (fun j h1 h2=>by omega) (fun i _ nx h0 h1 hi hnx=>?_) fun i _ h0 h1 h2 h3 hi=>hj _ fun j hj=>hi j (by omega) hj
 have hle:=hs (i - 1).toNat i.toNat (by omega) (by omega)
 rw [ix_getD 0 (by omega) h1,Option.bind_some,W_eq (by omega) (by omega),ix_getD 0 (by omega) (by omega),Option.bind_some]
 refine Gets.cond (fun h3=>?_) fun h3=>hnx _ fun j hj1 hj2=>?_
 ·have h3:xs.getD i.toNat 0=xs.getD (i - 1).toNat 0:=by simpa only [beq_iff_eq] using h3
  rw [b _ _ _ (by omega) (by omega) (by omega),Option.bind_some]
  refine Gets.bind (P:=fun v:List Int × Int=>v.1.length=xs.length∧0≤v.2∧v.2≤xs.length∧(∀ a:Nat,(a:Int)+1 < v.2→v.1.getD a 0 < v.1.getD (a+1) 0)∧(∀ a:Nat,(a:Int) < v.2→∃ c,c < xs.length∧v.1.getD a 0=xs.getD c 0)∧∀ c,c < xs.length→∃ a:Nat,(a:Int) < v.2∧xs.getD c 0=v.1.getD a 0) ?_ fun v hv=>?_
  ·refine rngN_gets (fun(m:Int) (v:List Int × Int)=>v.1.length=xs.length∧i≤v.2∧v.2≤i+m - 1∧(∀ a:Nat,(a:Int)+1 < v.2→v.1.getD a 0 < v.1.getD (a+1) 0)∧(∀ a:Nat,(a:Int) < v.2→∃ c,c < xs.length∧v.1.getD a 0=xs.getD c 0)∧(∀ c:Nat,(c:Int) < i+m→c < xs.length→∃ a:Nat,(a:Int) < v.2∧xs.getD c 0=v.1.getD a 0)∧v.1.getD (v.2 - 1).toNat 0=xs.getD (i+m - 1).toNat 0∧∀ c:Nat,i+m - 1≤c→v.1.getD c 0=xs.getD c 0) ⟨by omega,by omega⟩ ⟨rfl,Int.le_refl _,by simp only; omega,fun a ha=>hi a (by simp only at ha; omega) (by simp only at ha; omega),fun a ha=>⟨a,by simp only at ha; omega,rfl⟩,fun c hc hcl=>?_,by simp only; rw [← h3]; congr 1; omega,fun c _=>rfl⟩ (fun m v nx2 hm0 hm1 hv hnx2=>?_) fun m v hm0 hm1 hm2 hm3 hv=>Gets.some ?_
   ·by_cases hci:(c:Int)=i
    ·exact⟨(i - 1).toNat,by simp only; omega,by simp only; rw [← h3]; congr 1; omega⟩
    ·exact⟨c,by simp only; omega,rfl⟩
   ·obtain⟨v,t⟩:=v
    obtain⟨k1,k2,k3,k4,k5,k6,k7,k8⟩:=hv
    simp only at k1 k2 k3 k4 k5 k6 k7 k8
    have hm1:m < (xs.length:Int) - i:=by omega
    have e1:=k8 (i+m).toNat (by omega)
    have e2:=k8 (i+m - 1).toNat (by omega)
    have hle2:=hs (i+m - 1).toNat (i+m).toNat (by omega) (by omega)
    dsimp only
    rw [vx _ _ _ (by omega) (by omega) (by omega),Option.bind_some,ix_getD 0 (by omega) (by omega),Option.bind_some,W_eq (by omega) (by omega),vx _ _ _ (by omega) (by omega) (by omega),Option.bind_some,ix_getD 0 (by omega) (by omega),Option.bind_some,show i+(m - 1)=i+m - 1 by omega,e1,e2]
    have en:((i+(m+1) - 1).toNat)=(i+m).toNat:=by omega
    refine Gets.bind (P:=fun w:List Int × Int=>(xs.getD (i+m).toNat 0=xs.getD (i+m - 1).toNat 0∧w=(v,t))∨(xs.getD (i+m - 1).toNat 0 < xs.getD (i+m).toNat 0∧w=(v.set t.toNat (xs.getD (i+m).toNat 0),t+1))) (Gets.cond (fun h4=>?_) fun h4=>Gets.some (.inl ⟨by simpa only [bne_eq_false_iff_eq] using h4,rfl⟩)) fun w hw=>?_
    ·have h4:xs.getD (i+m).toNat 0≠xs.getD (i+m - 1).toNat 0:=by simpa only [bne_iff_ne,ne_eq] using h4
     rw [Option.bind_some,ix_getD 0 (by omega) (by omega),Option.bind_some,W_eq (by omega) (by omega)]
     exact Gets.some (.inr ⟨by omega,rfl⟩)
    ·rcases hw with ⟨h4,rfl⟩ | ⟨h4,rfl⟩
     ·refine hnx2 _ ⟨k1,k2,by simp only; omega,k4,k5,fun c hc hcl=>?_,?_,fun c hc=>k8 c (by omega)⟩
      ·by_cases hcm:(c:Int)=i+m
       ·refine⟨(t - 1).toNat,by simp only; omega,?_⟩
        simp only
        rw [k7,← h4,show c=(i+m).toNat by omega]
       ·exact k6 c (by omega) hcl
      ·simp only
       rw [en,k7,h4]
     ·have hg:∀ k:Nat,(v.set t.toNat (xs.getD (i+m).toNat 0)).getD k 0=if k=t.toNat then xs.getD (i+m).toNat 0 else v.getD k 0:=fun k=>getD_set (by omega) k
      refine hnx2 _ ⟨by simp [k1],by simp only; omega,by simp only; omega,fun a ha=>?_,fun a ha=>?_,fun c hc hcl=>?_,?_,fun c hc=>?_⟩
      ·simp only at ha ⊢
       rw [hg,hg,if_neg (by omega)]
       by_cases h5:a+1=t.toNat
       ·rw [if_pos h5]
        have h6:(t - 1).toNat=a:=by omega
        rw [h6] at k7
        omega
       ·rw [if_neg h5]; exact k4 a (by omega)
      ·simp only at ha ⊢
       rw [hg]
       split
       ·exact⟨(i+m).toNat,by omega,rfl⟩
       ·exact k5 a (by omega)
      ·simp only
       by_cases hcm:(c:Int)=i+m
       ·exact⟨t.toNat,by omega,by rw [hg,if_pos rfl,show c=(i+m).toNat by omega]⟩
       ·obtain⟨a,a1,a2⟩:=k6 c (by omega) hcl
        exact⟨a,by omega,by rw [hg,if_neg (by omega)]; exact a2⟩
      ·simp only
       rw [hg,if_pos (by omega),en]
      ·simp only
       rw [hg,if_neg (by omega)]
       exact k8 c (by omega)
   ·obtain⟨v,t⟩:=v
    obtain⟨k1,k2,k3,k4,k5,k6,k7,k8⟩:=hv
    simp only at k1 k2 k3 k4 k5 k6
    exact⟨k1,by simp only; omega,by simp only; omega,k4,k5,fun c hc=>k6 c (by omega) hc⟩
  ·obtain⟨v,t⟩:=v
   obtain⟨k1,k2,k3,k4,k5,k6⟩:=hv
   simp only at k1 k2 k3 k4 k5 k6
   have hcl:(clrI v t (v.length:Int) 0).length=v.length:=by unfold clrI clr; simp; omega
   dsimp only
   rw [b _ _ _ (by omega) (by omega) (by omega),Option.bind_some,b _ _ _ (by omega) (by omega) (by omega),Option.bind_some]
   have hv:vown (clrI v t (v.length:Int) 0) t=some (v.take t.toNat):=by
    unfold vown
    rw [if_pos ⟨by omega,by omega⟩]
    unfold clrI clr
    rw [List.append_assoc,List.take_append_of_le_length (by simp; omega),List.take_take]
    simp
   rw [hv,Option.bind_some]
   have hg:∀ a:Nat,(a:Int) < t→(v.take t.toNat).getD a 0=v.getD a 0:=fun a ha=>by
    rw [List.getD_eq_getElem?_getD,List.getElem?_take_of_lt (by omega),← List.getD_eq_getElem?_getD]
   have hl:(v.take t.toNat).length=t.toNat:=by simp; omega
   refine Gets.some ⟨rise_getD.2 fun a ha=>?_,fun x=>⟨fun hx=>?_,fun hx=>?_⟩,by omega⟩
   ·rw [hg _ (by omega),hg _ (by omega)]
    exact k4 a (by omega)
   ·obtain⟨a,ha⟩:=List.mem_iff_getElem?.1 hx
    have hal:=(List.getElem?_eq_some_iff.1 ha).1
    obtain⟨c,c1,c2⟩:=k5 a (by omega)
    rw [← hg a (by omega),List.getD_eq_getElem?_getD,ha] at c2
    have c2:x=xs.getD c 0:=c2
    rw [c2]; exact getD_mem c1
   ·obtain⟨c,hc⟩:=List.mem_iff_getElem?.1 hx
    obtain⟨a,a1,a2⟩:=k6 c (List.getElem?_eq_some_iff.1 hc).1
    rw [← hg a a1,List.getD_eq_getElem?_getD,hc] at a2
    have a2:x=(v.take t.toNat).getD a 0:=a2
    rw [a2]; exact getD_mem (by omega)
 ·have h3:¬ xs.getD i.toNat 0=xs.getD (i - 1).toNat 0:=by simpa only [beq_eq_false_iff_ne,ne_eq] using h3
  by_cases hji:(j:Int)+1=i
  ·have e1:j=(i - 1).toNat:=by omega
   have e2:j+1=i.toNat:=by omega
   rw [e2,e1]
   omega
  ·exact hi j (by omega) hj2
theorem f189_eq {s:Scene} (hg:s.Sights.length≤12):Gets (f189 4611686018427387904 s) (CompQ (s.Sights.map fun g=>g.No)):=by
 unfold f189
 refine Gets.bind (P:=(·=s.Sights.map fun g=>g.No)) (rngL_gets (fun(k:Nat) (v:List Int)=>v=(s.Sights.take k).map fun g=>g.No) (by omega) rfl (fun k g v nx hx hv hnx=>?_) fun v hv=>Gets.some (by rw [hv,List.take_length])) fun v hv=>?_
 ·have hk:=(List.getElem?_eq_some_iff.1 hx).1
  subst hv
  rw [app_eq (by simp; omega),Option.bind_some]
  exact hnx _ (by rw [List.take_succ,hx]; simp)
 ·subst hv
  refine Gets.bind (f133_eq (by simpa using hg)) fun r hr=>Gets.bind (f134_eq (by rw [hr.1]; simp; omega) (by rw [hr.1]; exact hr.2.2)) fun q hq=>Gets.some ⟨hq.rise,fun x=>by rw [hq.mem,hr.2.1.mem hr.1],by rw [← hr.1]; exact hq.len⟩
end Go.Proofs.YthlchdnbokhclaaGreat.Ql
namespace Go.Proofs.YthlchdnbokhclaaGreat.Ql
open Go Go.Proofs.YthlchdnbokhclaaGreat.Bm
structure Round (n:Net) (ds:List Diff):Prop where
 pos:0 < ds.length
 mem:∀ d∈ds,d∈n.Diffs
 neg:∃ a x,pth ds a 0=some (a,x)∧x < 0
 inj:∀ (i j:Nat) d d',i < j→ds[i]?=some d→ds[j]?=some d'→d.From≠d'.From
def clashQ (n:Net) (r:List Int × Bool × Int):Prop:=(Fea n.Diffs∧r=([],false,0))∨(¬ Fea n.Diffs∧r.2=(true,0)∧∃ ds,AtP n.Diffs r.1 ds∧Round n ds)
end Go.Proofs.YthlchdnbokhclaaGreat.Ql
namespace Go.Proofs.YthlchdnbokhclaaGreat.Ql
open Go Go.Proofs.YthlchdnbokhclaaGreat.Bm
def clQ' (s:Scene) (r:List Int × Bool × Int):Prop:=
 (¬ SOk s∧r=([],false,chk s))∨(SOk s∧Fea (theNet s).Diffs∧r=([],false,0))∨(SOk s∧¬ Fea (theNet s).Diffs∧r.2=(true,0)∧Rise r.1∧r.1.length≤2∧ClR s r.1)
open Classical in
noncomputable def notFea (s:Scene) (l:List Int):Bool:=decide (¬ FeaO s (inL l))
end Go.Proofs.YthlchdnbokhclaaGreat.Ql
namespace Go.Proofs.YthlchdnbokhclaaGreat.Ql
open Go
theorem Lens.wf {s:Scene} (h:wf30 s):Lens s:=by
 have:=h.Basin.Cells.1
 have:=h.Basin.Pairs.1
 have:=h.Days.1
 have:=h.Sights.1
 have:=h.Changes.1
 unfold maxLen at *
 exact⟨by omega,by omega,by omega,by omega,by omega⟩
theorem wf_len {n:Nat} (h:n≤maxLen):n≤9223372036854775807:=by unfold maxLen at h; omega
end Go.Proofs.YthlchdnbokhclaaGreat.Ql
namespace Go.Proofs.YthlchdnbokhclaaGreat.Ql
open Go
theorem f131_eq (K:Nat) (s:Scene) (h:SOk s):f131 K s=some s:=by
 have h1:=h.b.c2
 have h2:=h.b.p1
 have h3:=h.d.2.1
 have h4:=h.m
 unfold f131 f249 f250 f85 f42 f43
 rw [app_eq (by simp; omega),Option.bind_some,app_eq (by simp; omega),Option.bind_some,app_eq (by simp; omega),Option.bind_some,app_eq (by simp; omega),Option.bind_some,app_eq (by simp; omega),Option.bind_some]
 rfl
theorem flat_filter {α:Type} (p:α→Bool):∀ (xs:List α) (i:Int),lflat (fun x _=>if p x then [x] else []) xs i=xs.filter p
 | [],_=>rfl
 | x::xs,i=>by
  simp only [lflat]
  rw [flat_filter p xs,List.filter_cons]
  split <;> simp
def none4:Scene:=⟨⟨[],[],0,0,0⟩,[],[],[]⟩
def with2 (s:Scene) (g:Sight) (r:Scene × Int):Prop:=
 (chk s≠0→r=(none4,chk s))∧(SOk s→s.Sights.length=256→r=(none4,2))∧(SOk s→s.Sights.length≠256→¬ SightOk s g→r=(none4,51))∧(SOk s→s.Sights.length≠256→SightOk s g→r=({ s with Sights:=s.Sights++[g] },0))
def wout2 (s:Scene) (n:Int) (r:Scene × Int):Prop:=(chk s≠0→r=(none4,chk s))∧(SOk s→r=({ s with Sights:=s.Sights.filter (fun x=>x.No != n) },0))
theorem f67_eq (K:Nat) (s:Scene) (n:Int) (hL:Lens s):Gets (f67 K s n) (wout2 s n):=by
 unfold f67
 refine Gets.bind (f66_eq K s hL) fun a ha=>Gets.cond (fun h=>Gets.some ?_) fun h=>?_
 ·subst ha
  have h:chk s≠0:=by simpa using h
  exact⟨fun _=>rfl,fun h'=>absurd (chk_iff.2 h') h⟩
 subst ha
 have h0:chk s=0:=by simpa using h
 have hs:=chk_iff.1 h0
 have hm:=hs.m.1
 rw [f131_eq K s hs,Option.bind_some]
 unfold f138
 refine Gets.bind (P:=(·={ s with Sights:=s.Sights.filter (fun x=>x.No != n) })) (Gets.bind (P:=(·=s.Sights.filter (fun x=>x.No != n))) (rngL_flat (fun x _=>if x.No != n then [x] else []) (fun acc v=>v=acc) (a0:=[]) (B:=256) (by rw [flat_filter]; exact Nat.le_trans (by simpa using List.length_filter_le _ _) hm) hL.g rfl (fun k x acc v nx hx hB hv hnx=>?_) fun v hv=>Gets.some (by rw [hv,flat_filter]; rfl)) fun v hv=>Gets.some (by rw [hv])) fun v hv=>Gets.some ⟨fun h'=>absurd h0 h',fun _=>by rw [hv]⟩
 subst hv
 simp only [f176,Option.bind_some]
 refine Gets.bind (P:=(·=v++if x.No != n then [x] else [])) (Gets.cond (fun h=>?_) fun h=>Gets.some (by rw [h]; simp)) fun w hw=>hnx _ hw
 simp only [h,if_true] at hB ⊢
 rw [app_eq (by simp at hB ⊢; omega),Option.bind_some]
 exact Gets.some rfl
end Go.Proofs.YthlchdnbokhclaaGreat.Ql
namespace Go.Proofs.YthlchdnbokhclaaGreat.Ql
open Go Go.Proofs.YthlchdnbokhclaaGreat.Bm
structure Nar (p0 p1:Scene):Prop where
 h0:SOk p0
 ex:∃ g c,p1=scn p0 g c∧SOk (scn p0 g c)∧(∀ x∈g,x∈p0.Sights)∧∀ x∈c,x∈p0.Changes
def Ins (a b:Span):Prop:=b.Lo≤a.Lo∧a.Hi≤b.Hi
theorem f68_in {K:Nat} {a b:Span} (h:Ins a b):f68 K a b=some true:=by
 unfold f68
 rw [show (decide (b.Lo≤a.Lo)&&decide (a.Hi≤b.Hi))=true by simp only [Bool.and_eq_true,decide_eq_true_eq]; exact h]
theorem nar_cel {p0 p1:Scene} (h:Nar p0 p1) {c d:Int} {r r':Span × Int} (hr:celQ p0 c d r) (hr':celQ p1 c d r') (h0:r.2=0):r'.2=0∧Ins r.1 r'.1:=by
 obtain⟨hS,g,c',rfl,hT,hg,hc⟩:=h
 have hP:∀ {π},Pot (EE p0) π→Pot (EE (scn p0 g c')) π:=fun hp=>pot_sub hg hc hp
 rcases hr with ⟨h1,_⟩ | ⟨_,_,h1⟩ | ⟨_,_,_,h1⟩ | ⟨_,h1,⟨π,h2⟩,x,y,h3,h4,h5⟩
 ·exact absurd hS h1
 ·subst h1; simp at h0
 ·subst h1; simp at h0
 ·rcases hr' with ⟨k1,_⟩ | ⟨_,k1,_⟩ | ⟨_,_,k1,_⟩ | ⟨_,_,_,x',y',k3,k4,k5⟩
  ·exact absurd hT k1
  ·exact absurd h1 k1
  ·exact absurd ⟨π,hP h2⟩ k1
  ·subst h5 k5
   have hsn:=sightNode_in h1.1 h1.2
   have a1:=k3.bot _ (hP h3.pot) h3.z (sightNode p0 c d).toNat (show _ < NN p0 by omega)
   have a2:=k4.top _ (hP h4.pot) h4.z (sightNode p0 c d).toNat (show _ < NN p0 by omega)
   exact⟨rfl,a1,a2⟩
end Go.Proofs.YthlchdnbokhclaaGreat.Ql
namespace Go.Proofs.YthlchdnbokhclaaGreat.Ql
open Go Go.Proofs.YthlchdnbokhclaaGreat.Bm
abbrev OkC (s:Scene) (l:List Int) (d:Int):Prop:=ClsOk s l∧0≤dayAt s.Days d
theorem f191_eq {K:Nat} {a b:List Span} (ha:a.length≤1000000) (hb:b.length≤1000000):Gets (f191 K a b) fun r=>(r=true↔a=b):=by
 unfold f191
 refine Gets.cond (fun h=>Gets.some ?_) fun h=>?_
 ·refine⟨fun h'=>(by cases h'),fun h'=>?_⟩
  subst h'; simp at h
 have hl:a.length=b.length:=by
  have:(a.length:Int)=b.length:=by simpa using h
  omega
 refine Gets.jo (fun _=>a=b) (fun _ h=>Gets.some ⟨fun _=>h,fun _=>rfl⟩) fun j hj=>rngL_gets (fun k _=>∀ i:Nat,i < k→a[i]?=b[i]?) (by omega) (fun i h=>by omega) (fun k x _ nx hx hi hnx=>?_) fun _ h=>hj _ (List.ext_getElem? fun i=>?_)
 ·have hk:=(List.getElem?_eq_some_iff.1 hx).1
  obtain⟨y,e1,e2⟩:=ix_lt (xs:=b) (i:=(k:Int)) (by omega) (by omega)
  rw [e1,Option.bind_some]
  rw [show (k:Int).toNat=k by omega] at e2
  refine Gets.cond (fun h=>Gets.some ⟨fun h'=>(by cases h'),fun h'=>?_⟩) fun h=>hnx _ fun i hik=>?_
  ·subst h'; rw [hx] at e2; cases e2; simp at h
  ·by_cases hk:i=k
   ·subst hk; rw [hx,e2,show x=y by simpa using h]
   ·exact hi i (by omega)
 ·by_cases hi:i < a.length
  ·exact h i hi
  ·rw [List.getElem?_eq_none (by omega),List.getElem?_eq_none (by omega)]
def SameS (s t:Scene) (l:List Int) (d:Int):Prop:=∀ no∈l,∀ r r',celQ s no d r→celQ t no d r'→r.1=r'.1
abbrev SameP (s:Scene) (p:Int→Bool) (l:List Int) (d:Int):Prop:=SameS s (onlyS s p) l d
theorem cel_ex {s:Scene} (hL:Lens s) (c d:Int):∃ r,celQ s c d r:=by
 obtain⟨r,_,h⟩:=f34_eq hL (c:=c) (d:=d)
 exact⟨r,h⟩
theorem f195_gets {s:Scene} (hS:SOk s) {l:List Int} {d:Int} (hok:OkC s l d) {x y:List Int} (hF:Fea (theNet s).Diffs) (hx:IsBot (NN s) (EE s) x) (hy:IsTop (NN s) (EE s) y) {q:Int→Option Bool} {p:Int→Bool} (hq:∀ n,q n=some (p n)):Gets (f195 4611686018427387904 q s (spots s l d) ((spots s l d).map (spanAt s x y))) fun r=>(r=true↔SameP s p l d):=by
 have hl:=hok.1.len
 have hbc:=hS.b.c2
 have hT:=only_ok hS p
 unfold f195
 rw [f138_eq hS p hq,Option.bind_some]
 refine Gets.bind (f114_eq (Lens.of hT) hT (sp:=spots s l d) (spots_in (s:=onlyS s p) ⟨hok.1.pos,hok.1.rise,hok.1.all⟩ hok.2) (by simp [spots]; omega)) fun r hr=>?_
 rcases hr with ⟨h1,_⟩ | ⟨h1,x',y',hx',hy',h2⟩
 ·obtain⟨π,hπ⟩:=hF
  exact absurd ⟨π,only_pot' hπ⟩ h1
 ·subst h2
  simp only [beq_self_eq_true,cond_true]
  refine Gets.bind (Gets.bind (f191_eq (by simp [spots]; omega) (by simp [spots]; omega)) fun v hv=>Gets.some hv) fun v hv=>Gets.some (hv.trans ?_)
  have c1:∀ no∈l,celQ s no d (spanAt s x y ⟨cellAt s.Basin no,dayAt s.Days d⟩,0):=fun no hno=>.inr (.inr (.inr ⟨hS,⟨hok.1.all no hno,hok.2⟩,hF,x,y,hx,hy,rfl⟩))
  have c2:∀ no∈l,celQ (onlyS s p) no d (spanAt (onlyS s p) x' y' ⟨cellAt s.Basin no,dayAt s.Days d⟩,0):=fun no hno=>.inr (.inr (.inr ⟨hT,⟨hok.1.all no hno,hok.2⟩,h1,x',y',hx',hy',rfl⟩))
  unfold spots
  rw [List.map_map,List.map_map,List.map_inj_left]
  constructor
  ·intro h no hno r r' hr hr'
   rw [hr.uniq (c1 no hno),hr'.uniq (c2 no hno)]
   exact(h no hno).symm
  ·intro h no hno
   exact(h no hno _ _ (c1 no hno) (c2 no hno)).symm
def RestR (s:Scene) (c:List Int) (d:Int) (l:List Int):Prop:=SameP s (inL l) c d∧∀ n∈l,¬ SameP s (inW l n) c d
def rstQ (s:Scene) (c:List Int) (d:Int) (l:List Int) (r:Int):Prop:=
 (¬ SOk s→r=chk s)∧(SOk s→(¬ (OkC s c d∧Rise l)→r=1)∧(OkC s c d→Rise l→(¬ Fea (theNet s).Diffs→r=41)∧(Fea (theNet s).Diffs→(RestR s c d l→r=0)∧(¬ RestR s c d l→r=43))))
end Go.Proofs.YthlchdnbokhclaaGreat.Ql
namespace Go.Proofs.YthlchdnbokhclaaGreat.Ql
open Go Go.Proofs.YthlchdnbokhclaaGreat.Bm
end Go.Proofs.YthlchdnbokhclaaGreat.Ql
namespace Go.Proofs.YthlchdnbokhclaaGreat.Ql
open Go Go.Proofs.YthlchdnbokhclaaGreat.Bm
theorem only_congr {s:Scene} {p q:Int→Bool} (h:∀ g∈s.Sights,p g.No=q g.No):onlyS s p=onlyS s q:=by
 unfold onlyS scn
 rw [List.filter_congr h]
theorem only_all {s:Scene} {p:Int→Bool} (h:∀ g∈s.Sights,p g.No=true):onlyS s p=s:=by
 unfold onlyS scn
 rw [List.filter_eq_self.2 h]
theorem same_mono {s:Scene} (hS:SOk s) {l:List Int} {d:Int} (hok:OkC s l d) (hF:Fea (theNet s).Diffs) {p q:Int→Bool} (h:∀ g∈s.Sights,p g.No=true→q g.No=true) (hp:SameP s p l d):SameP s q l d:=by
 intro no hno r r2 hr hr2
 obtain⟨r1,hr1⟩:=cel_ex (Lens.of (only_ok hS p)) no d
 have e1:=hp no hno r r1 hr hr1
 have h0:r.2=0:=by
  rcases hr with ⟨h1,_⟩ | ⟨_,h1,_⟩ | ⟨_,_,h1,_⟩ | ⟨_,_,_,x,y,_,_,h5⟩
  ·exact absurd hS h1
  ·exact absurd ⟨hok.1.all no hno,hok.2⟩ h1
  ·exact absurd hF h1
  ·rw [h5]
 have n1:Nar s (onlyS s q):=⟨hS,_,_,rfl,only_ok hS q,fun x hx=>(List.mem_filter.1 hx).1,fun _ h=>h⟩
 have n2:Nar (onlyS s q) (onlyS s p):=⟨only_ok hS q,_,_,rfl,only_ok hS p,fun x hx=>by
  obtain⟨h1,h2⟩:=List.mem_filter.1 hx
  exact List.mem_filter.2 ⟨h1,h x h1 h2⟩,fun _ h=>h⟩
 obtain⟨a1,a2,a3⟩:=nar_cel n1 hr hr2 h0
 obtain⟨_,a4,a5⟩:=nar_cel n2 hr2 hr1 a1
 obtain⟨⟨x1,x2⟩,_⟩:=r
 obtain⟨⟨y1,y2⟩,_⟩:=r1
 obtain⟨⟨z1,z2⟩,_⟩:=r2
 simp only at e1 a2 a3 a4 a5
 cases e1
 simp only [Span.mk.injEq]
 omega
open Classical in
noncomputable def sameB (s:Scene) (c:List Int) (d:Int) (l:List Int):Bool:=decide (SameP s (inL l) c d)
open Classical in
theorem sameB_t {s:Scene} {c:List Int} {d:Int} {l:List Int}:sameB s c d l=true↔SameP s (inL l) c d:=by unfold sameB; rw [decide_eq_true_eq]
theorem sameB_f {s:Scene} {c:List Int} {d:Int} {l:List Int}:sameB s c d l=false↔¬ SameP s (inL l) c d:=by rw [← sameB_t]; simp
theorem f190_eq {s:Scene} (hS:SOk s) {c:List Int} {d:Int} (hok:OkC s c d) {x y:List Int} (hF:Fea (theNet s).Diffs) (hx:IsBot (NN s) (EE s) x) (hy:IsTop (NN s) (EE s) y) {l:List Int} (hl:l.length≤9223372036854775807):f190 4611686018427387904 l s (spots s c d) ((spots s c d).map (spanAt s x y))=some (sameB s c d l):=by
 have e:f190 4611686018427387904 l s (spots s c d) ((spots s c d).map (spanAt s x y))=f195 4611686018427387904 (fun y0=>f255 4611686018427387904 y0 (-1) l) s (spots s c d) ((spots s c d).map (spanAt s x y)):=rfl
 rw [e]
 obtain⟨r,h1,h2⟩:=f195_gets hS hok hF hx hy (q:=fun y0=>f255 4611686018427387904 y0 (-1) l) (p:=inW l (-1)) (fun n=>f255_eq hl)
 rw [h1]
 congr 1
 have hc:onlyS s (inW l (-1))=onlyS s (inL l):=only_congr fun g hg=>by
  have:=(hS.g g hg).1
  unfold inW inL
  rw [decide_eq_decide]
  exact⟨fun h=>h.2,fun h=>⟨fun h'=>by simp only [h'] at this; omega,h⟩⟩
 unfold SameP at h2
 rw [hc] at h2
 rw [Bool.eq_iff_iff,h2,sameB_t]
def rslQ (s:Scene) (c:List Int) (d:Int) (r:List Int × Int):Prop:=
 (¬ SOk s∧r=([],chk s))∨(SOk s∧¬ OkC s c d∧r=([],1))∨(SOk s∧OkC s c d∧¬ Fea (theNet s).Diffs∧r=([],41)) ∨
 (SOk s∧OkC s c d∧Fea (theNet s).Diffs∧r.2=0∧Rise r.1∧(∀ n∈r.1,∃ g∈s.Sights,g.No=n)∧r.1.length≤s.Sights.length∧RestR s c d r.1)
theorem f81_eq {s:Scene} (hL:Lens s) (hg:SOk s→s.Sights.length≤12) {c:List Int} {d:Int} (hc:c.length≤9223372036854775807):Gets (f81 4611686018427387904 s c d) (rslQ s c d):=by
 unfold f81
 refine Gets.bind (f113_eq hL hc) fun r hr=>?_
 obtain⟨sp,e⟩:=r
 rcases hr with ⟨h1,h2⟩ | ⟨h1,h2,h3⟩ | ⟨h1,h2,h3,h4⟩
 ·cases h2
  dsimp only
  rw [show (chk s != 0)=true by simpa using chk_ne.2 h1]
  exact Gets.some (.inl ⟨h1,rfl⟩)
 ·cases h3
  exact Gets.some (.inr (.inl ⟨h1,h2,rfl⟩))
 ·cases h4
  have hok:OkC s c d:=⟨h2,h3⟩
  have hcl:=h2.len
  have hbc:=h1.b.c2
  have hg:=hg h1
  simp only [bne_self_eq_false,cond_false]
  refine Gets.bind (f114_eq hL h1 (spots_in h2 h3) (by simp [spots]; omega)) fun r hr=>?_
  rcases hr with ⟨h5,h6⟩ | ⟨h5,x,y,hx,hy,h8⟩
  ·subst h6
   exact Gets.some (.inr (.inr (.inl ⟨h1,hok,h5,rfl⟩)))
  ·subst h8
   simp only [bne_self_eq_false,cond_false]
   refine Gets.bind (f189_eq hg) fun ns hns=>?_
   have hlen:ns.length≤1000000:=by
    have:=hns.len
    simp at this; omega
   refine Gets.bind (f135_eq (P:=sameB s c d) hns.rise hlen (fun z hz=>f190_eq h1 hok h5 hx hy (by omega)) fun a b ha hb hab h=>?_) fun r hr=>Gets.some (.inr (.inr (.inr ⟨h1,hok,h5,rfl,hr.rise,fun n hn=>?_,Nat.le_trans hr.len (by have:=hns.len; simpa using this),?_⟩)))
   ·rw [sameB_t] at h ⊢
    exact same_mono h1 hok h5 (fun g _ hgp=>by unfold inL at hgp ⊢; rw [decide_eq_true_eq] at hgp ⊢; exact hab _ hgp) h
   ·obtain⟨g,h6,h7⟩:=List.mem_map.1 ((hns.mem n).1 (hr.sub n hn))
    exact⟨g,h6,h7⟩
   ·have hall:onlyS s (inL ns)=s:=only_all fun g hg=>by unfold inL; rw [decide_eq_true_eq]; exact(hns.mem _).2 (List.mem_map_of_mem hg)
    have h0:sameB s c d ns=true:=sameB_t.2 (by unfold SameP; rw [hall]; exact fun no _ r r' hr hr'=>by rw [hr.uniq hr'])
    refine⟨sameB_t.1 (hr.has h0),fun n hn=>?_⟩
    obtain⟨i,hi⟩:=List.mem_iff_getElem?.1 hn
    rw [← inL_erase hr.rise hi]
    exact sameB_f.1 (hr.min i (List.getElem?_eq_some_iff.1 hi).1)
end Go.Proofs.YthlchdnbokhclaaGreat.Ql
namespace Go.Proofs.YthlchdnbokhclaaGreat.Ql
open Go Go.Proofs.YthlchdnbokhclaaGreat.Bm
theorem fidx_pre {α:Type} {p:α→Bool}:∀ {xs:List α} {i:Int} {k:Nat},fidx p xs i=i+k→0≤i→∀ (j:Nat) x,j < k→xs[j]?=some x→p x=false
 | [],i,k,h,h0,j,x,hj,hx=>by simp at hx
 | y::xs,i,k,h,h0,j,x,hj,hx=>by
  unfold fidx at h
  cases hy:p y
  ·simp only [hy,Bool.false_eq_true,if_false] at h
   cases j with
   | zero=>simp at hx; subst hx; exact hy
   | succ j=>
    cases k with
    | zero=>omega
    | succ k=>exact fidx_pre (xs:=xs) (i:=i+1) (k:=k) (by rw [h]; omega) (by omega) j x (by omega) (by simpa using hx)
  ·simp only [hy,if_true] at h
   omega
theorem f192_eq {xs:List Sight} {g:Sight→Option Bool} {p:Sight→Bool} (hg:∀ x,g x=some (p x)) (hl:xs.length≤1000000):f192 4611686018427387904 xs g=some (xs.filter fun x=>!p x):=by
 have b:∀ a c d:Int,0≤a→a≤c→c≤d→bnds a c d=some ():=fun a c d h1 h2 h3=>by unfold bnds; rw [if_pos ⟨h1,h2,h3⟩]
 have e1:f200 4611686018427387904 xs g=some (fidx p xs 0):=rngL_find (f:=id) (by omega) (fun _ _=>rfl) fun nx x i u=>by rw [hg,Option.bind_some]; rfl
 have:Gets (f192 4611686018427387904 xs g) (·=xs.filter fun x=>!p x):=by
  unfold f192
  rw [e1,Option.bind_some]
  refine Gets.cond (fun h=>Gets.some ?_) fun h=>?_
  ·have h:fidx p xs 0=-1:=by simpa only [beq_iff_eq] using h
   have:=(fidx_neg (p:=p) (xs:=xs) (i:=0) (by omega)).1 (by omega)
   rw [List.filter_eq_self.2 fun x hx=>by rw [this x hx]; rfl]
  ·have h:¬ fidx p xs 0=-1:=by simpa only [beq_eq_false_iff_ne,ne_eq] using h
   have h0:0≤fidx p xs 0:=by rcases fidx_lt (p:=p) (xs:=xs) with ⟨h1,h2⟩; omega
   obtain⟨a,x,h1,h2,h3⟩:=fidx_spec (by omega) h0
   have hal:=(List.getElem?_eq_some_iff.1 h2).1
   have hpre:=fidx_pre h1 (by omega)
   rw [h1,Int.zero_add]
   have hf0:(xs.take (a+1)).filter (fun x=>!p x)=xs.take a:=by
    rw [List.take_succ,h2,List.filter_append,Option.toList_some,List.filter_cons,h3]
    simp only [Bool.not_true,Bool.false_eq_true,if_false,List.filter_nil,List.append_nil]
    refine List.filter_eq_self.2 fun y hy=>?_
    obtain⟨j,hj⟩:=List.mem_iff_getElem?.1 hy
    have hjl:=(List.getElem?_eq_some_iff.1 hj).1
    simp only [List.length_take] at hjl
    rw [List.getElem?_take_of_lt (by omega)] at hj
    rw [hpre j y (by omega) hj]; rfl
   rw [W_eq (by omega) (by omega)]
   refine Gets.bind (P:=fun v:List Sight × Int=>v.1.length=xs.length∧0≤v.2∧v.2≤xs.length∧v.1.take v.2.toNat=xs.filter fun x=>!p x) ?_ fun v hv=>?_
   ·refine whl_count (fun(k:Nat) (v:List Sight × Int × Int)=>v.1.length=xs.length∧0≤v.2.1∧v.2.1 < v.2.2∧v.2.2=(a:Int)+1+k∧v.2.2≤xs.length∧v.1.take v.2.1.toNat=(xs.take v.2.2.toNat).filter (fun x=>!p x)∧∀ j:Nat,v.2.2≤j→v.1[j]?=xs[j]?) xs.length ?_ (k:=0) ⟨rfl,by simp only; omega,by simp only; omega,by simp,by simp only; omega,?_,fun j _=>rfl⟩ (by omega) (by omega)
    ·rintro k ⟨v,i,j⟩ nx ⟨k1,k2,k3,k4,k5,k6,k7⟩ hk hnx
     simp only at k1 k2 k3 k4 k5 k6 k7
     refine Gets.cond (fun h4=>?_) fun h4=>Gets.some ⟨k1,k2,by simp only; omega,?_⟩
     ·have h4:j < v.length:=of_decide_eq_true h4
      have hj:xs[j.toNat]?=some xs[j.toNat]:=List.getElem?_eq_getElem (by omega)
      have hvj:=k7 j.toNat (by omega)
      rw [hj] at hvj
      obtain⟨w,hw⟩:∃ w,v[i.toNat]?=some w:=⟨_,List.getElem?_eq_getElem (by omega)⟩
      dsimp only
      rw [ix_eq (by omega) hvj,Option.bind_some,hg,Option.bind_some]
      have hts:(xs.take (j+1).toNat).filter (fun x=>!p x)=(xs.take j.toNat).filter (fun x=>!p x)++if !p xs[j.toNat] then [xs[j.toNat]] else []:=by
       rw [show (j+1).toNat=j.toNat+1 by omega,List.take_succ,hj,List.filter_append,Option.toList_some,List.filter_cons]
       rfl
      cases hp:p xs[j.toNat]
      ·simp only [Bool.not_false,cond_true]
       rw [ix_eq k2 hw,Option.bind_some,Option.bind_some,W_eq (by omega) (by omega),W_eq (by omega) (by omega)]
       refine hnx _ (by omega) ⟨by simp [k1],by simp only; omega,by simp only; omega,by simp only; omega,by simp only; omega,?_,fun q hq=>?_⟩
       ·simp only
        rw [hts,hp,← k6,show (i+1).toNat=i.toNat+1 by omega,List.take_succ,List.getElem?_set_self (by omega),List.take_set_of_le (by omega)]
        rfl
       ·simp only at hq ⊢
        rw [List.getElem?_set_ne (by omega)]
        exact k7 q (by omega)
      ·simp only [Bool.not_true,cond_false,Option.bind_some]
       rw [W_eq (by omega) (by omega)]
       refine hnx _ (by omega) ⟨k1,k2,by simp only; omega,by simp only; omega,by simp only; omega,?_,fun q hq=>k7 q (by simp only at hq; omega)⟩
       simp only
       rw [hts,hp,← k6]
       simp
     ·have h4:¬ j < v.length:=of_decide_eq_false h4
      simp only
      rw [k6,List.take_of_length_le (by omega)]
    ·simp only [Int.toNat_natCast]
     rw [show ((a:Int)+1).toNat=a+1 by omega,hf0]
   ·obtain⟨v,t⟩:=v
    obtain⟨k1,k2,k3,k4⟩:=hv
    simp only at k1 k2 k3 k4
    have hcl:∀ z,(clrI v t (v.length:Int) z).length=v.length:=fun z=>by unfold clrI clr; simp; omega
    dsimp only
    rw [b _ _ _ (by omega) (by omega) (by omega),Option.bind_some,b _ _ _ (by omega) (by omega) (by rw [hcl]; omega),Option.bind_some]
    have hv:∀ z,vown (clrI v t (v.length:Int) z) t=some (v.take t.toNat):=fun z=>by
     unfold vown
     rw [if_pos ⟨by omega,by rw [hcl]; omega⟩]
     unfold clrI clr
     rw [List.append_assoc,List.take_append_of_le_length (by simp; omega),List.take_take]
     simp
    rw [hv,Option.bind_some]
    exact Gets.some k4
 exact this.out
theorem f82_eq {s:Scene} (hS:SOk s) {l:List Int} (hl:l.length≤9223372036854775807):f82 4611686018427387904 s l=some (onlyS s (inL l)):=by
 have hm:=hS.m.1
 unfold f82 f42
 rw [app_eq (by simp; omega),Option.bind_some,List.nil_append,f192_eq (p:=fun x=>!inL l x.No) (fun x=>by unfold f193; rw [f83_in hl]; rfl) (by omega)]
 simp
end Go.Proofs.YthlchdnbokhclaaGreat.Ql
namespace Go.Proofs.YthlchdnbokhclaaGreat.Ql
open Go Go.Proofs.YthlchdnbokhclaaGreat.Bm
theorem cel_zero {s:Scene} (hS:SOk s) {c:List Int} {d:Int} (hok:OkC s c d) (hF:Fea (theNet s).Diffs) {no:Int} (hno:no∈c) {r:Span × Int} (h:celQ s no d r):r.2=0:=by
 rcases h with ⟨h1,_⟩ | ⟨_,h1,_⟩ | ⟨_,_,h1,_⟩ | ⟨_,_,_,x,y,_,_,h5⟩
 ·exact absurd hS h1
 ·exact absurd ⟨hok.1.all no hno,hok.2⟩ h1
 ·exact absurd hF h1
 ·rw [h5]
theorem nar_only {s:Scene} (hS:SOk s) (p:Int→Bool):Nar s (onlyS s p):=⟨hS,_,_,rfl,only_ok hS p,fun x hx=>(List.mem_filter.1 hx).1,fun _ h=>h⟩
theorem basinRested_pure (s:Scene) (c:List Int) (d n:Int) (h:wf30 s) (hc:wf26 c) (_:wf3 d) (_:wf3 n):∃ k,f14 k s c d n=some true:=by
 refine⟨4611686018427387904,?_⟩
 have hL:=Lens.wf h
 have hc:=wf_len hc.1
 have e85:∀ z:List Int,z.length≤1000000→f85 4611686018427387904 z=some z:=fun z hz=>by unfold f85; rw [app_eq (by simp; omega)]; rfl
 have:Gets (f14 4611686018427387904 s c d n) (·=true):=by
  unfold f14
  refine Gets.bind_eq sane_ok (Gets.cond (fun h=>by simp at h) fun _=>?_)
  refine Gets.bind (P:=fun v=>v=false→(SOk s∧Small s)∧c.length≠0) (Gets.bind (f36_eq hL) fun k hk=>Gets.cond (fun _=>Gets.some (fun h=>by cases h)) fun h'=>Gets.some (fun h=>⟨hk.1 (by simpa using h'),by
   intro h8; rw [h8] at h; cases h⟩)) fun v hv=>Gets.cond (fun _=>Gets.some rfl) fun h'=>?_
  obtain⟨⟨hS,hSm⟩,hc0⟩:=hv h'
  have hm:=hSm.g
  refine Gets.bind (f81_eq hL (fun _=>by omega) hc) fun r hr=>?_
  obtain⟨m,e⟩:=r
  rcases hr with ⟨h1,h2⟩ | ⟨h1,h2,h3⟩ | ⟨h1,h2,h3,h4⟩ | ⟨_,hok,hF,h4,h5,h6,h7,h9⟩
  ·exact absurd hS h1
  ·cases h3
   exact Gets.some rfl
  ·cases h4
   exact Gets.some rfl
  ·simp only at h4 h5 h6 h7 h9
   subst h4
   have hFo:∀ p,Fea (theNet (onlyS s p)).Diffs:=fun p=>by
    obtain⟨π,hπ⟩:=hF
    exact⟨π,only_pot' hπ⟩
   have hoko:∀ p,OkC (onlyS s p) c d:=fun p=>⟨⟨hok.1.pos,hok.1.rise,hok.1.all⟩,hok.2⟩
   simp only [bne_self_eq_false,cond_false]
   refine Gets.bind (f67_eq _ s n hL) fun r2 h2=>?_
   have h2:=h2.2 hS
   subst h2
   refine Gets.cond (fun h=>?_) fun _=>?_
   ·exfalso
    have:(m.length:Int) > s.Sights.length:=by simpa using h
    omega
   have hw:({ s with Sights:=s.Sights.filter (fun x=>x.No != n) }:Scene)=onlyS s (fun y=>y != n):=rfl
   dsimp only
   refine Gets.jo (fun _=>True) (fun _ _=>?_) fun j hj=>rngL_gets (fun _ _=>True) hc trivial (fun k no _ nx hno _ hnx=>?_) fun _ h=>hj _ h
   ·refine Gets.jo (fun _=>True) (fun _ _=>Gets.some rfl) fun j hj=>rngN_gets (fun _ _=>True) ⟨by omega,by omega⟩ trivial (fun i _ nx h0 hi _ hnx=>?_) fun _ _ _ _ _ _ h=>hj _ h
    have hmi:m[i.toNat]?=some m[i.toNat]:=List.getElem?_eq_getElem (by omega)
    rw [e85 m (by omega),Option.bind_some,f84_eq h0 hi (by omega),Option.bind_some,f82_eq hS (Nat.le_trans (List.length_eraseIdx_le _ _) (by omega)),Option.bind_some,inL_erase h5 hmi]
    have hns:=h9.2 _ (List.mem_of_getElem? hmi)
    refine Gets.jo (fun v=>v=true) (fun v hv=>by subst hv; exact hnx _ trivial) fun j hj=>rngL_gets (fun k v=>v=true∨∀ (q:Nat) no,q < k→c[q]?=some no→∀ r r',celQ s no d r→celQ (onlyS s (inW m m[i.toNat])) no d r'→r.1=r'.1) hc (.inr fun q _ h=>by omega) (fun k no v nx2 hno hi hnx2=>?_) fun v h=>hj _ ?_
    ·have hmo:=List.mem_of_getElem? hno
     refine Gets.bind (f33_eq hL) fun r hr=>Gets.bind (f33_eq (Lens.of (only_ok hS _))) fun r' hr'=>?_
     have z1:=cel_zero hS hok hF hmo hr
     have z2:=cel_zero (only_ok hS _) (hoko _) (hFo _) hmo hr'
     have hin:=(nar_cel (nar_only hS _) hr hr' z1).2
     obtain⟨sp,e⟩:=r
     obtain⟨sp',e'⟩:=r'
     simp only at z1 z2 hin
     subst z1 z2
     simp only [bne_self_eq_false,cond_false]
     rw [f68_in hin,Option.bind_some,Option.bind_some]
     simp only [Bool.not_true,cond_false]
     refine hnx2 _ ?_
     rcases hi with hi | hi
     ·exact .inl (by rw [hi]; rfl)
     ·by_cases hss:sp=sp'
      ·refine .inr fun i x hik e=>?_
       by_cases hk:i=k
       ·subst hk; rw [hno] at e; cases e
        intro q q' hq hq'
        rw [← hr.uniq hq,← hr'.uniq hq']
        exact hss
       ·exact hi i x (by omega) e
      ·exact .inl (by simp [hss])
    ·rcases h with h | h
     ·exact h
     ·exact absurd (all_to h) hns
   ·have hmo:=List.mem_of_getElem? hno
    refine Gets.bind (f33_eq hL) fun r1 hr1=>?_
    rw [f82_eq hS (by omega),Option.bind_some]
    refine Gets.bind (f33_eq (Lens.of (only_ok hS _))) fun r2 hr2=>?_
    rw [hw]
    refine Gets.bind (f33_eq (Lens.of (only_ok hS _))) fun r3 hr3=>?_
    have z1:=cel_zero hS hok hF hmo hr1
    have z2:=cel_zero (only_ok hS _) (hoko _) (hFo _) hmo hr2
    have z3:=cel_zero (only_ok hS _) (hoko _) (hFo _) hmo hr3
    have s1:=h9.1 no hmo _ _ hr1 hr2
    have s2:n∉m→r1.1=r3.1:=fun hnm=>same_mono hS hok hF (p:=inL m) (q:=fun y=>y != n) (fun g _ hg=>by
     unfold inL at hg; rw [decide_eq_true_eq] at hg
     rw [bne_iff_ne]; exact fun h=>hnm (h ▸ hg)) h9.1 no hmo _ _ hr1 hr3
    obtain⟨a1,e1⟩:=r1
    obtain⟨a2,e2⟩:=r2
    obtain⟨a3,e3⟩:=r3
    simp only at z1 z2 z3 s1 s2
    subst z1 z2 z3 s1
    simp only [bne_self_eq_false,cond_false,decide_true,Bool.not_true]
    rw [f83_in (by omega)]
    simp only [Option.bind_some]
    by_cases hnm:n∈m
    ·rw [show inL m n=true by unfold inL; rw [decide_eq_true_eq]; exact hnm]
     exact hnx _ trivial
    ·rw [show inL m n=false by unfold inL; rw [decide_eq_false_iff_not]; exact hnm]
     have:=s2 hnm
     subst this
     simp only [Bool.not_false,cond_true,decide_true,Bool.not_true,Option.bind_some,cond_false]
     exact hnx _ trivial
 exact this.out
end Go.Proofs.YthlchdnbokhclaaGreat.Ql

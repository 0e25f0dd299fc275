import Derived.Test.YthlchdnbokhclaaGreatQa3
import Derived.Test.YthlchdnbokhclaaGreatQt
import Derived.Test.YthlchdnbokhclaaGreatQh
set_option linter.all false
namespace Go.Proofs.YthlchdnbokhclaaGreat.Bm
structure Ed where
 u:Nat
 v:Nat
 w:Int
inductive Wk (E:List Ed) (a:Nat):Nat→Nat→Int→Prop
 | nil:Wk E a a 0 0
 | snoc {b m:Nat} {x:Int} {e:Ed} (h:Wk E a b m x) (he:e∈E) (hu:e.u=b):Wk E a e.v (m+1) (x+e.w)
def Pot (E:List Ed) (π:Nat→Int):Prop:=∀ e∈E,π e.v≤π e.u+e.w
theorem Wk.pot {E:List Ed} {a b m:Nat} {x:Int} {π:Nat→Int} (hp:Pot E π) (h:Wk E a b m x):π b≤π a+x:=by
 induction h with
 | nil=>omega
 | snoc h he hu ih=>have:=hp _ he; rw [hu] at this; omega
theorem Wk.trans {E:List Ed} {a b c m k:Nat} {x y:Int} (h:Wk E a b m x) (g:Wk E b c k y):Wk E a c (m+k) (x+y):=by
 induction g with
 | nil=>simpa using h
 | snoc g he hu ih=>
  have:=ih.snoc he hu
  rwa [Nat.add_assoc,Int.add_assoc] at this
theorem nodup_len:∀ (n:Nat) (l:List Nat),l.Nodup→(∀ x∈l,x < n)→l.length≤n
 | 0,l,_,h=>by
  cases l with
  | nil=>simp
  | cons x xs=>exact absurd (h x (by simp)) (by omega)
 | n+1,l,hd,h=>by
  have h1:=nodup_len n (l.erase n) (hd.erase n) (fun x hx=>by
   have h2:=h x (List.mem_of_mem_erase hx)
   have h3:x≠n:=by
    intro e; subst e
    exact hd.not_mem_erase hx
   omega)
  have h2:=List.length_erase (a:=n) (l:=l)
  split at h2 <;> omega
theorem pigeon {n m:Nat} (f:Nat→Nat) (hf:∀ i,i≤m→f i < n) (hn:n≤m):∃ i j,i < j∧j≤m∧f i=f j:=by
 apply Classical.byContradiction
 intro hc
 have hd:((List.range (m+1)).map f).Nodup:=by
  refine List.pairwise_map.2 (List.Pairwise.imp_of_mem (fun {a b} ha hb hab he=>hc ⟨a,b,hab,?_,he⟩) List.pairwise_lt_range)
  have:=List.mem_range.1 hb; omega
 have:=nodup_len n _ hd (by
  intro x hx
  obtain⟨i,hi,rfl⟩:=List.mem_map.1 hx
  exact hf i (by have:=List.mem_range.1 hi; omega))
 simp at this
 omega
theorem Wk.seq {E:List Ed} {a b m:Nat} {x:Int} (h:Wk E a b m x):∃ (f:Nat→Nat) (g:Nat→Int),f 0=a∧f m=b∧g 0=0∧g m=x ∧
  ∀ i,i < m→∃ e∈E,e.u=f i∧e.v=f (i+1)∧g (i+1)=g i+e.w:=by
 induction h with
 | nil=>exact⟨fun _=>a,fun _=>0,rfl,rfl,rfl,rfl,by omega⟩
 | @snoc b m x e h he hu ih=>
  obtain⟨f,g,h1,h2,h3,h4,h5⟩:=ih
  refine⟨fun i=>if i≤m then f i else e.v,fun i=>if i≤m then g i else x+e.w,by simp [h1],if_neg (by omega),by simp [h3],if_neg (by omega),?_⟩
  intro i hi
  by_cases hm:i < m
  ·obtain⟨e',a1,a2,a3,a4⟩:=h5 i hm
   exact⟨e',a1,by simp [show i≤m by omega,a2],by simp [show i+1≤m by omega,a3],by simp [show i≤m by omega,show i+1≤m by omega,a4]⟩
  ·have:i=m:=by omega
   subst this
   refine⟨e,he,?_,?_,?_⟩
   ·dsimp only; rw [if_pos (Nat.le_refl _),hu,h2]
   ·dsimp only; rw [if_neg (by omega)]
   ·dsimp only; rw [if_neg (by omega),if_pos (Nat.le_refl _),h4]
theorem Wk.of_seq {E:List Ed} {f:Nat→Nat} {g:Nat→Int} {i:Nat}:∀ {k:Nat},(∀ q,i≤q→q < i+k→∃ e∈E,e.u=f q∧e.v=f (q+1)∧g (q+1)=g q+e.w)→Wk E (f i) (f (i+k)) k (g (i+k) - g i)
 | 0,_=>by simpa using Wk.nil
 | k+1,h=>by
  have h1:=Wk.of_seq (i:=i) (k:=k) (fun q h1 h2=>h q h1 (by omega))
  obtain⟨e,he,h2,h3,h4⟩:=h (i+k) (by omega) (by omega)
  have:=h1.snoc he h2
  rw [h3] at this
  rw [show i+(k+1)=i+k+1 by omega,h4]
  rwa [show g (i+k)+e.w - g i=g (i+k) - g i+e.w by omega]
theorem Wk.short {E:List Ed} {n:Nat} {π:Nat→Int} (hp:Pot E π) (hE:∀ e∈E,e.v < n) {a b:Nat} (ha:a < n):∀ (m:Nat) {x:Int},Wk E a b m x→∃ m' x',Wk E a b m' x'∧m' < n∧x'≤x:=by
 intro m
 induction m using Nat.strongRecOn with
 | ind m ih=>
  intro x h
  by_cases hm:m < n
  ·exact⟨m,x,h,hm,Int.le_refl _⟩
  ·obtain⟨f,g,h1,h2,h3,h4,h5⟩:=h.seq
   obtain⟨i,j,hij,hjm,he⟩:=pigeon (n:=n) (m:=m) f (fun i hi=>by
    cases i with
    | zero=>rw [h1]; exact ha
    | succ i=>obtain⟨e,a1,_,a3,_⟩:=h5 i (by omega); rw [← a3]; exact hE e a1) (by omega)
   have w1:=Wk.of_seq (E:=E) (f:=f) (g:=g) (i:=0) (k:=i) (fun q _ h=>h5 q (by omega))
   have w2:=Wk.of_seq (E:=E) (f:=f) (g:=g) (i:=i) (k:=j - i) (fun q _ h=>h5 q (by omega))
   have w3:=Wk.of_seq (E:=E) (f:=f) (g:=g) (i:=j) (k:=m - j) (fun q _ h=>h5 q (by omega))
   rw [show 0+i=i by omega] at w1
   rw [show i+(j - i)=j by omega,← he] at w2
   rw [show j+(m - j)=m by omega,← he] at w3
   rw [h1,h3] at w1
   rw [h2,h4] at w3
   have hz:=w2.pot hp
   obtain⟨m',x',a1,a2,a3⟩:=ih (i+(m - j)) (by omega) (w1.trans w3)
   exact⟨m',x',a1,a2,by omega⟩
def Dist (E:List Ed) (src:Nat→Bool) (v:Nat) (x:Int):Prop:=(∃ a m,src a=true∧Wk E a v m x)∧∀ a m y,src a=true→Wk E a v m y→x≤y
def Reach (E:List Ed) (src:Nat→Bool) (v:Nat):Prop:=∃ a m x,src a=true∧Wk E a v m x
structure S where
 d:Nat→Int
 h:Nat→Bool
 p:Nat→Option Nat
def S.can (s:S) (e:Ed):Prop:=s.h e.u=true∧(s.h e.v=false∨s.d e.u+e.w < s.d e.v)
def S.upd (s:S) (k:Nat) (e:Ed):S:=
 { d:=fun x=>if x=e.v then s.d e.u+e.w else s.d x,h:=fun x=>if x=e.v then true else s.h x,p:=fun x=>if x=e.v then some k else s.p x }
inductive Up (E:List Ed) (p:Nat→Option Nat) (v:Nat):Nat→Nat→Int→Prop
 | nil:Up E p v v 0 0
 | snoc {b m k:Nat} {x:Int} {e:Ed} (h:Up E p v b m x) (hp:p b=some k) (he:E[k]?=some e):Up E p v e.u (m+1) (x+e.w)
theorem Up.trans {E:List Ed} {p:Nat→Option Nat} {a b c m k:Nat} {x y:Int} (h:Up E p a b m x) (g:Up E p b c k y):Up E p a c (m+k) (x+y):=by
 induction g with
 | nil=>simpa using h
 | snoc g hp he ih=>
  have:=ih.snoc hp he
  rwa [Nat.add_assoc,Int.add_assoc] at this
theorem Up.first {E:List Ed} {p:Nat→Option Nat} {a b m:Nat} {x:Int} (h:Up E p a b m x) (hm:0 < m):∃ k e,p a=some k∧E[k]?=some e∧Up E p e.u b (m - 1) (x - e.w):=by
 induction h with
 | nil=>omega
 | @snoc b m k x e h hp he ih=>
  cases m with
  | zero=>
   cases h
   exact⟨k,e,hp,he,by simpa using Up.nil⟩
  | succ m=>
   obtain⟨k',e',h1,h2,h3⟩:=ih (by omega)
   refine⟨k',e',h1,h2,?_⟩
   have:=h3.snoc hp he
   rw [show m+1 - 1+1=m+1+1 - 1 by omega,show x - e'.w+e.w=x+e.w - e'.w by omega] at this
   exact this
structure Inv (E:List Ed) (src:Nat→Bool) (s:S):Prop where
 wk:∀ v,s.h v=true→∃ a m,src a=true∧Wk E a v m (s.d v)
 srcs:∀ a,src a=true→s.h a=true∧s.d a≤0
 root:∀ v,s.h v=true→s.p v=none→src v=true∧s.d v=0
 par:∀ v k,s.p v=some k→s.h v=true∧∃ e,E[k]?=some e∧e.v=v∧s.h e.u=true∧s.d e.u+e.w≤s.d v
 non:∀ v,s.h v=false→s.d v=0∧s.p v=none
 cyc:∀ v m x,Up E s.p v v m x→0 < m→x < 0
theorem Up.d {E:List Ed} {src:Nat→Bool} {s:S} (hi:Inv E src s) {v b m:Nat} {x:Int} (h:Up E s.p v b m x):s.d b+x≤s.d v:=by
 induction h with
 | nil=>omega
 | snoc h hp he ih=>
  obtain⟨_,e',h1,h2,h3,h4⟩:=hi.par _ _ hp
  rw [he] at h1; cases h1; omega
theorem Up.h {E:List Ed} {src:Nat→Bool} {s:S} (hi:Inv E src s) {v b m:Nat} {x:Int} (h:Up E s.p v b m x) (hv:s.h v=true):s.h b=true:=by
 induction h with
 | nil=>exact hv
 | snoc h hp he ih=>
  obtain⟨_,e',h1,h2,h3,h4⟩:=hi.par _ _ hp
  rw [he] at h1; cases h1; exact h3
theorem Up.old {E:List Ed} {p:Nat→Option Nat} {k v:Nat} {z y m:Nat} {x:Int} (h:Up E (fun x=>if x=v then some k else p x) z y m x) :
  Up E p z y m x∨∃ m1 x1 m2 x2,Up E p z v m1 x1∧Up E (fun x=>if x=v then some k else p x) z v m1 x1∧Up E (fun x=>if x=v then some k else p x) v y m2 x2∧0 < m2∧m=m1+m2∧x=x1+x2:=by
 induction h with
 | nil=>exact .inl .nil
 | @snoc b m k' x e h hp he ih=>
  rcases ih with ih | ⟨m1,x1,m2,x2,h1,h2,h3,h4,h5,h6⟩
  ·by_cases hb:b=v
   ·subst hb
    exact .inr ⟨m,x,1,e.w,ih,h,by simpa using Up.nil.snoc hp he,by omega,rfl,rfl⟩
   ·simp [hb] at hp
    exact .inl (ih.snoc hp he)
  ·exact .inr ⟨m1,x1,m2+1,x2+e.w,h1,h2,h3.snoc hp he,by omega,by omega,by omega⟩
theorem Inv.upd {E:List Ed} {src:Nat→Bool} {s:S} (hi:Inv E src s) {k:Nat} {e:Ed} (hk:E[k]?=some e) (hc:s.can e):Inv E src (s.upd k e):=by
 obtain⟨hu,hc⟩:=hc
 have hloop:e.u=e.v→e.w < 0:=by
  intro h
  rcases hc with hc | hc
  ·rw [← h,hu] at hc; cases hc
  ·rw [h] at hc; omega
 have hold:s.h e.v=true→s.d e.u+e.w < s.d e.v:=by
  intro h; rcases hc with hc | hc
  ·rw [h] at hc; cases hc
  ·exact hc
 have hd:∀ x,s.h x=true→(s.upd k e).d x≤s.d x:=by
  intro x hx
  simp only [S.upd]
  split
  ·rename_i h; subst h; have:=hold hx; omega
  ·omega
 have hh:∀ x,s.h x=true→(s.upd k e).h x=true:=by
  intro x hx; simp only [S.upd]; split <;> simp [hx]
 have hvv:∀ m x,Up E (s.upd k e).p e.v e.v m x→0 < m→x < 0:=by
  intro m
  induction m using Nat.strongRecOn with
  | ind m ih=>
   intro x h hm
   obtain⟨k',e',h1,h2,h3⟩:=h.first hm
   simp only [S.upd,if_true] at h1
   cases h1
   rw [hk] at h2; cases h2
   rcases h3.old with h4 | ⟨m1,x1,m2,x2,h4,_,h5,h6,h7,h8⟩
   ·have h5:=h4.d hi
    have:=hold (h4.h hi hu)
    omega
   ·have h9:=h4.d hi
    have:=hold (h4.h hi hu)
    have:=ih m2 (by omega) x2 h5 h6
    omega
 exact {
  wk:=by
   intro v hv
   simp only [S.upd] at hv ⊢
   by_cases h:v=e.v
   ·simp only [h,if_true]
    obtain⟨a,m,h1,h2⟩:=hi.wk e.u hu
    exact⟨a,m+1,h1,h2.snoc (List.mem_of_getElem? hk) rfl⟩
   ·simp only [h,if_false] at hv ⊢
    exact hi.wk v hv
  srcs:=by
   intro a ha
   obtain⟨h1,h2⟩:=hi.srcs a ha
   have:=hd a h1
   exact⟨hh a h1,by omega⟩
  root:=by
   intro v hv hp
   simp only [S.upd] at hv hp ⊢
   by_cases h:v=e.v
   ·simp [h] at hp
   ·simp only [h,if_false] at hv hp ⊢; exact hi.root v hv hp
  par:=by
   intro v k' hp
   have hpu:(s.upd k e).d e.u≤s.d e.u:=hd _ hu
   by_cases h:v=e.v
   ·subst h
    simp only [S.upd,if_true] at hp
    cases hp
    refine⟨by simp [S.upd],e,hk,rfl,hh _ hu,?_⟩
    have:(s.upd k e).d e.v=s.d e.u+e.w:=by simp [S.upd]
    omega
   ·simp only [S.upd,h,if_false] at hp
    obtain⟨h1,e',h2,h3,h4,h5⟩:=hi.par v k' hp
    refine⟨hh _ h1,e',h2,h3,hh _ h4,?_⟩
    have h6:=hd _ h4
    have:(s.upd k e).d v=s.d v:=by simp [S.upd,h]
    omega
  non:=by
   intro v hv
   simp only [S.upd] at hv ⊢
   by_cases h:v=e.v
   ·simp [h] at hv
   ·simp only [h,if_false] at hv ⊢; exact hi.non v hv
  cyc:=by
   intro z m x h hm
   rcases h.old with h1 | ⟨m1,x1,m2,x2,h1,h2,h3,h4,h5,h6⟩
   ·exact hi.cyc z m x h1 hm
   ·have:=hvv (m2+m1) (x2+x1) (h3.trans h2) (by omega)
    omega }
def Fix (E:List Ed) (s:S):Prop:=∀ e∈E,¬ s.can e
theorem Fix.le {E:List Ed} {s:S} (hf:Fix E s) {e:Ed} (he:e∈E) (hu:s.h e.u=true):s.h e.v=true∧s.d e.v≤s.d e.u+e.w:=by
 have:=hf e he
 simp only [S.can,hu,true_and,not_or] at this
 refine⟨by simpa using this.1,by omega⟩
theorem Fix.walk {E:List Ed} {s:S} (hf:Fix E s) {a b m:Nat} {x:Int} (h:Wk E a b m x) (ha:s.h a=true):s.h b=true∧s.d b≤s.d a+x:=by
 induction h with
 | nil=>exact⟨ha,by omega⟩
 | snoc h he hu ih=>
  subst hu
  have:=hf.le he ih.1
  exact⟨this.1,by omega⟩
theorem Fix.dist {E:List Ed} {src:Nat→Bool} {s:S} (hi:Inv E src s) (hf:Fix E s) {v:Nat} (hv:s.h v=true):Dist E src v (s.d v):=by
 refine⟨hi.wk v hv,fun a m y ha h=>?_⟩
 obtain⟨h1,h2⟩:=hi.srcs a ha
 have:=(hf.walk h h1).2
 omega
theorem Fix.reach {E:List Ed} {src:Nat→Bool} {s:S} (hi:Inv E src s) (hf:Fix E s) (v:Nat):s.h v=true↔Reach E src v:=by
 constructor
 ·intro h; obtain⟨a,m,h1,h2⟩:=hi.wk v h; exact⟨a,m,_,h1,h2⟩
 ·rintro⟨a,m,x,h1,h2⟩; exact(hf.walk h2 (hi.srcs a h1).1).1
def Seen (E:List Ed) (src:Nat→Bool) (k:Nat) (s:S):Prop:=∀ a b m x,src a=true→Wk E a b m x→m≤k→s.h b=true∧s.d b≤x
theorem Seen.zero {E:List Ed} {src:Nat→Bool} {s:S} (hi:Inv E src s):Seen E src 0 s:=by
 intro a b m x ha h hm
 cases h with
 | nil=>exact hi.srcs a ha
 | snoc=>omega
theorem Seen.succ {E:List Ed} {src:Nat→Bool} {k:Nat} {s s':S} (hi:Inv E src s') (h:Seen E src k s) (hr:∀ e∈E,s.h e.u=true→s'.h e.v=true∧s'.d e.v≤s.d e.u+e.w):Seen E src (k+1) s':=by
 intro a b m x ha hw hm
 cases hw with
 | nil=>exact hi.srcs a ha
 | snoc hw he hu=>
  subst hu
  obtain⟨h1,h2⟩:=h a _ _ _ ha hw (by omega)
  obtain⟨h3,h4⟩:=hr _ he h1
  exact⟨h3,by omega⟩
theorem Seen.fix {E:List Ed} {src:Nat→Bool} {n:Nat} {π:Nat→Int} (hp:Pot E π) (hE:∀ e∈E,e.v < n) (hs:∀ a,src a=true→a < n) {s:S} {k:Nat} (hi:Inv E src s) (h:Seen E src k s) (hk:n≤k+1):Fix E s:=by
 intro e he hc
 obtain⟨a,m,h1,h2⟩:=hi.wk e.u hc.1
 obtain⟨m',x',h3,h4,h5⟩:=(h2.snoc he rfl).short hp hE (hs a h1)
 obtain⟨h6,h7⟩:=h a _ _ _ h1 h3 (by omega)
 rcases hc.2 with h8 | h8
 ·rw [h6] at h8; cases h8
 ·omega
end Go.Proofs.YthlchdnbokhclaaGreat.Bm
namespace Go.Proofs.YthlchdnbokhclaaGreat.Bm
def sumN:Nat→(Nat→Int)→Int
 | 0,_=>0
 | n+1,g=>sumN n g+g n
theorem sumN_add {n:Nat} {g h:Nat→Int}:sumN n (fun i=>g i+h i)=sumN n g+sumN n h:=by
 induction n with
 | zero=>rfl
 | succ n ih=>simp only [sumN,ih]; omega
theorem sumN_le {n:Nat} {g h:Nat→Int} (H:∀ i,i < n→g i≤h i):sumN n g≤sumN n h:=by
 induction n with
 | zero=>exact Int.le_refl _
 | succ n ih=>simp only [sumN]; have:=ih (fun i hi=>H i (by omega)); have:=H n (by omega); omega
theorem sumN_zero {n:Nat}:sumN n (fun _=>0)=0:=by
 induction n with
 | zero=>rfl
 | succ n ih=>simp only [sumN,ih]; rfl
theorem sumN_ite {n k:Nat} {c:Nat→Int}:sumN n (fun i=>if i=k then c i else 0)=if k < n then c k else 0:=by
 induction n with
 | zero=>rfl
 | succ n ih=>
  simp only [sumN,ih]
  by_cases h:n=k
  ·subst h; simp
  ·have h2:(k < n+1)↔k < n:=by omega
   simp [h,h2]
theorem sumN_nonneg {n:Nat} {g:Nat→Int} (H:∀ i,i < n→0≤g i):0≤sumN n g:=by
 have:=sumN_le (n:=n) (g:=fun _=>0) (h:=g) H
 rwa [sumN_zero] at this
def sumE (g:Nat→Ed→Int):Nat→List Ed→Int
 | _,[]=>0
 | k,e::es=>g k e+sumE g (k+1) es
def inn (E:List Ed) (f:Nat→Int) (x:Nat):Int:=sumE (fun i e=>(if e.v=x then f i else 0) - (if e.u=x then f i else 0)) 0 E
def costE (E:List Ed) (f:Nat→Int):Int:=sumE (fun i e=>f i*e.w) 0 E
def dot (n:Nat) (w x:Nat→Int):Int:=sumN n fun v=>w v*x v
theorem swap {E:List Ed} {n:Nat} (hE:∀ e∈E,e.u < n∧e.v < n) (f y:Nat→Int):∀ k,sumE (fun i e=>f i*(y e.v - y e.u)) k E=sumN n fun x=>y x*sumE (fun i e=>(if e.v=x then f i else 0) - (if e.u=x then f i else 0)) k E:=by
 induction E with
 | nil=>intro k; simp only [sumE,Int.mul_zero,sumN_zero]
 | cons e es ih=>
  intro k
  simp only [sumE]
  rw [ih (fun x hx=>hE x (List.mem_cons_of_mem _ hx)) (k+1)]
  have h1:(fun x=>y x*((if e.v=x then f k else 0) - (if e.u=x then f k else 0)+sumE (fun i e=>(if e.v=x then f i else 0) - (if e.u=x then f i else 0)) (k+1) es))
    = fun x=>(((if x=e.v then y x*f k else 0)+(if x=e.u then y x*(- f k) else 0))+y x*sumE (fun i e=>(if e.v=x then f i else 0) - (if e.u=x then f i else 0)) (k+1) es):=by
   funext x
   rw [Int.mul_add]
   congr 1
   by_cases h1:e.v=x <;> by_cases h2:e.u=x
   ·subst h1; simp [h2,Int.mul_neg]; rw [← h2]; omega
   ·subst h1; simp [h2,Ne.symm h2]
   ·subst h2; simp [h1,Ne.symm h1,Int.mul_neg]
   ·simp [h1,h2,Ne.symm h1,Ne.symm h2]
  rw [h1,sumN_add,sumN_add,sumN_ite,sumN_ite,if_pos (hE e (by simp)).2,if_pos (hE e (by simp)).1,Int.mul_sub,Int.mul_comm (f k),Int.mul_comm (f k),Int.mul_neg]
  omega
def turn (e:Ed):Ed:=⟨e.v,e.u,-e.w⟩
def gE (E:List Ed) (i:Nat):Ed:=E.getD i ⟨0,0,0⟩
def res (E:List Ed) (U:List Nat):List Ed:=E++U.map fun i=>turn (gE E i)
def adj1 (m:Nat) (U:List Nat) (c:Int) (f:Nat→Int) (k:Nat):Nat→Int:=
 if k < m then fun i=>if i=k then f i+c else f i else fun i=>if i=U.getD (k - m) 0 then f i - c else f i
def adj (m:Nat) (U:List Nat) (c:Int) (f:Nat→Int) (l:List Nat):Nat→Int:=l.foldl (adj1 m U c) f
def Chain (R:List Ed):Nat→List Nat→Nat→Prop
 | a,[],b=>a=b
 | a,k::ks,b=>∃ e,R[k]?=some e∧e.v=a∧Chain R e.u ks b
def UpL (R:List Ed) (p:Nat→Option Nat):Nat→List Nat→Nat→Prop
 | a,[],b=>a=b
 | a,k::ks,b=>p a=some k∧∃ e,R[k]?=some e∧UpL R p e.u ks b
structure FI (E:List Ed) (n:Nat) (w:Nat→Int) (B:Int) (f want π:Nat→Int):Prop where
 f0:∀ i,0≤f i
 con:∀ v,0 < v→v < n→inn E f v=w v - want v
 pot:Pot E π
 tight:∀ i e,E[i]?=some e→0 < f i→π e.v=π e.u+e.w
 bd:∀ i,f i+sumN n (fun v=>(want v).natAbs)≤B
end Go.Proofs.YthlchdnbokhclaaGreat.Bm
namespace Go.Proofs.YthlchdnbokhclaaGreat.Bm
theorem Up.ge {E:List Ed} {p:Nat→Option Nat} {M:Int} (hM:∀ e∈E,-M≤e.w) {v b m:Nat} {x:Int} (h:Up E p v b m x):-(m*M)≤x:=by
 induction h with
 | nil=>simp
 | @snoc b m k x e h hp he ih=>
  have:=hM e (List.mem_of_getElem? he)
  rw [show ((m+1:Nat):Int)*M=m*M+M by rw [Int.natCast_add,Int.add_mul]; simp]
  omega
theorem Up.det {E:List Ed} {p:Nat→Option Nat} {v b c m:Nat} {x y:Int} (h:Up E p v b m x) (g:Up E p v c m y):b=c∧x=y:=by
 induction h generalizing c y with
 | nil=>cases g; exact⟨rfl,rfl⟩
 | snoc h hp he ih=>
  cases g with
  | snoc g hp' he'=>
   obtain⟨h1,h2⟩:=ih g
   subst h1; subst h2
   rw [hp] at hp'; cases hp'
   rw [he] at he'; cases he'
   exact⟨rfl,rfl⟩
theorem Up.rot {E:List Ed} {p:Nat→Option Nat} {z y m q:Nat} {x c:Int} (hc:Up E p z z q c) (hq:0 < q) (h:Up E p z y m x):Up E p y y q c:=by
 induction h with
 | nil=>exact hc
 | @snoc b m k x e h hp he ih=>
  obtain⟨k',e',h1,h2,h3⟩:=ih.first hq
  rw [hp] at h1; cases h1
  rw [he] at h2; cases h2
  have:=h3.snoc hp he
  rwa [show q - 1+1=q by omega,show c - e.w+e.w=c by omega] at this
theorem Up.split {E:List Ed} {p:Nat→Option Nat} {v b m:Nat} {x:Int} (h:Up E p v b m x):∀ i,i≤m→∃ c y,Up E p v c i y∧Up E p c b (m - i) (x - y):=by
 induction h with
 | nil=>
  intro i hi
  have:i=0:=by omega
  subst this; exact⟨v,0,.nil,by simpa using Up.nil⟩
 | @snoc b m k x e h hp he ih=>
  intro i hi
  by_cases h1:i=m+1
  ·subst h1
   exact⟨e.u,_,h.snoc hp he,by simpa using Up.nil⟩
  ·obtain⟨c,y,h2,h3⟩:=ih i (by omega)
   refine⟨c,y,h2,?_⟩
   have:=h3.snoc hp he
   rwa [show m - i+1=m+1 - i by omega,show x - y+e.w=x+e.w - y by omega] at this
theorem Up.cycle {E:List Ed} {p:Nat→Option Nat} {n v b m:Nat} {x:Int} (hE:∀ e∈E,e.u < n) (hv:v < n) (h:Up E p v b m x) (hm:n≤m):∃ q c,0 < q∧q≤n∧Up E p b b q c:=by
 have hlt:∀ {i c y},Up E p v c i y→c < n:=by
  intro i c y h
  cases h with
  | nil=>exact hv
  | snoc _ _ he=>exact hE _ (List.mem_of_getElem? he)
 let f:Nat→Nat:=fun i=>if hi:i≤m then Classical.choose (h.split i hi) else 0
 have hf:∀ i,i≤m→∃ y,Up E p v (f i) i y∧Up E p (f i) b (m - i) (x - y):=by
  intro i hi
  simp only [f,dif_pos hi]
  exact Classical.choose_spec (h.split i hi)
 obtain⟨i,j,hij,hj,he⟩:=pigeon (n:=n) (m:=n) f (fun i hi=>by obtain⟨y,h1,_⟩:=hf i (by omega); exact hlt h1) (Nat.le_refl _)
 obtain⟨y,h1,h2⟩:=hf i (by omega)
 obtain⟨z,h3,_⟩:=hf j (by omega)
 obtain⟨c,y',h4,h5⟩:=h3.split i (by omega)
 obtain⟨h6,h7⟩:=h1.det h4
 subst h6
 rw [he] at h5
 rw [← he] at h5
 have h8:Up E p (f i) (f i) (j - i) (z - y'):=by rw [he] at h5 ⊢; exact h5
 exact⟨j - i,_,by omega,by omega,Up.rot h8 (by omega) h2⟩
def pot (B:Int) (n:Nat) (s:S):Nat:=(sumN n fun v=>((s.d v+B+1).toNat:Int)).toNat
theorem pot_lt {B:Int} {n c:Nat} {s s':S} (hc:c < n) (hd:∀ v,v < n→s'.d v≤s.d v) (h1:s'.d c < s.d c) (h2:-B≤s'.d c):pot B n s' < pot B n s:=by
 unfold pot
 have h3:sumN n (fun v=>((s'.d v+B+1).toNat:Int))+sumN n (fun v=>if v=c then 1 else 0)≤sumN n fun v=>((s.d v+B+1).toNat:Int):=by
  rw [← sumN_add]
  refine sumN_le fun v hv=>?_
  have:=hd v hv
  by_cases h:v=c
  ·subst h; simp only [if_true]; omega
  ·simp only [h,if_false]; omega
 rw [sumN_ite (c:=fun _=>1),if_pos hc] at h3
 have h4:0≤sumN n (fun v=>((s'.d v+B+1).toNat:Int)):=sumN_nonneg fun _ _=>by omega
 omega
theorem pot_le {B:Int} {n:Nat} {s:S} (hd:∀ v,v < n→s.d v≤0) (hB:0≤B):(pot B n s:Int)≤n*(B+1):=by
 unfold pot
 have h1:sumN n (fun v=>((s.d v+B+1).toNat:Int))≤sumN n fun _=>B+1:=sumN_le fun v hv=>by have:=hd v hv; omega
 have h2:∀ m:Nat,sumN m (fun _=>B+1)=m*(B+1):=by
  intro m
  induction m with
  | zero=>simp [sumN]
  | succ m ih=>simp only [sumN,ih]; rw [Int.natCast_add,Int.add_mul]; simp
 rw [h2] at h1
 have h3:0≤sumN n (fun v=>((s.d v+B+1).toNat:Int)):=sumN_nonneg fun _ _=>by omega
 omega
end Go.Proofs.YthlchdnbokhclaaGreat.Bm
namespace Go.Proofs.YthlchdnbokhclaaGreat.Bm
structure Bds (E:List Ed) (src:Nat→Bool) (β γ:Nat→Int):Prop where
 z:∀ t,β t≤0∧0≤γ t
 anti:∀ t,β (t+1)≤β t∧γ t≤γ (t+1)
 st:∀ t s e,Inv E src s→(∀ v,β t≤s.d v∧s.d v≤γ t)→e∈E→s.can e→β (t+1)≤s.d e.u+e.w∧s.d e.u+e.w≤γ (t+1)
structure Ps (E:List Ed) (src:Nat→Bool) (β γ:Nat→Int) (t:Nat) (s0:S) (j:Nat) (s:S) (c:Option Nat):Prop where
 inv:Inv E src s
 mono:∀ v,s0.h v=true→s.h v=true∧s.d v≤s0.d v
 rel:∀ i e,i < j→E[i]?=some e→s0.h e.u=true→s.h e.v=true∧s.d e.v≤s0.d e.u+e.w
 bd:∀ v,β (t+j)≤s.d v∧s.d v≤γ (t+j)
 ch:(c=none∧s=s0∧∀ i e,i < j→E[i]?=some e→¬ s0.can e)∨∃ e∈E,c=some e.v∧s.h e.v=true∧(s0.h e.v=false∨s.d e.v < s0.d e.v)
section
variable {E:List Ed} {src:Nat→Bool} {β γ:Nat→Int} {t:Nat} {s0 s:S} {j:Nat} {c:Option Nat}
theorem Ps.zero (hi:Inv E src s0) (hb:∀ v,β t≤s0.d v∧s0.d v≤γ t):Ps E src β γ t s0 0 s0 none:=
 ⟨hi,fun v h=>⟨h,Int.le_refl _⟩,fun i e h=>by omega,hb,.inl ⟨rfl,rfl,fun i e h=>by omega⟩⟩
theorem Ps.skip (hB:Bds E src β γ) (h:Ps E src β γ t s0 j s c) {e:Ed} (he:E[j]?=some e) (hc:¬ s.can e):Ps E src β γ t s0 (j+1) s c:=by
 refine⟨h.inv,h.mono,fun i e' hi he' hu=>?_,fun v=>?_,?_⟩
 ·by_cases hij:i=j
  ·subst hij
   rw [he] at he'; cases he'
   obtain⟨h1,h2⟩:=h.mono _ hu
   simp only [S.can,h1,true_and,not_or] at hc
   exact⟨by simpa using hc.1,by omega⟩
  ·exact h.rel i e' (by omega) he' hu
 ·have:=h.bd v
  have:=hB.anti (t+j)
  rw [← Nat.add_assoc]
  omega
 ·rcases h.ch with ⟨h1,h2,h3⟩ | h1
  ·refine .inl ⟨h1,h2,fun i e' hi he'=>?_⟩
   by_cases hij:i=j
   ·subst hij
    rw [he] at he'; cases he'
    rw [← h2]; exact hc
   ·exact h3 i e' (by omega) he'
  ·exact .inr h1
theorem Ps.upd (hB:Bds E src β γ) (h:Ps E src β γ t s0 j s c) {e:Ed} (he:E[j]?=some e) (hc:s.can e):Ps E src β γ t s0 (j+1) (s.upd j e) (some e.v):=by
 have hm:∀ v,s.h v=true→(s.upd j e).h v=true∧(s.upd j e).d v≤s.d v:=by
  intro v hv
  simp only [S.upd]
  by_cases h1:v=e.v
  ·subst h1
   simp only [if_true]
   rcases hc.2 with h2 | h2
   ·rw [hv] at h2; cases h2
   ·exact⟨trivial,by omega⟩
  ·simp only [h1,if_false]; exact⟨hv,Int.le_refl _⟩
 have hd:(s.upd j e).d e.v=s.d e.u+e.w∧(s.upd j e).h e.v=true:=by simp [S.upd]
 refine⟨h.inv.upd he hc,fun v hv=>?_,fun i e' hi he' hu=>?_,fun v=>?_,.inr ⟨e,List.mem_of_getElem? he,rfl,hd.2,?_⟩⟩
 ·obtain⟨h1,h2⟩:=h.mono v hv
  obtain⟨h3,h4⟩:=hm v h1
  exact⟨h3,by omega⟩
 ·by_cases hij:i=j
  ·subst hij
   rw [he] at he'; cases he'
   have:=(h.mono _ hu).2
   exact⟨hd.2,by omega⟩
  ·obtain⟨h1,h2⟩:=h.rel i e' (by omega) he' hu
   obtain⟨h3,h4⟩:=hm _ h1
   exact⟨h3,by omega⟩
 ·have h1:=hB.st (t+j) s e h.inv h.bd (List.mem_of_getElem? he) hc
  have h2:=hB.anti (t+j)
  have h3:=h.bd v
  rw [← Nat.add_assoc]
  by_cases hv:v=e.v
  ·subst hv; rw [hd.1]; exact h1
  ·simp only [S.upd,hv,if_false]; omega
 ·cases h0:s0.h e.v
  ·exact .inl rfl
  ·right
   obtain⟨h1,h2⟩:=h.mono _ h0
   rcases hc.2 with h3 | h3
   ·rw [h1] at h3; cases h3
   ·omega
theorem Ps.fix (h:Ps E src β γ t s0 E.length s none):Fix E s:=by
 rcases h.ch with ⟨_,h2,h3⟩ | ⟨e,_,h2,_⟩
 ·intro e he hc
  obtain⟨i,hi⟩:=List.mem_iff_getElem?.1 he
  exact h3 i e (List.getElem?_eq_some_iff.1 hi).1 hi (h2 ▸ hc)
 ·cases h2
theorem Ps.seen {k:Nat} (h:Ps E src β γ t s0 E.length s c) (hs:Seen E src k s0):Seen E src (k+1) s:=
 hs.succ h.inv fun e he hu=>by
  obtain⟨i,hi⟩:=List.mem_iff_getElem?.1 he
  exact h.rel i e (List.getElem?_eq_some_iff.1 hi).1 hi hu
theorem Ps.moved {a:Nat} (h:Ps E src β γ t s0 j s (some a)):∃ e∈E,e.v=a∧s.h a=true∧(s0.h a=false∨s.d a < s0.d a):=by
 rcases h.ch with ⟨h1,_⟩ | ⟨e,h1,h2,h3,h4⟩
 ·cases h1
 ·cases h2; exact⟨e,h1,rfl,h3,h4⟩
end
theorem Inv.pot_up {E:List Ed} {src:Nat→Bool} {s:S} {π:Nat→Int} (hp:Pot E π) (hi:Inv E src s) {v b m:Nat} {x:Int} (h:Up E s.p v b m x):π v≤π b+x:=by
 induction h with
 | nil=>omega
 | snoc h hk he ih=>
  obtain⟨_,e',h1,h2,h3,h4⟩:=hi.par _ _ hk
  rw [he] at h1; cases h1
  have:=hp _ (List.mem_of_getElem? he)
  rw [h2] at this; omega
theorem Inv.no_round {E:List Ed} {src:Nat→Bool} {s:S} {π:Nat→Int} (hp:Pot E π) (hi:Inv E src s) {v m:Nat} {x:Int} (h:Up E s.p v v m x):m=0:=by
 rcases Nat.eq_zero_or_pos m with h1 | h1
 ·exact h1
 ·have:=hi.cyc v m x h h1
  have:=hi.pot_up hp h
  omega
theorem Bds.all {E:List Ed} {src:Nat→Bool} {M:Int} (hM:0≤M) (hE:∀ e∈E,-M≤e.w) (ha:∀ e∈E,src e.v=true):Bds E src (fun t=>-(t*M)) (fun _=>0):=by
 have h0:∀ t:Nat,((t+1:Nat):Int)*M=t*M+M:=fun t=>by rw [Int.natCast_add,Int.add_mul]; simp
 refine⟨fun t=>⟨?_,Int.le_refl _⟩,fun t=>⟨by skip; rw [h0]; omega,Int.le_refl _⟩,fun t s e hi hb he hc=>?_⟩
 ·have:=Int.mul_nonneg (a:=(t:Int)) (b:=M) (by omega) hM
  skip; omega
 ·have h1:=hi.srcs _ (ha e he)
  have h2:=hE e he
  have h3:=(hb e.u).1
  skip
  rw [h0]
  refine⟨by omega,?_⟩
  rcases hc.2 with h | h
  ·rw [h1.1] at h; cases h
  ·omega
theorem Bds.pot {E:List Ed} {src:Nat→Bool} {M C:Int} {π:Nat→Int} {n:Nat} (hM:0≤M) (hE:∀ e∈E,e.w≤M) (hp:Pot E π) (hn:∀ e∈E,e.v < n) (hs:∀ a,src a=true→a < n) (hC:∀ a b,a < n→b < n→π a - π b≤C) (h0:0≤C):Bds E src (fun _=>-C) (fun t=>t*M):=by
 have h1:∀ t:Nat,((t+1:Nat):Int)*M=t*M+M:=fun t=>by rw [Int.natCast_add,Int.add_mul]; simp
 refine⟨fun t=>⟨by skip; omega,Int.mul_nonneg (by omega) hM⟩,fun t=>⟨Int.le_refl _,by skip; rw [h1]; omega⟩,fun t s e hi hb he hc=>?_⟩
 have h2:=hE e he
 have h3:=(hb e.u).2
 skip
 rw [h1]
 refine⟨?_,by omega⟩
 obtain⟨a,m,h4,h5⟩:=hi.wk e.u hc.1
 have h6:=(h5.snoc he rfl).pot hp
 have h7:=hC a e.v (hs a h4) (hn e he)
 omega
theorem Bds.gen {E:List Ed} {src:Nat→Bool} {M:Int} (hM:0≤M) (hE:∀ e∈E,-M≤e.w∧e.w≤M):Bds E src (fun t=>-(t*M)) (fun t=>t*M):=by
 have h0:∀ t:Nat,((t+1:Nat):Int)*M=t*M+M:=fun t=>by rw [Int.natCast_add,Int.add_mul]; simp
 have hp:∀ t:Nat,0≤(t:Int)*M:=fun t=>Int.mul_nonneg (by omega) hM
 refine⟨fun t=>⟨by have:=hp t; skip; omega,hp t⟩,fun t=>⟨by skip; rw [h0]; omega,by skip; rw [h0]; omega⟩,fun t s e hi hb he hc=>?_⟩
 have h2:=hE e he
 have h3:=hb e.u
 skip
 rw [h0]
 omega
end Go.Proofs.YthlchdnbokhclaaGreat.Bm
namespace Go.Proofs.YthlchdnbokhclaaGreat.Ql
open Go
def Gets {α:Type} (o:Option α) (Q:α→Prop):Prop:=∃ r,o=some r∧Q r
theorem Gets.some {α:Type} {a:α} {Q:α→Prop} (h:Q a):Gets (some a) Q:=⟨a,rfl,h⟩
theorem Gets.mono {α:Type} {o:Option α} {P Q:α→Prop} (h:Gets o P) (k:∀ a,P a→Q a):Gets o Q:=by
 obtain⟨r,h1,h2⟩:=h; exact⟨r,h1,k r h2⟩
theorem Gets.and {α:Type} {o:Option α} {P Q:α→Prop} (h:Gets o P) (k:Gets o Q):Gets o (fun r=>P r∧Q r):=by
 obtain⟨r,h1,h2⟩:=h; obtain⟨r',h3,h4⟩:=k
 rw [h1] at h3; cases h3; exact⟨r,h1,h2,h4⟩
theorem Gets.bind {α β:Type} {o:Option α} {f:α→Option β} {P:α→Prop} {Q:β→Prop} (h:Gets o P) (k:∀ a,P a→Gets (f a) Q):Gets (o.bind f) Q:=by
 obtain⟨r,h1,h2⟩:=h
 obtain⟨s,h3,h4⟩:=k r h2
 exact⟨s,by rw [h1]; exact h3,h4⟩
theorem Gets.bind_eq {α β:Type} {o:Option α} {f:α→Option β} {a:α} {Q:β→Prop} (h:o=Option.some a) (k:Gets (f a) Q):Gets (o.bind f) Q:=by
 subst h; exact k
theorem Gets.cond {α:Type} {b:Bool} {x y:Option α} {Q:α→Prop} (ht:b=true→Gets x Q) (hf:b=false→Gets y Q):Gets (bif b then x else y) Q:=by
 cases b
 ·exact hf rfl
 ·exact ht rfl
theorem Gets.jo {α V:Type} {rest:V→Option α} {body:(V→Option α)→Option α} {Q:α→Prop} (R:V→Prop) (hr:∀ v,R v→Gets (rest v) Q) (hb:∀ j:V→Option α,(∀ v,R v→Gets (j v) Q)→Gets (body j) Q):Gets (Jo rest body) Q:=
 hb rest hr
theorem ix_eq {α:Type} {xs:List α} {i:Int} {x:α} (h0:0≤i) (h:xs[i.toNat]?=some x):ix xs i=some x:=by unfold ix; rw [if_pos h0]; exact h
theorem ix_nat {α:Type} {xs:List α} {j:Nat} {x:α} (h:xs[j]?=some x):ix xs (j:Int)=some x:=ix_eq (by omega) (by simpa using h)
theorem ix_lt {α:Type} {xs:List α} {i:Int} (h0:0≤i) (h:i < xs.length):∃ x,ix xs i=some x∧xs[i.toNat]?=some x:=by
 have:i.toNat < xs.length:=by omega
 exact⟨xs[i.toNat],ix_eq h0 (List.getElem?_eq_getElem this),List.getElem?_eq_getElem this⟩
theorem app_eq {α:Type} {xs ys:List α} (h:xs.length+ys.length≤1073741824):app xs ys=some (xs++ys):=by unfold app; rw [if_pos h]
theorem sub_eq {α:Type} {xs:List α} {l h:Int} (h0:0≤l) (h1:l≤h) (h2:h≤xs.length):sub xs l h=some ((xs.drop l.toNat).take (h.toNat - l.toNat)):=by unfold sub; rw [if_pos ⟨h0,h1,by omega⟩]
theorem mk_eq {α:Type} {n:Int} {v:α} (h0:0≤n) (h1:n≤1073741824):mk n v=some (List.replicate n.toNat v):=by unfold mk; rw [if_pos ⟨h0,h1⟩]
theorem W_eq {n:Int} (h0:-9223372036854775808≤n) (h1:n≤9223372036854775807):W n=n:=by
 unfold W IntKind.wrap
 simp [IntKind.bits,IntKind.signed]
 omega
theorem rngL'_gets {α V ρ:Type} {ex:Int→V→Option ρ} {bd:(Int→V→Option ρ)→α→Int→V→Option ρ} {Q:ρ→Prop} (xs:List α) (I:Nat→V→Prop)
  (step:∀ (j:Nat) (x:α) (v:V) (nx:Int→V→Option ρ),xs[j]?=some x→I j v→(∀ v',I (j+1) v'→Gets (nx ((j:Int)+1) v') Q)→Gets (bd nx x j v) Q)
  (done:∀ v,I xs.length v→Gets (ex xs.length v) Q):∀ (ys:List α) (j:Nat) (v:V),ys=xs.drop j→j≤xs.length→I j v→Gets (rngL' ex bd ys j v) Q
 | [],j,v,hy,hj,h=>by
  have:j=xs.length:=by
   have:=congrArg List.length hy
   simp at this; omega
  subst this
  exact done v h
 | y::ys,j,v,hy,hj,h=>by
  have hlt:j < xs.length:=by
   have:=congrArg List.length hy
   simp at this; omega
  rw [List.drop_eq_getElem_cons hlt] at hy
  simp only [List.cons.injEq] at hy
  refine step j y v (rngL' ex bd ys) (by rw [List.getElem?_eq_getElem hlt,hy.1]) h fun v' h'=>?_
  have:=rngL'_gets xs I step done ys (j+1) v' hy.2 hlt h'
  rwa [show (((j+1:Nat)):Int)=(j:Int)+1 by omega] at this
theorem rngL_gets {α V ρ:Type} {xs:List α} {v:V} {ex:Int→V→Option ρ} {bd:(Int→V→Option ρ)→α→Int→V→Option ρ} {Q:ρ→Prop} (I:Nat→V→Prop) (hl:xs.length≤9223372036854775807) (h0:I 0 v)
  (step:∀ (j:Nat) (x:α) (v:V) (nx:Int→V→Option ρ),xs[j]?=some x→I j v→(∀ v',I (j+1) v'→Gets (nx ((j:Int)+1) v') Q)→Gets (bd nx x j v) Q)
  (done:∀ v,I xs.length v→Gets (ex xs.length v) Q):Gets (rngL xs v ex bd) Q:=by
 unfold rngL
 rw [if_pos hl]
 exact rngL'_gets xs I step done xs 0 v (by simp) (by omega) h0
theorem rngN'_gets {V ρ:Type} {ex:Int→V→Option ρ} {bd:(Int→V→Option ρ)→Int→V→Option ρ} {Q:ρ→Prop} {en:Int} (I:Int→V→Prop) {i0:Int}
  (step:∀ (i:Int) (v:V) (nx:Int→V→Option ρ),i0≤i→i < en→I i v→(∀ v',I (i+1) v'→Gets (nx (i+1) v') Q)→Gets (bd nx i v) Q)
  (done:∀ (i:Int) (v:V),i0≤i→en≤i→(i0≤en→i=en)→(en < i0→i=i0)→I i v→Gets (ex i v) Q):∀ (k:Nat) (i:Int) (v:V),i0≤i→(i0≤en→i≤en)→(en < i0→i=i0)→k=(en - i).toNat→I i v→Gets (rngN' ex bd k i v) Q
 | 0,i,v,h1,h2,h4,h3,h=>done i v h1 (by omega) (by omega) h4 h
 | k+1,i,v,h1,h2,h4,h3,h=>step i v (rngN' ex bd k) h1 (by omega) h fun v' h'=>rngN'_gets I step done k (i+1) v' (by omega) (by omega) (by omega) (by omega) h'
theorem rngN_gets {V ρ:Type} {i0 en:Int} {v:V} {ex:Int→V→Option ρ} {bd:(Int→V→Option ρ)→Int→V→Option ρ} {Q:ρ→Prop} (I:Int→V→Prop) (hl:-4611686018427387904≤i0∧en≤9223372036854775807) (h0:I i0 v)
  (step:∀ (i:Int) (v:V) (nx:Int→V→Option ρ),i0≤i→i < en→I i v→(∀ v',I (i+1) v'→Gets (nx (i+1) v') Q)→Gets (bd nx i v) Q)
  (done:∀ (i:Int) (v:V),i0≤i→en≤i→(i0≤en→i=en)→(en < i0→i=i0)→I i v→Gets (ex i v) Q):Gets (rngN i0 en v ex bd) Q:=by
 unfold rngN
 rw [if_pos hl]
 exact rngN'_gets I step done _ i0 v (by omega) (by omega) (by omega) rfl h0
theorem whl_gets {V ρ:Type} {bd:(V→Option ρ)→V→Option ρ} {Q:ρ→Prop} (I:V→Prop) (μ:V→Nat) (step:∀ (v:V) (nx:V→Option ρ),I v→(∀ v',I v'→μ v' < μ v→Gets (nx v') Q)→Gets (bd nx v) Q) :
  ∀ {K:Nat} {v:V},I v→μ v < K→Gets (whl bd K v) Q
 | 0,_,_,h=>by omega
 | K+1,v,h0,h=>step v (whl bd K) h0 fun v' h1 h2=>whl_gets I μ step h1 (by omega)
end Go.Proofs.YthlchdnbokhclaaGreat.Ql
namespace Go.Proofs.YthlchdnbokhclaaGreat.Ql
open Go
def CellOk (c:Cell):Prop:=0≤c.No∧c.No≤4095∧0≤c.Height∧c.Height≤9000∧0≤c.Aspect∧c.Aspect≤7∧1≤c.Area∧c.Area≤4096
def PairOk (b:Basin) (p:Arr2_3):Prop:=0≤p.a0∧p.a0 < b.Cells.length∧0≤p.a1∧p.a1 < b.Cells.length∧p.a0≠p.a1∧∃ c c',b.Cells[p.a0.toNat]?=some c∧b.Cells[p.a1.toNat]?=some c'∧c.Height≤c'.Height
def Same (p q:Arr2_3):Prop:=(p.a0=q.a0∧p.a1=q.a1)∨(p.a0=q.a1∧p.a1=q.a0)
structure BOk (b:Basin):Prop where
 c1:1≤b.Cells.length
 c2:b.Cells.length≤12
 p1:b.Pairs.length≤24
 g:0≤b.Gain∧b.Gain≤65536
 s:0≤b.Slack∧b.Slack≤65536
 d:0≤b.Deep∧b.Deep≤65536
 cell:∀ (j:Nat) c,b.Cells[j]?=some c→CellOk c
 rise:∀ (j:Nat) c c',b.Cells[j]?=some c→b.Cells[j+1]?=some c'→c.No < c'.No
 pair:∀ (j:Nat) p,b.Pairs[j]?=some p→PairOk b p
 diff:∀ (i j:Nat) p q,i < j→b.Pairs[i]?=some p→b.Pairs[j]?=some q→¬ Same p q
open Classical in
noncomputable def bchk (b:Basin):Int:=if BOk b then 0 else 50
theorem f178_eq (K:Nat) (c:Cell):Gets (f178 K c) fun r=>(r=true↔CellOk c):=by
 simp only [f178,f182,Option.bind_some]
 refine Gets.bind (P:=fun r=>(r=true↔CellOk c)) ?_ fun a h=>Gets.some h
 unfold CellOk
 repeat' (first | refine Gets.cond (fun h=>?_) (fun h=>?_) | refine Gets.some ?_)
 all_goals simp at*<;> omega
theorem f177_eq (K:Nat) (c:Cell):Gets (f177 K c) fun r=>(r=true↔CellOk c):=by
 simp only [f177,f140,Option.bind_some]
 refine Gets.bind (P:=fun r=>(r=true↔CellOk c)) ?_ fun a h=>Gets.some h
 unfold CellOk
 repeat' (first | refine Gets.cond (fun h=>?_) (fun h=>?_) | refine Gets.some ?_)
 all_goals simp at*<;> omega
def BNum (b:Basin):Prop:=1≤b.Cells.length∧b.Cells.length≤12∧b.Pairs.length≤24∧(0≤b.Gain∧b.Gain≤65536)∧(0≤b.Slack∧b.Slack≤65536)∧(0≤b.Deep∧b.Deep≤65536)
theorem BOk.num {b:Basin} (h:BOk b):BNum b:=⟨h.c1,h.c2,h.p1,h.g,h.s,h.d⟩
def CellsTo (b:Basin) (n:Nat):Prop:=(∀ (j:Nat) c,j < n→b.Cells[j]?=some c→CellOk c)∧∀ (j:Nat) c c',j+1 < n→b.Cells[j]?=some c→b.Cells[j+1]?=some c'→c.No < c'.No
def PairsTo (b:Basin) (n:Nat):Prop:=(∀ (j:Nat) p,j < n→b.Pairs[j]?=some p→PairOk b p)∧∀ (i j:Nat) p q,i < j→j < n→b.Pairs[i]?=some p→b.Pairs[j]?=some q→¬ Same p q
theorem bchk_0 {b:Basin} (h:BNum b) (hc:CellsTo b b.Cells.length) (hp:PairsTo b b.Pairs.length):bchk b=0:=by
 unfold bchk
 rw [if_pos]
 obtain⟨h1,h2,h3,h4,h5,h6⟩:=h
 refine⟨h1,h2,h3,h4,h5,h6,fun j c e=>hc.1 j c (List.getElem?_eq_some_iff.1 e).1 e,fun j c c' e e'=>hc.2 j c c' (List.getElem?_eq_some_iff.1 e').1 e e',fun j p e=>hp.1 j p (List.getElem?_eq_some_iff.1 e).1 e,fun i j p q hij e e'=>hp.2 i j p q hij (List.getElem?_eq_some_iff.1 e').1 e e'⟩
theorem bchk_50 {b:Basin} (h:¬ BOk b):bchk b=50:=by unfold bchk; rw [if_neg h]
theorem CellsTo.succ {b:Basin} {j:Nat} {x:Cell} (h:CellsTo b j) (hx:b.Cells[j]?=some x) (hk:CellOk x) (hr:∀ i c,j=i+1→b.Cells[i]?=some c→c.No < x.No):CellsTo b (j+1):=by
 refine⟨fun i c hi e=>?_,fun i c c' hi e e'=>?_⟩
 ·by_cases hij:i=j
  ·subst hij; rw [hx] at e; cases e; exact hk
  ·exact h.1 i c (by omega) e
 ·by_cases hij:i+1=j
  ·rw [hij,hx] at e'; cases e'; exact hr i c hij.symm e
  ·exact h.2 i c c' (by omega) e e'
theorem PairsTo.succ {b:Basin} {j:Nat} {x:Arr2_3} (h:PairsTo b j) (hx:b.Pairs[j]?=some x) (hk:PairOk b x) (hr:∀ i p,i < j→b.Pairs[i]?=some p→¬ Same p x):PairsTo b (j+1):=by
 refine⟨fun i c hi e=>?_,fun i k c c' hik hi e e'=>?_⟩
 ·by_cases hij:i=j
  ·subst hij; rw [hx] at e; cases e; exact hk
  ·exact h.1 i c (by omega) e
 ·by_cases hij:k=j
  ·subst hij; rw [hx] at e'; cases e'; exact hr i c hik e
  ·exact h.2 i k c c' hik (by omega) e e'
theorem before_eq {b:Basin} {j:Nat} {x:Cell} {o:Option Bool} (hb:b.Cells.length≤12) (hx:b.Cells[j]?=some x) {ok:Bool} (hok:ok=true↔CellOk x)
  (ho:o=bif (!ok) then some true else bif (decide ((j:Int) > 0)) then (ix b.Cells (W ((j:Int) - 1))).bind fun y=>some (decide (y.No≥x.No)) else some false) :
  Gets o fun v=>(v=true↔¬ (CellOk x∧∀ i c,j=i+1→b.Cells[i]?=some c→c.No < x.No)):=by
 subst ho
 have hlt:=(List.getElem?_eq_some_iff.1 hx).1
 refine Gets.cond (fun h=>Gets.some ?_) (fun h=>Gets.cond (fun h2=>?_) (fun h2=>Gets.some ?_))
 ·have:¬ CellOk x:=by rw [← hok]; simpa using h
  simp [this]
 ·have hk:CellOk x:=by rw [← hok]; simpa using h
  have hj:0 < j:=by simpa using h2
  obtain⟨i,rfl⟩:∃ i,j=i+1:=⟨j - 1,by omega⟩
  rw [show W (((i+1:Nat):Int) - 1)=(i:Int) by rw [W_eq (by omega) (by omega)]; omega]
  obtain⟨y,hy⟩:∃ y,b.Cells[i]?=some y:=⟨_,List.getElem?_eq_getElem (by omega)⟩
  rw [ix_nat hy]
  refine Gets.some ?_
  simp only [hk,true_and,decide_eq_true_eq]
  constructor
  ·intro h3 h4
   have:=h4 i y rfl hy
   omega
  ·intro h3
   by_cases h4:y.No≥x.No
   ·exact h4
   ·exact absurd (fun i' c e e'=>by cases e; rw [hy] at e'; cases e'; omega) h3
 ·have hk:CellOk x:=by rw [← hok]; simpa using h
  have hj:j=0:=by simpa using h2
  simp [hk]
  intro i c e; omega
theorem pair_eq {b:Basin} {x:Arr2_3} {o:Option Bool}
  (ho:o=bif (!(decide (x.a0≥0)&&decide (x.a0≤W ((b.Cells.length:Int) - 1)))) then some true else bif (!(decide (x.a1≥0)&&decide (x.a1≤W ((b.Cells.length:Int) - 1)))) then some true else bif x.a0==x.a1 then some true else
   (ix b.Cells x.a0).bind fun y=>(ix b.Cells x.a1).bind fun y'=>some (decide (y.Height > y'.Height))) (hb:b.Cells.length≤12) :
  Gets o fun v=>(v=true↔¬ PairOk b x):=by
 subst ho
 rw [W_eq (by omega) (by omega)]
 refine Gets.cond (fun h=>Gets.some ?_) (fun h=>Gets.cond (fun h2=>Gets.some ?_) (fun h2=>Gets.cond (fun h3=>Gets.some ?_) (fun h3=>?_)))
 ·simp [PairOk] at *; omega
 ·simp [PairOk] at *; omega
 ·simp [PairOk] at *; omega
 ·simp at h h2 h3
  obtain⟨y,e1,e2⟩:=ix_lt (xs:=b.Cells) h.1 (by omega)
  obtain⟨y',e3,e4⟩:=ix_lt (xs:=b.Cells) h2.1 (by omega)
  rw [e1,Option.bind_some,e3,Option.bind_some]
  refine Gets.some ?_
  simp only [PairOk,e2,e4,decide_eq_true_eq]
  constructor
  ·rintro h5 ⟨-,-,-,-,-,c,c',e5,e6,h6⟩
   cases e5; cases e6; omega
  ·intro h5
   by_cases h6:y.Height > y'.Height
   ·exact h6
   ·exact absurd ⟨h.1,by omega,h2.1,by omega,h3,y,y',rfl,rfl,by omega⟩ h5
end Go.Proofs.YthlchdnbokhclaaGreat.Ql
namespace Go.Proofs.YthlchdnbokhclaaGreat.Ql
open Go
def key (p:Arr2_3):Int × Int:=((if p.a1 < p.a0 then p.a1 else p.a0),(if p.a1 > p.a0 then p.a1 else p.a0))
theorem key_same {p q:Arr2_3}:key p=key q↔Same p q:=by
 unfold key Same
 simp only [Prod.mk.injEq]
 constructor
 ·rintro⟨h1,h2⟩
  split at h1 <;> split at h2 <;> split at h1 <;> split at h2 <;> omega
 ·rintro(⟨h1,h2⟩ | ⟨h1,h2⟩) <;> rw [h1,h2] <;> constructor <;> split <;> (try split) <;> omega
theorem bchk_not_num {b:Basin} (h:¬ BNum b):bchk b=50:=bchk_50 fun h'=>h h'.num
theorem f75_eq (K:Nat) (b:Basin) (hl:b.Cells.length≤9223372036854775807) (hp:b.Pairs.length≤9223372036854775807):Gets (f75 K b) (·=bchk b):=by
 unfold f75
 simp only [f182,Option.bind_some]
 refine Gets.bind (P:=fun v=>(v=true↔¬ BNum b)) ?_ fun v hv=>Gets.cond (fun h=>Gets.some (bchk_not_num (hv.1 h)).symm) fun h=>?_
 ·unfold BNum
  repeat' (first | refine Gets.cond (fun h=>?_) (fun h=>?_) | refine Gets.some ?_)
  all_goals simp at*<;> omega
 have hn:BNum b:=Classical.byContradiction fun h'=>by rw [hv.2 h'] at h; cases h
 have hn':=hn
 obtain⟨h1,h2,h3,-⟩:=hn'
 refine Gets.jo (fun _=>CellsTo b b.Cells.length) (fun _ hc=>?_) fun j hj=>rngL_gets (fun n _=>CellsTo b n) hl ⟨fun j c h=>by omega,fun j c c' h=>by omega⟩ (fun k x _ nx hx hi hnx=>?_) fun _ h=>hj _ h
 ·refine Gets.jo (fun _=>PairsTo b b.Pairs.length) (fun _ hp=>Gets.some (bchk_0 hn hc hp).symm) fun j hj=>rngL_gets (fun n _=>PairsTo b n) hp ⟨fun j c h=>by omega,fun i j c c' h h'=>by omega⟩ (fun k x _ nx hx hi hnx=>?_) fun _ h=>hj _ h
  refine Gets.bind (P:=fun v=>(v=true↔¬ PairOk b x)) (pair_eq rfl h2) fun v hv=>Gets.cond (fun h=>Gets.some (bchk_50 fun h'=>hv.1 h (h'.pair _ _ hx)).symm) fun h=>?_
  have hk:PairOk b x:=Classical.byContradiction fun h'=>by rw [hv.2 h'] at h; cases h
  have hlt:=(List.getElem?_eq_some_iff.1 hx).1
  refine Gets.jo (fun _=>∀ i p,i < k→b.Pairs[i]?=some p→¬ Same p x) (fun _ hs=>hnx _ (hi.succ hx hk hs)) fun j2 hj2=>rngN_gets (fun n _=>∀ (i:Nat) p,(i:Int) < n→b.Pairs[i]?=some p→¬ Same p x) ⟨by omega,by omega⟩ (fun i p h=>by omega) (fun i _ nx2 h0 h1 hi2 hnx2=>?_) fun i _ h0 h1 h4 h5 h=>hj2 _ fun i' p hi' e=>h i' p (by omega) e
  obtain⟨y,e1,e2⟩:=ix_lt (xs:=b.Pairs) h0 (by omega)
  rw [e1,Option.bind_some]
  have hsame:(bif y.a0==x.a0 then ((y.a1==x.a1)||((y.a0==x.a1)&&(y.a1==x.a0))) else ((y.a0==x.a1)&&(y.a1==x.a0)))=true↔Same y x:=by
   unfold Same
   cases h7:(y.a0==x.a0) <;> simp at h7 <;> simp [h7]
  refine Gets.cond (fun h=>Gets.some (bchk_50 fun h'=>h'.diff i.toNat k y x (by omega) e2 hx (hsame.1 h)).symm) fun h=>hnx2 _ fun i' p hi' e=>?_
  by_cases hii:(i':Int)=i
  ·obtain rfl:i'=i.toNat:=by omega
   rw [e2] at e; cases e
   exact fun h'=>by rw [hsame.2 h'] at h; cases h
  ·exact hi2 i' p (by omega) e
 ·obtain⟨ok,e,hok⟩:=f178_eq K x
  refine Gets.bind (P:=fun v=>(v=true↔¬ (CellOk x∧∀ i c,k=i+1→b.Cells[i]?=some c→c.No < x.No))) (before_eq h2 hx hok (by rw [e]; rfl)) fun v hv=>Gets.cond (fun h=>Gets.some (bchk_50 fun h'=>hv.1 h ⟨h'.cell _ _ hx,fun i c hi e'=>h'.rise i c x e' (by rw [← hi]; exact hx)⟩).symm) fun h=>?_
  have hk:=Classical.byContradiction fun h'=>by rw [hv.2 h'] at h; cases h
  exact hnx _ (hi.succ hx hk.1 hk.2)
theorem f74_eq (K:Nat) (b:Basin) (hl:b.Cells.length≤9223372036854775807) (hp:b.Pairs.length≤9223372036854775807):Gets (f74 K b) (·=bchk b):=by
 unfold f74
 simp only [f140,Option.bind_some]
 refine Gets.bind (P:=fun v=>(v=true↔1≤b.Cells.length∧b.Cells.length≤12∧b.Pairs.length≤24)) ?_ fun v0 hv0=>Gets.bind (P:=fun v=>(v=true↔BNum b)) ?_ fun v hv=>Gets.cond (fun h=>Gets.some (bchk_not_num fun h'=>by rw [hv.2 h'] at h; cases h).symm) fun h=>?_
 ·repeat' (first | refine Gets.cond (fun h=>?_) (fun h=>?_) | refine Gets.some ?_)
  all_goals simp at*<;> omega
 ·unfold BNum
  repeat' (first | refine Gets.cond (fun h=>?_) (fun h=>?_) | refine Gets.some ?_)
  all_goals (first | have h9:=hv0.1 ‹_› | (have h9:¬ (1≤b.Cells.length∧b.Cells.length≤12∧b.Pairs.length≤24):=fun h9=>by have:=hv0.2 h9; simp_all)) <;> clear hv0 <;> simp at*<;> omega
 have hn:BNum b:=hv.1 (by simpa using h)
 have hn':=hn
 obtain⟨h1,h2,h3,-⟩:=hn'
 refine Gets.jo (fun _=>CellsTo b b.Cells.length) (fun _ hc=>?_) fun j hj=>rngL_gets (fun n _=>CellsTo b n) hl ⟨fun j c h=>by omega,fun j c c' h=>by omega⟩ (fun k x _ nx hx hi hnx=>?_) fun _ h=>hj _ h
 ·refine Gets.jo (fun _=>PairsTo b b.Pairs.length) (fun _ hp=>Gets.some (bchk_0 hn hc hp).symm) fun j hj=>rngL_gets (fun n vo=>PairsTo b n∧∀ z,z∈vo↔∃ i p,i < n∧b.Pairs[i]?=some p∧key p=z) hp ⟨⟨fun j c h=>by omega,fun i j c c' h h'=>by omega⟩,fun z=>by simp⟩ (fun k x vo nx hx hi hnx=>?_) fun _ h=>hj _ h.1
  refine Gets.bind (P:=fun v=>(v=true↔¬ PairOk b x)) (pair_eq rfl h2) fun v hv=>Gets.cond (fun h=>Gets.some (bchk_50 fun h'=>hv.1 h (h'.pair _ _ hx)).symm) fun h=>?_
  have hk:PairOk b x:=Classical.byContradiction fun h'=>by rw [hv.2 h'] at h; cases h
  have hmem:vo.contains (key x)=true↔∃ i p,i < k∧b.Pairs[i]?=some p∧Same p x:=by
   rw [List.contains_iff_mem,hi.2]
   simp only [key_same]
  change Gets (bif vo.contains (key x) then _ else nx _ (if vo.contains (key x) then vo else vo++[key x])) _
  refine Gets.cond (fun h=>?_) fun h=>?_
  ·obtain⟨i,p,h4,h5,h6⟩:=hmem.1 h
   exact Gets.some (bchk_50 fun h'=>h'.diff i k p x h4 h5 hx h6).symm
  ·have hno:∀ i p,i < k→b.Pairs[i]?=some p→¬ Same p x:=fun i p h4 h5 h6=>by rw [hmem.2 ⟨i,p,h4,h5,h6⟩] at h; cases h
   refine hnx _ ⟨hi.1.succ hx hk hno,fun z=>?_⟩
   rw [if_neg (by rw [h]; decide),List.mem_append,List.mem_singleton,hi.2]
   constructor
   ·rintro(⟨i,p,h4,h5,h6⟩ | rfl)
    ·exact⟨i,p,by omega,h5,h6⟩
    ·exact⟨k,x,by omega,hx,rfl⟩
   ·rintro⟨i,p,h4,h5,h6⟩
    by_cases h7:i=k
    ·subst h7; rw [hx] at h5; cases h5; exact .inr h6.symm
    ·exact .inl ⟨i,p,by omega,h5,h6⟩
 ·obtain⟨ok,e,hok⟩:=f177_eq K x
  refine Gets.bind (P:=fun v=>(v=true↔¬ (CellOk x∧∀ i c,k=i+1→b.Cells[i]?=some c→c.No < x.No))) (before_eq h2 hx hok (by rw [e]; rfl)) fun v hv=>Gets.cond (fun h=>Gets.some (bchk_50 fun h'=>hv.1 h ⟨h'.cell _ _ hx,fun i c hi e'=>h'.rise i c x e' (by rw [← hi]; exact hx)⟩).symm) fun h=>?_
  have hk:=Classical.byContradiction fun h'=>by rw [hv.2 h'] at h; cases h
  exact hnx _ (hi.succ hx hk.1 hk.2)
end Go.Proofs.YthlchdnbokhclaaGreat.Ql
namespace Go.Proofs.YthlchdnbokhclaaGreat.Ql
open Go
def fidx {α:Type} (p:α→Bool):List α→Int→Int
 | [],_=>-1
 | x::xs,i=>if p x then i else fidx p xs (i+1)
theorem fidx_ge {α:Type} {p:α→Bool}:∀ {xs:List α} {i:Int},0≤i→-1≤fidx p xs i∧fidx p xs i < i+xs.length∨fidx p xs i=-1
 | [],i,h=>.inr rfl
 | x::xs,i,h=>by
  unfold fidx
  split
  ·left; simp; omega
  ·rcases fidx_ge (p:=p) (xs:=xs) (i:=i+1) (by omega) with h1 | h1
   ·left; simp; omega
   ·exact .inr h1
theorem fidx_lt {α:Type} {p:α→Bool} {xs:List α}:-1≤fidx p xs 0∧(fidx p xs 0 < xs.length):=by
 rcases fidx_ge (p:=p) (xs:=xs) (i:=0) (by omega) with h | h <;> omega
theorem rngL'_find {α ρ:Type} {p:α→Bool} {f:Int→ρ} {ex:Int→Unit→Option ρ} {bd:(Int→Unit→Option ρ)→α→Int→Unit→Option ρ} (hx:∀ i u,ex i u=some (f (-1))) (hb:∀ nx x i u,bd nx x i u=bif p x then some (f i) else nx (i+1) u) :
  ∀ (xs:List α) (i:Int),rngL' ex bd xs i ()=some (f (fidx p xs i))
 | [],i=>by simp only [rngL',fidx]; exact hx _ _
 | x::xs,i=>by
  simp only [rngL',fidx]
  rw [hb]
  cases h:p x
  ·simp only [cond_false,Bool.false_eq_true,if_false]; exact rngL'_find hx hb xs (i+1)
  ·simp
theorem rngL_find {α ρ:Type} {p:α→Bool} {f:Int→ρ} {xs:List α} {ex:Int→Unit→Option ρ} {bd:(Int→Unit→Option ρ)→α→Int→Unit→Option ρ} (hl:xs.length≤9223372036854775807) (hx:∀ i u,ex i u=some (f (-1))) (hb:∀ nx x i u,bd nx x i u=bif p x then some (f i) else nx (i+1) u) :
  rngL xs () ex bd=some (f (fidx p xs 0)):=by
 unfold rngL
 rw [if_pos hl]
 exact rngL'_find hx hb xs 0
def cellAt (b:Basin) (no:Int):Int:=fidx (fun c:Cell=>c.No==no) b.Cells 0
def dayAt (ds:List Int) (d:Int):Int:=fidx (fun x:Int=>x==d) ds 0
theorem f117_eq (K:Nat) (s:Scene) (d:Int) (h:s.Days.length≤9223372036854775807):f117 K s d=some (dayAt s.Days d):=
 rngL_find (f:=id) h (fun _ _=>rfl) fun nx x i u=>rfl
theorem f194_eq (K:Nat) (ds:List Int) (d:Int) (h:ds.length≤9223372036854775807):f194 K ds d=some (dayAt ds d):=
 rngL_find (f:=id) h (fun _ _=>rfl) fun nx x i u=>by rw [show (d==x)=(x==d) from by rw [Bool.eq_iff_iff,beq_iff_eq,beq_iff_eq]; exact eq_comm]; rfl
theorem f116_eq (K:Nat) (b:Basin) (n:Int) (h:b.Cells.length≤9223372036854775807):f116 K b n=some (cellAt b n):=
 rngL_find (f:=id) h (fun _ _=>rfl) fun nx x i u=>rfl
theorem f221_eq (K:Nat) (b:Basin) (n:Int) (h:b.Cells.length≤9223372036854775807):f221 K b n=some (cellAt b n):=by
 unfold f221
 have:f209 K b.Cells (fun y0=>f296 K y0 n)=some (cellAt b n):=rngL_find (f:=id) h (fun _ _=>rfl) fun nx x i u=>rfl
 rw [this]; rfl
def DaysOk (ds:List Int):Prop:=1≤ds.length∧ds.length≤16∧(∀ (j:Nat) d,ds[j]?=some d→0≤d∧d≤1048576)∧∀ (j:Nat) d d',ds[j]?=some d→ds[j+1]?=some d'→d < d'
def SightOk (s:Scene) (g:Sight):Prop:=(0≤g.No∧g.No≤8191)∧0≤cellAt s.Basin g.Cell∧0≤dayAt s.Days g.Day∧0≤g.Lo∧g.Lo≤g.Hi∧g.Hi≤65536
def ChangeOk (s:Scene) (g:Change):Prop:=0≤cellAt s.Basin g.Cell∧0≤dayAt s.Days g.From∧0≤dayAt s.Days g.To∧g.From < g.To∧-65536≤g.Lo∧g.Lo≤g.Hi∧g.Hi≤65536
open Classical in
noncomputable def chk (s:Scene):Int:=
 if ¬ BOk s.Basin then 50 else if ¬ DaysOk s.Days then 1 else if ¬ (s.Sights.length≤256∧s.Changes.length≤256) then 2 else if ¬ ∀ g∈s.Sights,SightOk s g then 51 else if ¬ ∀ g∈s.Changes,ChangeOk s g then 52 else 0
structure Lens (s:Scene):Prop where
 c:s.Basin.Cells.length≤9223372036854775807
 p:s.Basin.Pairs.length≤9223372036854775807
 d:s.Days.length≤9223372036854775807
 g:s.Sights.length≤9223372036854775807
 h:s.Changes.length≤9223372036854775807
theorem f83_eq (K:Nat) (ds:List Int) (d:Int) (h:ds.length≤9223372036854775807):f83 K ds d=some (decide (0≤dayAt ds d)):=by
 unfold f83; rw [f194_eq K ds d h]; rfl
theorem f130_eq (K:Nat) (s:Scene) (g:Sight) (h:Lens s):Gets (f130 K s g) fun r=>(r=true↔SightOk s g):=by
 simp only [f130,f140,Option.bind_some,f221_eq K s.Basin g.Cell h.c,f83_eq K s.Days g.Day h.d]
 refine Gets.bind (P:=fun r=>(r=true↔SightOk s g)) ?_ fun a h=>Gets.some h
 unfold SightOk
 repeat' (first | refine Gets.cond (fun h=>?_) (fun h=>?_) | refine Gets.some ?_)
 all_goals simp at*<;> omega
theorem f181_eq (K:Nat) (s:Scene) (g:Sight) (h:Lens s):Gets (f181 K s g) fun r=>(r=true↔SightOk s g):=by
 simp only [f181,f182,Option.bind_some,f116_eq K s.Basin g.Cell h.c,f117_eq K s g.Day h.d]
 refine Gets.bind (P:=fun r=>(r=true↔SightOk s g)) ?_ fun a h=>Gets.some h
 unfold SightOk
 repeat' (first | refine Gets.cond (fun h=>?_) (fun h=>?_) | refine Gets.some ?_)
 all_goals simp at*<;> omega
theorem f183_eq (K:Nat) (s:Scene) (g:Change) (h:Lens s):Gets (f183 K s g) fun r=>(r=true↔ChangeOk s g):=by
 simp only [f183,Option.bind_some,f116_eq K s.Basin g.Cell h.c,f117_eq K s g.From h.d,f117_eq K s g.To h.d]
 refine Gets.bind (P:=fun r=>(r=true↔ChangeOk s g)) ?_ fun a h=>Gets.some h
 unfold ChangeOk
 repeat' (first | refine Gets.cond (fun h=>?_) (fun h=>?_) | refine Gets.some ?_)
 all_goals simp at*<;> omega
theorem f175_eq (K:Nat) (s:Scene) (g:Change) (h:Lens s):Gets (f175 K s g) fun r=>(r=true↔ChangeOk s g):=by
 simp only [f175,Option.bind_some,f221_eq K s.Basin g.Cell h.c,f83_eq K s.Days g.From h.d,f83_eq K s.Days g.To h.d]
 refine Gets.bind (P:=fun r=>(r=true↔g.From < g.To∧0≤dayAt s.Days g.From∧0≤dayAt s.Days g.To)) ?_ fun a ha=>Gets.bind (P:=fun r=>(r=true↔ChangeOk s g)) ?_ fun a h=>Gets.some h
 ·repeat' (first | refine Gets.cond (fun h=>?_) (fun h=>?_) | refine Gets.some ?_)
  all_goals simp at*<;> omega
 unfold ChangeOk
 cases a
 ·have:=(not_congr ha).1 (by decide)
  exact Gets.some (by simp; intro h1 h2 h3 h4; exact absurd ⟨h4,h2,h3⟩ this)
 have:=ha.1 rfl
 clear ha
 repeat' (first | refine Gets.cond (fun h=>?_) (fun h=>?_) | refine Gets.some ?_)
 all_goals simp at*<;> omega
end Go.Proofs.YthlchdnbokhclaaGreat.Ql
namespace Go.Proofs.YthlchdnbokhclaaGreat.Ql
open Go
theorem chk_50 {s:Scene} (h:¬ BOk s.Basin):chk s=50:=by unfold chk; rw [if_pos h]
theorem chk_1 {s:Scene} (h:BOk s.Basin) (hd:¬ DaysOk s.Days):chk s=1:=by unfold chk; rw [if_neg (Classical.not_not.2 h),if_pos hd]
theorem chk_2 {s:Scene} (h:BOk s.Basin) (hd:DaysOk s.Days) (hm:¬ (s.Sights.length≤256∧s.Changes.length≤256)):chk s=2:=by unfold chk; rw [if_neg (Classical.not_not.2 h),if_neg (Classical.not_not.2 hd),if_pos hm]
theorem chk_51 {s:Scene} (h:BOk s.Basin) (hd:DaysOk s.Days) (hm:s.Sights.length≤256∧s.Changes.length≤256) (hs:¬ ∀ g∈s.Sights,SightOk s g):chk s=51:=by unfold chk; rw [if_neg (Classical.not_not.2 h),if_neg (Classical.not_not.2 hd),if_neg (Classical.not_not.2 hm),if_pos hs]
theorem chk_52 {s:Scene} (h:BOk s.Basin) (hd:DaysOk s.Days) (hm:s.Sights.length≤256∧s.Changes.length≤256) (hs:∀ g∈s.Sights,SightOk s g) (hc:¬ ∀ g∈s.Changes,ChangeOk s g):chk s=52:=by unfold chk; rw [if_neg (Classical.not_not.2 h),if_neg (Classical.not_not.2 hd),if_neg (Classical.not_not.2 hm),if_neg (Classical.not_not.2 hs),if_pos hc]
theorem chk_0 {s:Scene} (h:BOk s.Basin) (hd:DaysOk s.Days) (hm:s.Sights.length≤256∧s.Changes.length≤256) (hs:∀ g∈s.Sights,SightOk s g) (hc:∀ g∈s.Changes,ChangeOk s g):chk s=0:=by unfold chk; rw [if_neg (Classical.not_not.2 h),if_neg (Classical.not_not.2 hd),if_neg (Classical.not_not.2 hm),if_neg (Classical.not_not.2 hs),if_neg (Classical.not_not.2 hc)]
theorem bchk_ne {b:Basin}:bchk b≠0↔¬ BOk b:=by
 unfold bchk
 split
 ·simp [*]
 ·simp [*]
theorem rising_lt {ds:List Int} (h:∀ (j:Nat) d d',ds[j]?=some d→ds[j+1]?=some d'→d < d'):∀ (k j:Nat) d d',ds[j]?=some d→ds[j+k]?=some d'→d≤d'
 | 0,j,d,d',e,e'=>by rw [Nat.add_zero,e] at e'; cases e'; omega
 | k+1,j,d,d',e,e'=>by
  have hlt:=(List.getElem?_eq_some_iff.1 e').1
  have e2:ds[j+k]?=some ds[j+k]:=List.getElem?_eq_getElem (by omega)
  have h1:=rising_lt h k j d _ e e2
  have h2:=h (j+k) _ d' e2 e'
  omega
theorem f174_eq (K:Nat) (ds:List Int) (h:ds.length≤9223372036854775807):Gets (f174 K ds) fun r=>(r=true↔∀ (j:Nat) d d',ds[j]?=some d→ds[j+1]?=some d'→d < d'):=by
 unfold f174
 refine Gets.jo (fun _=>∀ (j:Nat) d d',ds[j]?=some d→ds[j+1]?=some d'→d < d') (fun _ hp=>Gets.some (by simp; exact hp)) fun j hj=>rngN_gets (fun n _=>∀ (j:Nat) d d',(j:Int)+1 < n→ds[j]?=some d→ds[j+1]?=some d'→d < d') ⟨by omega,by omega⟩ (fun j d d' h=>by omega) (fun i _ nx h0 h1 hi hnx=>?_) fun i _ h0 h1 h2 h3 hi=>hj _ fun j d d' e e'=>hi j d d' (by have:=(List.getElem?_eq_some_iff.1 e').1; omega) e e'
 rw [W_eq (by omega) (by omega)]
 obtain⟨y,e1,e2⟩:=ix_lt (xs:=ds) (i:=i - 1) (by omega) (by omega)
 obtain⟨y',e3,e4⟩:=ix_lt (xs:=ds) (i:=i) (by omega) (by omega)
 rw [e1,Option.bind_some,e3,Option.bind_some]
 obtain⟨k,rfl⟩:∃ k:Nat,i=(k:Int)+1:=⟨(i - 1).toNat,by omega⟩
 rw [show ((k:Int)+1 - 1).toNat=k by omega] at e2
 rw [show ((k:Int)+1).toNat=k+1 by omega] at e4
 refine Gets.cond (fun h=>Gets.some ?_) fun h=>hnx _ fun j d d' hj e e'=>?_
 ·simp at h ⊢
  exact⟨k,y,e2,y',e4,h⟩
 ·simp at h
  by_cases hk:j=k
  ·subst hk; rw [e2] at e; rw [e4] at e'; cases e; cases e'; exact h
  ·exact hi j d d' (by omega) e e'
theorem all_to {α:Type} {xs:List α} {p:α→Prop} (h:∀ (j:Nat) x,j < xs.length→xs[j]?=some x→p x):∀ x∈xs,p x:=fun x hx=>by
 obtain⟨j,e⟩:=List.mem_iff_getElem?.1 hx
 exact h j x (List.getElem?_eq_some_iff.1 e).1 e
theorem f66_eq (K:Nat) (s:Scene) (hL:Lens s):Gets (f66 K s) (·=chk s):=by
 unfold f66
 refine Gets.bind (f74_eq K _ hL.c hL.p) fun a ha=>Gets.cond (fun h=>Gets.some ?_) fun h=>?_
 ·subst ha
  have:=bchk_ne.1 (by simpa using h)
  rw [chk_50 this,bchk_50 this]
 have hb:BOk s.Basin:=Classical.byContradiction fun h'=>by have:=bchk_ne.2 h'; subst ha; simp at h; exact this h
 simp only [f140,Option.bind_some]
 refine Gets.bind (P:=fun v=>(v=true↔¬ DaysOk s.Days)) ?_ fun v hv=>Gets.cond (fun h=>Gets.some (chk_1 hb (hv.1 h)).symm) fun h=>?_
 ·refine Gets.cond (fun h=>Gets.some ?_) fun h=>?_
  ·simp [DaysOk] at h ⊢
   intro h1 h2; omega
  have hl:1≤s.Days.length∧s.Days.length≤16:=by simp at h; omega
  refine Gets.bind (f174_eq K _ hL.d) fun r hr=>Gets.cond (fun h2=>Gets.some ?_) fun h2=>?_
  ·simp only [true_iff]
   intro h3
   rw [hr.2 h3.2.2.2] at h2; cases h2
  have hr:=hr.1 (by simpa using h2)
  obtain⟨d0,e0⟩:∃ d,s.Days[0]?=some d:=⟨_,List.getElem?_eq_getElem (by omega)⟩
  have e0':ix s.Days 0=some d0:=ix_nat (j:=0) e0
  rw [e0',Option.bind_some]
  refine Gets.cond (fun h3=>Gets.some ?_) fun h3=>?_
  ·simp only [true_iff]
   intro h4
   have:=(h4.2.2.1 0 d0 e0).1
   simp at h3; omega
  ·rw [W_eq (by omega) (by omega)]
   obtain⟨d1,e1,e2⟩:=ix_lt (xs:=s.Days) (i:=s.Days.length - 1) (by omega) (by omega)
   rw [e1,Option.bind_some]
   refine Gets.some ?_
   rw [show ((s.Days.length:Int) - 1).toNat=s.Days.length - 1 by omega] at e2
   simp at h3 ⊢
   constructor
   ·intro h4 h5
    have:=(h5.2.2.1 _ d1 e2).2
    omega
   ·intro h4
    refine Classical.byContradiction fun h5=>h4 ⟨hl.1,hl.2,fun j d e=>?_,hr⟩
    have hj:=(List.getElem?_eq_some_iff.1 e).1
    have h6:=rising_lt hr j 0 d0 d e0 (by rw [Nat.zero_add]; exact e)
    have h7:=rising_lt hr (s.Days.length - 1 - j) j d d1 e (by rw [show j+(s.Days.length - 1 - j)=s.Days.length - 1 by omega]; exact e2)
    omega
 have hd:DaysOk s.Days:=Classical.byContradiction fun h'=>by rw [hv.2 h'] at h; cases h
 refine Gets.cond (fun h=>Gets.some (chk_2 hb hd (by simp at h; omega)).symm) fun h=>?_
 have hm:s.Sights.length≤256∧s.Changes.length≤256:=by simp at h; omega
 refine Gets.jo (fun _=>∀ g∈s.Sights,SightOk s g) (fun _ hs=>?_) fun j hj=>rngL_gets (fun n _=>∀ (j:Nat) x,j < n→s.Sights[j]?=some x→SightOk s x) hL.g (fun j x h=>by omega) (fun k x _ nx hx hi hnx=>?_) fun _ h=>hj _ (all_to h)
 ·refine Gets.jo (fun _=>∀ g∈s.Changes,ChangeOk s g) (fun _ hc=>Gets.some (chk_0 hb hd hm hs hc).symm) fun j hj=>rngL_gets (fun n _=>∀ (j:Nat) x,j < n→s.Changes[j]?=some x→ChangeOk s x) hL.h (fun j x h=>by omega) (fun k x _ nx hx hi hnx=>?_) fun _ h=>hj _ (all_to h)
  refine Gets.bind (f175_eq K s x hL) fun r hr=>Gets.cond (fun h=>Gets.some (chk_52 hb hd hm hs fun h'=>by rw [hr.2 (h' x (List.mem_of_getElem? hx))] at h; cases h).symm) fun h=>hnx _ fun j y hjk e=>?_
  by_cases hk:j=k
  ·subst hk; rw [hx] at e; cases e; exact hr.1 (by simpa using h)
  ·exact hi j y (by omega) e
 ·refine Gets.bind (f130_eq K s x hL) fun r hr=>Gets.cond (fun h=>Gets.some (chk_51 hb hd hm fun h'=>by rw [hr.2 (h' x (List.mem_of_getElem? hx))] at h; cases h).symm) fun h=>hnx _ fun j y hjk e=>?_
  by_cases hk:j=k
  ·subst hk; rw [hx] at e; cases e; exact hr.1 (by simpa using h)
  ·exact hi j y (by omega) e
theorem f76_eq (K:Nat) (s:Scene) (hL:Lens s):Gets (f76 K s) (·=chk s):=by
 unfold f76
 refine Gets.bind (f75_eq K _ hL.c hL.p) fun a ha=>Gets.cond (fun h=>Gets.some ?_) fun h=>?_
 ·subst ha
  exact(chk_50 (bchk_ne.1 (by simpa using h))).symm
 have hb:BOk s.Basin:=Classical.byContradiction fun h'=>by have:=bchk_ne.2 h'; subst ha; simp at h; exact this h
 refine Gets.cond (fun h=>Gets.some (chk_1 hb fun h'=>by have:=h'.1; have:=h'.2.1; simp at h; omega).symm) fun h=>?_
 have hl:1≤s.Days.length∧s.Days.length≤16:=by simp at h; omega
 refine Gets.jo (fun _=>DaysOk s.Days) (fun _ hd=>?_) fun j hj=>rngL_gets (fun n _=>(∀ (j:Nat) d,j < n→s.Days[j]?=some d→0≤d∧d≤1048576)∧∀ (j:Nat) d d',j+1 < n→s.Days[j]?=some d→s.Days[j+1]?=some d'→d < d') hL.d ⟨fun j x h=>by omega,fun j x x' h=>by omega⟩ (fun k x _ nx hx hi hnx=>?_) fun _ h=>hj _ ⟨hl.1,hl.2,fun j d e=>h.1 j d (List.getElem?_eq_some_iff.1 e).1 e,fun j d d' e e'=>h.2 j d d' (List.getElem?_eq_some_iff.1 e').1 e e'⟩
 ·refine Gets.cond (fun h=>Gets.some (chk_2 hb hd (by simp at h; omega)).symm) fun h=>?_
  have hm:s.Sights.length≤256∧s.Changes.length≤256:=by simp at h; omega
  refine Gets.jo (fun _=>∀ g∈s.Sights,SightOk s g) (fun _ hs=>?_) fun j hj=>rngL_gets (fun n _=>∀ (j:Nat) x,j < n→s.Sights[j]?=some x→SightOk s x) hL.g (fun j x h=>by omega) (fun k x _ nx hx hi hnx=>?_) fun _ h=>hj _ (all_to h)
  ·refine Gets.jo (fun _=>∀ g∈s.Changes,ChangeOk s g) (fun _ hc=>Gets.some (chk_0 hb hd hm hs hc).symm) fun j hj=>rngL_gets (fun n _=>∀ (j:Nat) x,j < n→s.Changes[j]?=some x→ChangeOk s x) hL.h (fun j x h=>by omega) (fun k x _ nx hx hi hnx=>?_) fun _ h=>hj _ (all_to h)
   refine Gets.bind (f183_eq K s x hL) fun r hr=>Gets.cond (fun h=>Gets.some (chk_52 hb hd hm hs fun h'=>by rw [hr.2 (h' x (List.mem_of_getElem? hx))] at h; cases h).symm) fun h=>hnx _ fun j y hjk e=>?_
   by_cases hk:j=k
   ·subst hk; rw [hx] at e; cases e; exact hr.1 (by simpa using h)
   ·exact hi j y (by omega) e
  ·refine Gets.bind (f181_eq K s x hL) fun r hr=>Gets.cond (fun h=>Gets.some (chk_51 hb hd hm fun h'=>by rw [hr.2 (h' x (List.mem_of_getElem? hx))] at h; cases h).symm) fun h=>hnx _ fun j y hjk e=>?_
   by_cases hk:j=k
   ·subst hk; rw [hx] at e; cases e; exact hr.1 (by simpa using h)
   ·exact hi j y (by omega) e
 ·simp only [f182,Option.bind_some]
  refine Gets.bind (P:=fun v=>(v=true↔¬ ((0≤x∧x≤1048576)∧∀ i d,k=i+1→s.Days[i]?=some d→d < x))) ?_ fun v hv=>Gets.cond (fun h=>Gets.some (chk_1 hb fun h'=>hv.1 h ⟨h'.2.2.1 _ _ hx,fun i d hi e=>h'.2.2.2 i d x e (by rw [← hi]; exact hx)⟩).symm) fun h=>?_
  ·have hlt:=(List.getElem?_eq_some_iff.1 hx).1
   refine Gets.cond (fun h=>Gets.some ?_) fun h=>Gets.cond (fun h2=>?_) fun h2=>Gets.some ?_
   ·simp at h ⊢; intro h1 h2; omega
   ·have hk:0≤x∧x≤1048576:=by simpa using h
    have hj:0 < k:=by simpa using h2
    obtain⟨i,rfl⟩:∃ i,k=i+1:=⟨k - 1,by omega⟩
    rw [show W (((i+1:Nat):Int) - 1)=(i:Int) by rw [W_eq (by omega) (by omega)]; omega]
    obtain⟨y,hy⟩:∃ y,s.Days[i]?=some y:=⟨_,List.getElem?_eq_getElem (by omega)⟩
    rw [ix_nat hy]
    refine Gets.some ?_
    simp only [hk,true_and,decide_eq_true_eq,and_self]
    constructor
    ·intro h3 h4
     have:=h4 i y rfl hy
     omega
    ·intro h3
     by_cases h4:y≥x
     ·exact h4
     ·exact absurd (fun i' c e e'=>by cases e; rw [hy] at e'; cases e'; omega) h3
   ·have hk:0≤x∧x≤1048576:=by simpa using h
    have hj:k=0:=by simpa using h2
    simp [hk]
    intro i c e; omega
  have hk:=Classical.byContradiction fun h'=>by rw [hv.2 h'] at h; cases h
  refine hnx _ ⟨fun i d hi' e=>?_,fun i d d' hi' e e'=>?_⟩
  ·by_cases hij:i=k
   ·subst hij; rw [hx] at e; cases e; exact hk.1
   ·exact hi.1 i d (by omega) e
  ·by_cases hij:i+1=k
   ·rw [hij,hx] at e'; cases e'; exact hk.2 i d hij.symm e
   ·exact hi.2 i d d' (by omega) e e'
end Go.Proofs.YthlchdnbokhclaaGreat.Ql
namespace Go.Proofs.YthlchdnbokhclaaGreat.Ql
open Go
structure SOk (s:Scene):Prop where
 b:BOk s.Basin
 d:DaysOk s.Days
 m:s.Sights.length≤256∧s.Changes.length≤256
 g:∀ g∈s.Sights,SightOk s g
 h:∀ g∈s.Changes,ChangeOk s g
theorem chk_iff {s:Scene}:chk s=0↔SOk s:=by
 constructor
 ·intro h
  have hb:BOk s.Basin:=Classical.byContradiction fun h'=>by rw [chk_50 h'] at h; cases h
  have hd:DaysOk s.Days:=Classical.byContradiction fun h'=>by rw [chk_1 hb h'] at h; cases h
  have hm:s.Sights.length≤256∧s.Changes.length≤256:=Classical.byContradiction fun h'=>by rw [chk_2 hb hd h'] at h; cases h
  have hg:∀ g∈s.Sights,SightOk s g:=Classical.byContradiction fun h'=>by rw [chk_51 hb hd hm h'] at h; cases h
  have hc:∀ g∈s.Changes,ChangeOk s g:=Classical.byContradiction fun h'=>by rw [chk_52 hb hd hm hg h'] at h; cases h
  exact⟨hb,hd,hm,hg,hc⟩
 ·intro h
  exact chk_0 h.b h.d h.m h.g h.h
def lflat {α β:Type} (g:α→Int→List β):List α→Int→List β
 | [],_=>[]
 | x::xs,i=>g x i++lflat g xs (i+1)
theorem lflat_len {α β:Type} {g:α→Int→List β} {n:Nat} (h:∀ x i,(g x i).length≤n):∀ (xs:List α) (i:Int),(lflat g xs i).length≤xs.length*n
 | [],i=>by simp [lflat]
 | x::xs,i=>by
  simp only [lflat,List.length_append,List.length_cons]
  have:=lflat_len h xs (i+1)
  have:=h x i
  rw [Nat.succ_mul]; omega
theorem lflat_drop {α β:Type} {g:α→Int→List β} {xs:List α} {j:Nat} {x:α} (h:xs[j]?=some x):lflat g (xs.drop j) j=g x j++lflat g (xs.drop (j+1)) ((j+1:Nat):Int):=by
 have hlt:=(List.getElem?_eq_some_iff.1 h).1
 rw [List.drop_eq_getElem_cons hlt,lflat,(List.getElem?_eq_some_iff.1 h).2]
 rfl
theorem rngL_flat {α β V ρ:Type} {xs:List α} {v:V} {ex:Int→V→Option ρ} {bd:(Int→V→Option ρ)→α→Int→V→Option ρ} {Q:ρ→Prop} (g:α→Int→List β) (St:List β→V→Prop) {a0:List β} {B:Nat} (hB:(a0++lflat g xs 0).length≤B) (hl:xs.length≤9223372036854775807) (h0:St a0 v)
  (step:∀ (j:Nat) (x:α) (acc:List β) (v:V) (nx:Int→V→Option ρ),xs[j]?=some x→(acc++g x j).length≤B→St acc v→(∀ v',St (acc++g x j) v'→Gets (nx ((j:Int)+1) v') Q)→Gets (bd nx x j v) Q)
  (done:∀ v,St (a0++lflat g xs 0) v→Gets (ex xs.length v) Q):Gets (rngL xs v ex bd) Q:=by
 refine rngL_gets (fun j v=>∃ acc,St acc v∧acc++lflat g (xs.drop j) j=a0++lflat g xs 0) hl ⟨a0,h0,by simp⟩ ?_ ?_
 ·rintro j x v nx hx ⟨acc,h1,h2⟩ hnx
  rw [lflat_drop hx,← List.append_assoc] at h2
  refine step j x acc v nx hx ?_ h1 fun v' h'=>hnx v' ⟨_,h',h2⟩
  have:=congrArg List.length h2
  rw [List.length_append] at this
  omega
 ·rintro v ⟨acc,h1,h2⟩
  rw [List.drop_length,lflat,List.append_nil] at h2
  subst h2
  exact done v h1
def cellOf (b:Basin) (i:Int):Cell:=b.Cells.getD i.toNat ⟨0,0,0,0⟩
def alike (c c':Cell):Bool:=decide (c.Aspect=c'.Aspect∨c.Aspect - c'.Aspect=1∨c'.Aspect - c.Aspect=1∨c.Aspect - c'.Aspect=7∨c'.Aspect - c.Aspect=7)
def moreOf (b:Basin) (p:Arr2_3):Int:=b.Slack+Int.tdiv (b.Gain*((cellOf b p.a1).Height - (cellOf b p.a0).Height)) 100
def lessOf (b:Basin) (p:Arr2_3):Int:=if (cellOf b p.a0).Height=(cellOf b p.a1).Height then b.Slack else 0
def node (s:Scene) (c d:Int):Int:=1+d*s.Basin.Cells.length+c
abbrev DR:=Diff × Reason
def gCell (s:Scene) (d day:Int) (c:Cell) (i:Int):List DR:=[(⟨0,node s i d,s.Basin.Deep⟩,⟨1,c.No,day,false⟩),(⟨node s i d,0,0⟩,⟨2,c.No,day,false⟩)]
def gPair (s:Scene) (d day:Int) (p:Arr2_3) (i:Int):List DR:=
 if alike (cellOf s.Basin p.a0) (cellOf s.Basin p.a1) then [(⟨node s p.a0 d,node s p.a1 d,moreOf s.Basin p⟩,⟨3,i,day,false⟩),(⟨node s p.a1 d,node s p.a0 d,lessOf s.Basin p⟩,⟨4,i,day,false⟩)] else []
def gDay (s:Scene) (day d:Int):List DR:=lflat (gCell s d day) s.Basin.Cells 0++lflat (gPair s d day) s.Basin.Pairs 0
def sightNode (s:Scene) (c d:Int):Int:=node s (cellAt s.Basin c) (dayAt s.Days d)
def gSight (s:Scene) (g:Sight) (i:Int):List DR:=[(⟨0,sightNode s g.Cell g.Day,g.Hi⟩,⟨5,i,0,true⟩),(⟨sightNode s g.Cell g.Day,0,-g.Lo⟩,⟨5,i,0,false⟩)]
def gChange (s:Scene) (g:Change) (i:Int):List DR:=[(⟨sightNode s g.Cell g.From,sightNode s g.Cell g.To,g.Hi⟩,⟨6,i,0,true⟩),(⟨sightNode s g.Cell g.To,sightNode s g.Cell g.From,-g.Lo⟩,⟨6,i,0,false⟩)]
def lay (s:Scene):List DR:=lflat (gDay s) s.Days 0++lflat (gSight s) s.Sights 0++lflat (gChange s) s.Changes 0
theorem gDay_len {s:Scene} (h:BOk s.Basin) (day d:Int):(gDay s day d).length≤72:=by
 have h1:=lflat_len (g:=gCell s d day) (n:=2) (fun x i=>Nat.le_refl 2) s.Basin.Cells 0
 have h2:=lflat_len (g:=gPair s d day) (n:=2) (fun x i=>by unfold gPair; split <;> simp) s.Basin.Pairs 0
 have:=h.c2
 have:=h.p1
 unfold gDay
 rw [List.length_append]; omega
theorem lay_len {s:Scene} (h:SOk s):(lay s).length≤2176:=by
 have h1:=lflat_len (g:=gDay s) (n:=72) (gDay_len h.b) s.Days 0
 have h2:=lflat_len (g:=gSight s) (n:=2) (fun x i=>Nat.le_refl 2) s.Sights 0
 have h3:=lflat_len (g:=gChange s) (n:=2) (fun x i=>Nat.le_refl 2) s.Changes 0
 have:=h.d.2.1
 have:=h.m
 unfold lay
 rw [List.length_append,List.length_append]; omega
def StR (acc:List DR) (v:List Diff × List Reason):Prop:=v=(acc.map (·.1),acc.map (·.2))
theorem mul_le {a b m n:Int} (h0:0≤a) (h1:a≤m) (h2:0≤b) (h3:b≤n):0≤a*b∧a*b≤m*n:=
 ⟨Int.mul_nonneg h0 h2,Int.le_trans (Int.mul_le_mul_of_nonneg_right h1 h2) (Int.mul_le_mul_of_nonneg_left h3 (by omega))⟩
theorem f205_eq {K:Nat} {s:Scene} {c d:Int} (hb:BOk s.Basin) (h0:0≤d) (h1:d≤16) (h2:0≤c) (h3:c≤16):f205 K s c d=some (node s c d):=by
 have:=hb.c2
 have:=mul_le (a:=d) (b:=s.Basin.Cells.length) (m:=16) (n:=12) h0 h1 (by omega) (by omega)
 unfold f205 node
 rw [W_eq (n:=d*_) (by omega) (by omega),W_eq (n:=1+_) (by omega) (by omega),W_eq (by omega) (by omega)]
theorem f202_eq {K:Nat} {l:Laid_basin} {s:Scene} {c d:Int} (hs:l.s.Basin.Cells=s.Basin.Cells) (hb:BOk s.Basin) (h0:0≤d) (h1:d≤16) (h2:0≤c) (h3:c≤16):f202 K l c d=some (node s c d):=by
 unfold f202
 rw [hs]
 exact f205_eq (K:=K) hb h0 h1 h2 h3
theorem cellOf_eq {b:Basin} {i:Int} {c:Cell} (h0:0≤i) (h:b.Cells[i.toNat]?=some c):ix b.Cells i=some (cellOf b i)∧cellOf b i=c:=by
 unfold cellOf
 rw [ix_eq h0 h,List.getD_eq_getElem?_getD,h]
 exact⟨rfl,rfl⟩
theorem PairOk.cells {b:Basin} {p:Arr2_3} (h:PairOk b p):ix b.Cells p.a0=some (cellOf b p.a0)∧ix b.Cells p.a1=some (cellOf b p.a1)∧(cellOf b p.a0).Height≤(cellOf b p.a1).Height:=by
 obtain⟨h0,h1,h2,h3,h4,c,c',e1,e2,h5⟩:=h
 have a:=cellOf_eq h0 e1
 have a':=cellOf_eq h2 e2
 exact⟨a.1,a'.1,by rw [a.2,a'.2]; exact h5⟩
theorem cellOf_ok {b:Basin} (hb:BOk b) {i:Int} (h0:0≤i) (h1:i < b.Cells.length):CellOk (cellOf b i):=by
 have e:b.Cells[i.toNat]?=some b.Cells[i.toNat]:=List.getElem?_eq_getElem (by omega)
 rw [(cellOf_eq h0 e).2]
 exact hb.cell _ _ e
theorem f179_eq {K:Nat} {c c':Cell} (h:CellOk c) (h':CellOk c'):f179 K c c'=some (alike c c'):=by
 obtain⟨-,-,-,-,a1,a2,-⟩:=h
 obtain⟨-,-,-,-,a3,a4,-⟩:=h'
 unfold f179 alike
 rw [W_eq (by omega) (by omega),W_eq (by omega) (by omega)]
 congr 1
 rw [Bool.eq_iff_iff]
 simp only [Bool.or_eq_true,beq_iff_eq,decide_eq_true_eq]
 split <;> omega
theorem f141_eq {K:Nat} {c c':Cell} (h:CellOk c) (h':CellOk c'):f141 K c c'=some (alike c c'):=by
 obtain⟨-,-,-,-,a1,a2,-⟩:=h
 obtain⟨-,-,-,-,a3,a4,-⟩:=h'
 unfold f141 alike
 rw [W_eq (n:=_ - _) (by omega) (by omega),W_eq (by omega) (by omega)]
 congr 1
 rw [Bool.eq_iff_iff]
 simp only [Bool.or_eq_true,beq_iff_eq,decide_eq_true_eq]
 rw [Int.tmod_eq_emod_of_nonneg (by omega)]
 omega
theorem f180_eq {K:Nat} {b:Basin} {p:Arr2_3} (hb:BOk b) (h:PairOk b p):f180 K b p=some (moreOf b p):=by
 have hc:=h.cells
 have h1:=cellOf_ok hb h.1 h.2.1
 have h2:=cellOf_ok hb h.2.2.1 h.2.2.2.1
 unfold f180 moreOf
 rw [hc.1,hc.2.1,Option.bind_some,Option.bind_some]
 obtain⟨-,-,a1,a2,-⟩:=h1
 obtain⟨-,-,a3,a4,-⟩:=h2
 have hg:=hb.g
 have hs:=hb.s
 have:=hc.2.2
 have hm:=mul_le (a:=b.Gain) (b:=(cellOf b p.a1).Height - (cellOf b p.a0).Height) (m:=65536) (n:=9000) hg.1 hg.2 (by omega) (by omega)
 have ht:Int.tdiv (b.Gain*((cellOf b p.a1).Height - (cellOf b p.a0).Height)) 100=(b.Gain*((cellOf b p.a1).Height - (cellOf b p.a0).Height)) / 100:=Int.tdiv_eq_ediv_of_nonneg hm.1
 rw [W_eq (n:=_ - _) (by omega) (by omega),W_eq (n:=b.Gain*_) (by omega) (by omega),W_eq (n:=Int.tdiv _ _) (by rw [ht]; omega) (by rw [ht]; omega),W_eq (by rw [ht]; omega) (by rw [ht]; omega)]
theorem moreOf_ge {b:Basin} {p:Arr2_3} (hb:BOk b) (h:PairOk b p):0≤moreOf b p∧moreOf b p≤6000000:=by
 have hc:=h.cells
 have h1:=cellOf_ok hb h.1 h.2.1
 have h2:=cellOf_ok hb h.2.2.1 h.2.2.2.1
 obtain⟨-,-,a1,a2,-⟩:=h1
 obtain⟨-,-,a3,a4,-⟩:=h2
 have hg:=hb.g
 have hs:=hb.s
 have:=hc.2.2
 have hm:=mul_le (a:=b.Gain) (b:=(cellOf b p.a1).Height - (cellOf b p.a0).Height) (m:=65536) (n:=9000) hg.1 hg.2 (by omega) (by omega)
 unfold moreOf
 rw [Int.tdiv_eq_ediv_of_nonneg hm.1]
 omega
theorem f142_eq {K:Nat} {b:Basin} {p:Arr2_3} (hb:BOk b) (h:PairOk b p):f142 K b p=some (moreOf b p):=f180_eq (K:=K) hb h
end Go.Proofs.YthlchdnbokhclaaGreat.Ql
namespace Go.Proofs.YthlchdnbokhclaaGreat.Ql
open Go
theorem Lens.of {s:Scene} (h:SOk s):Lens s:=⟨by have:=h.b.c2; omega,by have:=h.b.p1; omega,by have:=h.d.2.1; omega,by have:=h.m.1; omega,by have:=h.m.2; omega⟩
def theNet (s:Scene):Net:=⟨1+s.Days.length*s.Basin.Cells.length,(lay s).map (·.1)⟩
theorem at_le {s:Scene} (h:SOk s):(∀ c,cellAt s.Basin c≤16)∧∀ d,dayAt s.Days d≤16:=by
 have h1:=h.b.c2
 have h2:=h.d.2.1
 refine⟨fun c=>?_,fun d=>?_⟩
 ·have:=(fidx_lt (p:=fun x:Cell=>x.No==c) (xs:=s.Basin.Cells)).2
  unfold cellAt; omega
 ·have:=(fidx_lt (p:=fun x:Int=>x==d) (xs:=s.Days)).2
  unfold dayAt; omega
theorem and2 {K K':Nat} {acc:List DR} {a b:DR} {l:List Diff} {r:List Reason} (hv:StR acc (l,r)) (hB:(acc++[a,b]).length≤2176)
  {a0 a1 a2 b0 b1 b2:Int} {ar br:Reason} (ha:a=(⟨a0,a1,a2⟩,ar)) (hb:b=(⟨b0,b1,b2⟩,br)):∃ x,f222 K ⟨l,r⟩ a0 a1 a2 ar=some x∧∃ y,f222 K' x b0 b1 b2 br=some y∧StR (acc++[a,b]) (y.l,y.r):=by
 cases hv
 simp at hB
 subst ha hb
 let A:List DR:=acc++[(⟨a0,a1,a2⟩,ar)]
 let B:List DR:=acc++[(⟨a0,a1,a2⟩,ar),(⟨b0,b1,b2⟩,br)]
 refine⟨(⟨A.map fun z:DR=>z.1,A.map fun z:DR=>z.2⟩:Laid_snowlineref05),?_,(⟨B.map fun z:DR=>z.1,B.map fun z:DR=>z.2⟩:Laid_snowlineref05),?_,rfl⟩
 ·simp only [f222]
  rw [app_eq (by simp; omega),Option.bind_some,app_eq (by simp; omega),Option.bind_some]
  simp [A]
 ·simp only [f222]
  rw [app_eq (by simp [A]; omega),Option.bind_some,app_eq (by simp [A]; omega),Option.bind_some]
  simp [A,B]
theorem f103_eq (K:Nat) (s:Scene) (h:SOk s):Gets (f103 K s) (·=(theNet s,(lay s).map (·.2))):=by
 have hL:=Lens.of h
 have hlen:=lay_len h
 have hc2:=h.b.c2
 have hd2:=h.d.2.1
 have hat:=at_le h
 have hl1:(lay s).length=(lflat (gDay s) s.Days 0).length+(lflat (gSight s) s.Sights 0).length+(lflat (gChange s) s.Changes 0).length:=by unfold lay; rw [List.length_append,List.length_append]
 unfold f103
 refine Gets.bind (P:=StR (lflat (gDay s) s.Days 0)) (rngL_flat (gDay s) StR (a0:=[]) (B:=2176) (by simp; omega) hL.d rfl (fun k day acc v nx hx hB hv hnx=>?_) fun v hv=>Gets.some (by simpa using hv)) fun v hv=>?_
 ·have hk:=(List.getElem?_eq_some_iff.1 hx).1
  obtain⟨v1,v2⟩:=v
  have hg:gDay s day k=lflat (gCell s k day) s.Basin.Cells 0++lflat (gPair s k day) s.Basin.Pairs 0:=rfl
  rw [hg] at hB
  refine Gets.bind (P:=StR (acc++lflat (gCell s k day) s.Basin.Cells 0)) (rngL_flat (gCell s k day) StR (B:=2176) (by simp at hB ⊢; omega) hL.c hv (fun i c acc v nx hx hB hv hnx=>?_) fun v hv=>Gets.some hv) fun v hv=>?_
  ·obtain⟨v1,v2⟩:=v
   have hi:=(List.getElem?_eq_some_iff.1 hx).1
   obtain⟨x,e1,y,e2,e3⟩:=and2 (K:=K) (K':=K) hv hB rfl rfl
   simp only [f205_eq (K:=K) h.b (c:=i) (d:=k) (by omega) (by omega) (by omega) (by omega),Option.bind_some,e1,e2]
   exact hnx _ e3
  refine Gets.bind (P:=StR (acc++lflat (gCell s k day) s.Basin.Cells 0++lflat (gPair s k day) s.Basin.Pairs 0)) (rngL_flat (gPair s k day) StR (B:=2176) (by simp at hB ⊢; omega) hL.p hv (fun i p acc v nx hx hB hv hnx=>?_) fun v hv=>Gets.some hv) fun v hv=>?_
  ·obtain⟨v1,v2⟩:=v
   have hp:=h.b.pair _ _ hx
   have hcs:=hp.cells
   have k1:=cellOf_ok h.b hp.1 hp.2.1
   have k2:=cellOf_ok h.b hp.2.2.1 hp.2.2.2.1
   have b1:=hp.1
   have b2:=hp.2.1
   have b3:=hp.2.2.1
   have b4:=hp.2.2.2.1
   have n0:=f205_eq (K:=K) h.b (c:=p.a0) (d:=k) (by omega) (by omega) (by omega) (by omega)
   have n1:=f205_eq (K:=K) h.b (c:=p.a1) (d:=k) (by omega) (by omega) (by omega) (by omega)
   simp only [hcs.1,hcs.2.1,Option.bind_some,f179_eq (K:=K) k1 k2]
   refine Gets.bind (P:=StR (acc++gPair s k day p i)) (Gets.cond (fun h3=>Gets.some ?_) fun h3=>?_) fun v hv=>hnx _ hv
   ·have:gPair s k day p i=[]:=by unfold gPair; rw [if_neg]; rw [show alike _ _=false by simpa using h3]; decide
    rw [this,List.append_nil]; exact hv
   ·have:gPair s k day p i=[(⟨node s p.a0 k,node s p.a1 k,moreOf s.Basin p⟩,⟨3,i,day,false⟩),(⟨node s p.a1 k,node s p.a0 k,lessOf s.Basin p⟩,⟨4,i,day,false⟩)]:=by unfold gPair; rw [if_pos]; simpa using h3
    rw [this] at hB ⊢
    obtain⟨x,e1,y,e2,e3⟩:=and2 (K:=K) (K':=K) hv hB rfl rfl
    have hless:(bif (cellOf s.Basin p.a0).Height==(cellOf s.Basin p.a1).Height then s.Basin.Slack else 0)=lessOf s.Basin p:=by
     unfold lessOf
     split
     ·rw [show ((cellOf s.Basin p.a0).Height==(cellOf s.Basin p.a1).Height)=true by simpa]; rfl
     ·rw [show ((cellOf s.Basin p.a0).Height==(cellOf s.Basin p.a1).Height)=false by simpa]; rfl
    simp only [n0,n1,Option.bind_some,f180_eq (K:=K) h.b hp,Lt,hless,e1,e2]
    exact Gets.some e3
  ·exact hnx _ (by rw [hg,← List.append_assoc]; exact hv)
 ·obtain⟨v1,v2⟩:=v
  refine Gets.bind (P:=StR (lflat (gDay s) s.Days 0++lflat (gSight s) s.Sights 0)) (rngL_flat (gSight s) StR (B:=2176) (by rw [List.length_append]; omega) hL.g hv (fun i g acc v nx hx hB hv hnx=>?_) fun v hv=>Gets.some hv) fun v hv=>?_
  ·obtain⟨v1,v2⟩:=v
   have hg:=h.g g (List.mem_of_getElem? hx)
   obtain⟨-,g1,g2,g3,g4,g5⟩:=hg
   obtain⟨x,e1,y,e2,e3⟩:=and2 (K:=K) (K':=K) hv hB rfl rfl
   have n0:=f205_eq (K:=K) h.b (c:=cellAt s.Basin g.Cell) (d:=dayAt s.Days g.Day) g2 (hat.2 _) g1 (hat.1 _)
   unfold sightNode at e1 e2
   simp only [f116_eq K _ _ hL.c,f117_eq K _ _ hL.d,Option.bind_some,n0,W_eq (n:=-g.Lo) (by omega) (by omega),e1,e2]
   exact hnx _ e3
  obtain⟨v1,v2⟩:=v
  refine Gets.bind (P:=StR (lay s)) (rngL_flat (gChange s) StR (B:=2176) (by rw [List.length_append,List.length_append]; omega) hL.h hv (fun i g acc v nx hx hB hv hnx=>?_) fun v hv=>Gets.some hv) fun v hv=>?_
  ·obtain⟨v1,v2⟩:=v
   have hg:=h.h g (List.mem_of_getElem? hx)
   obtain⟨g1,g2,g3,g4,g5,g6,g7⟩:=hg
   obtain⟨x,e1,y,e2,e3⟩:=and2 (K:=K) (K':=K) hv hB rfl rfl
   have n0:=f205_eq (K:=K) h.b (c:=cellAt s.Basin g.Cell) (d:=dayAt s.Days g.From) g2 (hat.2 _) g1 (hat.1 _)
   have n1:=f205_eq (K:=K) h.b (c:=cellAt s.Basin g.Cell) (d:=dayAt s.Days g.To) g3 (hat.2 _) g1 (hat.1 _)
   unfold sightNode at e1 e2
   simp only [f116_eq K _ _ hL.c,f117_eq K _ _ hL.d,Option.bind_some,n0,n1,W_eq (n:=-g.Lo) (by omega) (by omega),e1,e2]
   exact hnx _ e3
  ·obtain⟨v1,v2⟩:=v
   cases hv
   refine Gets.some ?_
   have:=mul_le (a:=s.Days.length) (b:=s.Basin.Cells.length) (m:=16) (n:=12) (by omega) (by omega) (by omega) (by omega)
   rw [Int.mul_comm (s.Basin.Cells.length:Int),W_eq (n:=_*_) (by omega) (by omega),W_eq (by omega) (by omega)]
   rfl
end Go.Proofs.YthlchdnbokhclaaGreat.Ql
namespace Go.Proofs.YthlchdnbokhclaaGreat.Ql
open Go
def LB (s:Scene) (n:Int) (acc:List DR):Laid_basin:=⟨s,⟨n,acc.map fun z:DR=>z.1⟩,acc.map fun z:DR=>z.2⟩
abbrev LX (s:Scene) (n:Int) (acc:List DR):Laid_basin:=(⟨(⟨(⟨s.Basin.Cells,s.Basin.Pairs,s.Basin.Gain,s.Basin.Slack,s.Basin.Deep⟩:Basin),s.Days,s.Sights,s.Changes⟩:Scene),(⟨n,acc.map fun z:DR=>z.1⟩:Net),acc.map fun z:DR=>z.2⟩:Laid_basin)
theorem add1 {K:Nat} {s:Scene} {n:Int} {acc:List DR} {a0 a1 a2:Int} {ar:Reason} (hB:(acc++[(⟨a0,a1,a2⟩,ar)]:List DR).length≤2177):f219 K (LB s n acc) a0 a1 a2 ar=some (LB s n (acc++[(⟨a0,a1,a2⟩,ar)])):=by
 simp at hB
 simp only [f219,LB]
 rw [app_eq (by simp; omega),Option.bind_some,app_eq (by simp; omega),Option.bind_some]
 simp
abbrev T11:=List Cell × List Arr2_3 × Int × Int × Int × List Int × List Sight × List Change × Int × List Diff × List Reason
def StB (s:Scene) (n:Int) (acc:List DR) (v:T11):Prop:=v=(s.Basin.Cells,s.Basin.Pairs,s.Basin.Gain,s.Basin.Slack,s.Basin.Deep,s.Days,s.Sights,s.Changes,n,acc.map fun z:DR=>z.1,acc.map fun z:DR=>z.2)
theorem len2 {acc:List DR} {a b:DR} (h:(acc++[a,b]).length≤2176):(acc++[a]).length≤2177∧(acc++[a]++[b]).length≤2177:=by
 simp at h ⊢; omega
theorem f220_eq {K:Nat} {s:Scene} {l:Laid_basin} {c d:Int} (h:SOk s) (hs:l.s.Basin.Cells=s.Basin.Cells) (h1:0≤cellAt s.Basin c) (h2:0≤dayAt s.Days d):f220 K c d l s.Basin s=some (sightNode s c d):=by
 have hat:=at_le h
 have hL:=Lens.of h
 unfold f220
 rw [f221_eq K _ _ hL.c,Option.bind_some,f194_eq K _ _ hL.d,Option.bind_some,f202_eq hs h.b h2 (hat.2 _) h1 (hat.1 _)]
 rfl
theorem f102_eq (K:Nat) (s:Scene) (h:SOk s):Gets (f102 K s) (·=LB s (theNet s).Nodes (lay s)):=by
 have hL:=Lens.of h
 have hlen:=lay_len h
 have hc2:=h.b.c2
 have hd2:=h.d.2.1
 have hl1:(lay s).length=(lflat (gDay s) s.Days 0).length+(lflat (gSight s) s.Sights 0).length+(lflat (gChange s) s.Changes 0).length:=by unfold lay; rw [List.length_append,List.length_append]
 have hn:W (1+W ((s.Days.length:Int)*s.Basin.Cells.length))=(theNet s).Nodes:=by
  have:=mul_le (a:=s.Days.length) (b:=s.Basin.Cells.length) (m:=16) (n:=12) (by omega) (by omega) (by omega) (by omega)
  rw [W_eq (n:=_*_) (by omega) (by omega),W_eq (by omega) (by omega)]
  rfl
 unfold f102
 simp only [hn]
 generalize (theNet s).Nodes=n
 refine Gets.bind (P:=StB s n (lflat (gDay s) s.Days 0)) (rngL_flat (gDay s) (StB s n) (a0:=[]) (B:=2176) (by simp; omega) hL.d rfl (fun k day acc v nx hx hB hv hnx=>?_) fun v hv=>Gets.some (by simpa using hv)) fun v hv=>?_
 ·have hk:=(List.getElem?_eq_some_iff.1 hx).1
  have hg:gDay s day k=lflat (gCell s k day) s.Basin.Cells 0++lflat (gPair s k day) s.Basin.Pairs 0:=rfl
  rw [hg] at hB
  cases hv
  refine Gets.bind (P:=StB s n (acc++lflat (gCell s k day) s.Basin.Cells 0)) (rngL_flat (gCell s k day) (StB s n) (B:=2176) (by simp at hB ⊢; omega) hL.c rfl (fun i c acc v nx hx hB hv hnx=>?_) fun v hv=>by cases hv; exact Gets.some rfl) fun v hv=>?_
  ·have hi:=(List.getElem?_eq_some_iff.1 hx).1
   cases hv
   have hB2:=len2 hB
   change Gets ((f202 K (LB s n acc) i k).bind fun x56=>(f219 K (LB s n acc) _ _ _ _).bind _) _
   rw [f202_eq (s:=s) rfl h.b (by omega) (by omega) (by omega) (by omega),Option.bind_some,add1 hB2.1,Option.bind_some,f202_eq (s:=s) rfl h.b (by omega) (by omega) (by omega) (by omega),Option.bind_some,add1 hB2.2,Option.bind_some]
   exact hnx _ (by rw [List.append_assoc]; rfl)
  cases hv
  refine Gets.bind (P:=StB s n (acc++lflat (gCell s k day) s.Basin.Cells 0++lflat (gPair s k day) s.Basin.Pairs 0)) (rngL_flat (gPair s k day) (StB s n) (B:=2176) (by simp at hB ⊢; omega) hL.p rfl (fun i p acc v nx hx hB hv hnx=>?_) fun v hv=>by cases hv; exact Gets.some rfl) fun v hv=>?_
  ·cases hv
   have hp:=h.b.pair _ _ hx
   have hcs:=hp.cells
   have k1:=cellOf_ok h.b hp.1 hp.2.1
   have k2:=cellOf_ok h.b hp.2.2.1 hp.2.2.2.1
   have b1:=hp.1
   have b2:=hp.2.1
   have b3:=hp.2.2.1
   have b4:=hp.2.2.2.1
   have n0:∀ l:Laid_basin,l.s.Basin.Cells=s.Basin.Cells→f202 K l p.a0 k=some (node s p.a0 k):=fun l e=>f202_eq e h.b (by omega) (by omega) (by omega) (by omega)
   have n1:∀ l:Laid_basin,l.s.Basin.Cells=s.Basin.Cells→f202 K l p.a1 k=some (node s p.a1 k):=fun l e=>f202_eq e h.b (by omega) (by omega) (by omega) (by omega)
   simp only [hcs.1,hcs.2.1,Option.bind_some,f141_eq (K:=K) k1 k2]
   refine Gets.bind (P:=StB s n (acc++gPair s k day p i)) (Gets.cond (fun h3=>Gets.some ?_) fun h3=>?_) fun v hv=>by cases hv; exact hnx _ rfl
   ·have:gPair s k day p i=[]:=by unfold gPair; rw [if_neg]; rw [show alike _ _=false by simpa using h3]; decide
    rw [this,List.append_nil]; rfl
   ·have:gPair s k day p i=[(⟨node s p.a0 k,node s p.a1 k,moreOf s.Basin p⟩,⟨3,i,day,false⟩),(⟨node s p.a1 k,node s p.a0 k,lessOf s.Basin p⟩,⟨4,i,day,false⟩)]:=by unfold gPair; rw [if_pos]; simpa using h3
    rw [this] at hB ⊢
    have hB2:=len2 hB
    have hless:(bif (cellOf s.Basin p.a0).Height==(cellOf s.Basin p.a1).Height then s.Basin.Slack else 0)=lessOf s.Basin p:=by
     unfold lessOf
     split
     ·rw [show ((cellOf s.Basin p.a0).Height==(cellOf s.Basin p.a1).Height)=true by simpa]; rfl
     ·rw [show ((cellOf s.Basin p.a0).Height==(cellOf s.Basin p.a1).Height)=false by simpa]; rfl
    simp only [Lt,hless]
    change Gets ((f202 K (LB s n acc) _ _).bind fun x111=>(f202 K (LB s n acc) _ _).bind fun x116=>(f142 K s.Basin p).bind fun x119=>(f219 K (LB s n acc) _ _ _ _).bind _) _
    rw [n0 _ rfl,Option.bind_some,n1 _ rfl,Option.bind_some,f142_eq h.b hp,Option.bind_some,add1 hB2.1,Option.bind_some,n1 _ rfl,Option.bind_some,n0 _ rfl,Option.bind_some,add1 hB2.2,Option.bind_some]
    exact Gets.some (by rw [List.append_assoc]; rfl)
  ·cases hv
   exact hnx _ (by rw [hg,← List.append_assoc]; rfl)
 ·cases hv
  refine Gets.bind (P:=StB s n (lflat (gDay s) s.Days 0++lflat (gSight s) s.Sights 0)) (rngL_flat (gSight s) (StB s n) (B:=2176) (by rw [List.length_append]; omega) hL.g rfl (fun i g acc v nx hx hB hv hnx=>?_) fun v hv=>by cases hv; exact Gets.some rfl) fun v hv=>?_
  ·cases hv
   have hg:=h.g g (List.mem_of_getElem? hx)
   obtain⟨-,g1,g2,g3,g4,g5⟩:=hg
   have hB2:=len2 hB
   rw [f220_eq h rfl g1 g2,Option.bind_some,W_eq (n:=-g.Lo) (by omega) (by omega)]
   change Gets ((f219 K (LB s n acc) _ _ _ _).bind _) _
   rw [add1 hB2.1,Option.bind_some,add1 hB2.2,Option.bind_some]
   exact hnx _ (by rw [List.append_assoc]; rfl)
  cases hv
  refine Gets.bind (P:=StB s n (lay s)) (rngL_flat (gChange s) (StB s n) (B:=2176) (by rw [List.length_append,List.length_append]; omega) hL.h rfl (fun i g acc v nx hx hB hv hnx=>?_) fun v hv=>by cases hv; exact Gets.some rfl) fun v hv=>?_
  ·cases hv
   have hg:=h.h g (List.mem_of_getElem? hx)
   obtain⟨g1,g2,g3,g4,g5,g6,g7⟩:=hg
   have hB2:=len2 hB
   rw [f220_eq h rfl g1 g2,Option.bind_some,f220_eq h rfl g1 g3,Option.bind_some,W_eq (n:=-g.Lo) (by omega) (by omega)]
   change Gets ((f219 K (LB s n acc) _ _ _ _).bind _) _
   rw [add1 hB2.1,Option.bind_some,add1 hB2.2,Option.bind_some]
   exact hnx _ (by rw [List.append_assoc]; rfl)
  ·cases hv
   exact Gets.some rfl
end Go.Proofs.YthlchdnbokhclaaGreat.Ql
namespace Go.Proofs.YthlchdnbokhclaaGreat.Ql
open Go
set_option maxRecDepth 100000
theorem f343_all:∀ n:Nat,n < 256→f343 4611686018427387904 [-1] (n:Int)=some (List.replicate n (-1)):=by decide +kernel
end Go.Proofs.YthlchdnbokhclaaGreat.Ql

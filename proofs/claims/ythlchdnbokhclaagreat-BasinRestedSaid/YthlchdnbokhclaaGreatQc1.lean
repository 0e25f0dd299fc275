import Derived.Test.YthlchdnbokhclaaGreatQb1
set_option linter.all false
namespace Go.Proofs.YthlchdnbokhclaaGreat.Ql
open Go Go.Proofs.YthlchdnbokhclaaGreat.Bm
theorem whl_count {V ρ:Type} {bd:(V→Option ρ)→V→Option ρ} {Q:ρ→Prop} (I:Nat→V→Prop) (N:Nat) (step:∀ (k:Nat) (v:V) (nx:V→Option ρ),I k v→k≤N→(∀ v',k+1≤N→I (k+1) v'→Gets (nx v') Q)→Gets (bd nx v) Q) :
  ∀ {K k:Nat} {v:V},I k v→k≤N→N < k+K→Gets (whl bd K v) Q
 | 0,_,_,_,h,h'=>by omega
 | K+1,k,v,h0,h,h'=>step k v (whl bd K) h0 h fun v' h1 h2=>whl_count I N step h2 h1 (by omega)
def E1 (d:Diff):Ed:=⟨d.From.toNat,d.To.toNat,d.Most⟩
def edg (l:List Diff):List Ed:=l.map E1
structure DOk (n:Nat) (d:Diff):Prop where
 f0:0≤d.From
 f1:d.From < n
 t0:0≤d.To
 t1:d.To < n
 m0:-1073741824≤d.Most
 m1:d.Most≤1073741824
def LOk (n:Nat) (l:List Diff):Prop:=∀ d∈l,DOk n d
theorem edg_len {l:List Diff}:(edg l).length=l.length:=by simp [edg]
theorem edg_at {l:List Diff} {j:Nat} {x:Diff} (h:l[j]?=some x):(edg l)[j]?=some (E1 x):=by simp [edg,h]
theorem edg_of {l:List Diff} {j:Nat} {e:Ed} (h:(edg l)[j]?=some e):∃ x,l[j]?=some x∧E1 x=e:=by
 simp only [edg,List.getElem?_map,Option.map_eq_some_iff] at h
 exact h
theorem edg_mem {l:List Diff} {e:Ed} (h:e∈edg l):∃ x∈l,E1 x=e:=by simpa [edg] using h
theorem edg_uv {n:Nat} {l:List Diff} (hl:LOk n l):∀ e∈edg l,e.u < n∧e.v < n:=fun e he=>by
 obtain⟨x,h1,rfl⟩:=edg_mem he
 obtain⟨a,b,c,d,_,_⟩:=hl x h1
 simp only [E1]; omega
theorem edg_w {n:Nat} {l:List Diff} (hl:LOk n l):∀ e∈edg l,-1073741824≤e.w∧e.w≤1073741824:=fun e he=>by
 obtain⟨x,h1,rfl⟩:=edg_mem he
 exact⟨(hl x h1).m0,(hl x h1).m1⟩
theorem ix_getD {α:Type} {xs:List α} {i:Int} (a:α) (h0:0≤i) (h1:i < xs.length):ix xs i=some (xs.getD i.toNat a):=by
 obtain⟨x,e,e'⟩:=ix_lt h0 h1
 rw [e,List.getD_eq_getElem?_getD,e']; rfl
theorem getD_set {α:Type} {xs:List α} {i:Nat} {x a:α} (h:i < xs.length) (j:Nat):(xs.set i x).getD j a=if j=i then x else xs.getD j a:=by
 simp only [List.getD_eq_getElem?_getD,List.getElem?_set]
 by_cases h1:i=j
 ·subst h1; simp [h]
 ·simp [h1,Ne.symm h1]
def pN (i:Int):Option Nat:=if i < 0 then none else some i.toNat
def stS (long:List Int) (has:List Bool) (last:List Int):S:=⟨fun v=>long.getD v 0,fun v=>has.getD v false,fun v=>pN (last.getD v (-1))⟩
structure Ln (n:Nat) (long:List Int) (has:List Bool) (last:List Int):Prop where
 a:long.length=n
 b:has.length=n
 c:last.length=n
theorem Ln.set {n:Nat} {long:List Int} {has:List Bool} {last:List Int} (h:Ln n long has last) (i:Nat) (x:Int) (y:Bool) (z:Int):Ln n (long.set i x) (has.set i y) (last.set i z):=⟨by simp [h.a],by simp [h.b],by simp [h.c]⟩
theorem stS_set {n k:Nat} {long:List Int} {has:List Bool} {last:List Int} {x:Diff} (h:Ln n long has last) (hx:DOk n x) :
  stS (long.set x.To.toNat (long.getD x.From.toNat 0+x.Most)) (has.set x.To.toNat true) (last.set x.To.toNat (k:Int))=(stS long has last).upd k (E1 x):=by
 have h1:x.To.toNat < n:=by have:=hx.t0; have:=hx.t1; omega
 unfold stS S.upd
 congr 1
 ·funext v; rw [getD_set (by rw [h.a]; exact h1)]; rfl
 ·funext v; rw [getD_set (by rw [h.b]; exact h1)]; rfl
 ·funext v; rw [getD_set (by rw [h.c]; exact h1)]
  show pN (if v=x.To.toNat then _ else _)=if v=x.To.toNat then some k else pN (last.getD v (-1))
  by_cases hv:v=x.To.toNat
  ·rw [if_pos hv,if_pos hv]; unfold pN; rw [if_neg (by omega)]; simp
  ·rw [if_neg hv,if_neg hv]
theorem can_eq {n:Nat} {long:List Int} {has:List Bool} {p:Nat→Option Nat} {x:Diff} (hx:DOk n x) (h1:long.length=n) (h2:has.length=n) (hb:∀ v,-4611686018427387904≤long.getD v 0∧long.getD v 0≤4611686018427387904) :
  Gets ((ix has x.From).bind fun y4=>bif y4 then (ix has x.To).bind fun y5=>bif (!y5) then some true else (ix long x.From).bind fun y6=>(ix long x.To).bind fun y7=>some (decide (W (y6+x.Most) < y7)) else some false)
   (fun b=>b=true↔S.can ⟨fun v=>long.getD v 0,fun v=>has.getD v false,p⟩ (E1 x)):=by
 obtain⟨a1,a2,a3,a4,a5,a6⟩:=hx
 rw [ix_getD false a1 (by omega),ix_getD false a3 (by omega),ix_getD 0 a1 (by omega),ix_getD 0 a3 (by omega)]
 simp only [Option.bind_some,S.can,E1]
 have:=hb x.From.toNat
 rw [W_eq (by omega) (by omega)]
 refine Gets.cond (fun h=>Gets.cond (fun h'=>Gets.some ?_) fun h'=>Gets.some ?_) fun h=>Gets.some ?_
 ·have h':has.getD x.To.toNat false=false:=by simpa only [Bool.not_eq_true'] using h'
  simp only [h,h',true_or,and_self]
 ·have h':has.getD x.To.toNat false=true:=by simpa only [Bool.not_eq_false'] using h'
  simp only [h,h',decide_eq_true_eq,true_and,Bool.true_eq_false,false_or]
 ·simp only [h,Bool.false_eq_true,false_and]
def cI:Option Nat→Int
 | none=>-1
 | some a=>a
def growQ (n:Nat) (l:List Diff) (src:Nat→Bool) (r:Tree_diffs × Int):Prop:=
 Ln n r.1.long r.1.has r.1.last∧Inv (edg l) src (stS r.1.long r.1.has r.1.last)∧(∀ v,-4611686018427387904≤r.1.long.getD v 0∧r.1.long.getD v 0≤4611686018427387904) ∧
 ((r.2=-1∧Fix (edg l) (stS r.1.long r.1.has r.1.last))∨(0≤r.2∧r.2 < n∧∃ a x,a < n∧Up (edg l) (stS r.1.long r.1.has r.1.last).p a r.2.toNat n x))
theorem f344_eq {K n:Nat} {l:List Diff} {src:Nat→Bool} {long:List Int} {has:List Bool} {last:List Int} (hl:LOk n l) (hn:Ln n long has last) (hN:n≤256) (hi:Inv (edg l) src (stS long has last)) {a:Nat} (ha:a < n) :
  Gets (f344 K ⟨long,has,last⟩ l (a:Int)) fun r=>(r=-1∧∃ b m x,Up (edg l) (stS long has last).p a b m x∧m < n∧(stS long has last).p b=none)∨(0≤r∧r < n∧∃ x,Up (edg l) (stS long has last).p a r.toNat n x):=by
 unfold f344
 refine Gets.jo (fun v=>0≤v∧v < n∧∃ x,Up (edg l) (stS long has last).p a v.toNat n x) (fun v h=>Gets.some (.inr h)) fun j hj=>?_
 refine rngN_gets (fun i v=>0≤v∧v < n∧∃ x,Up (edg l) (stS long has last).p a v.toNat i.toNat x) ⟨by omega,by have:=hn.c; simp only [this]; omega⟩ ⟨by omega,by omega,0,by simpa using Up.nil⟩ (fun i v nx h0 h1 ⟨h2,h3,x,h4⟩ hnx=>?_) fun i v h0 h1 h2 h3 h=>?_
 ·have hc:=hn.c
  simp only [hc] at h1
  rw [ix_getD (-1) h2 (by simp only [hc]; exact h3),Option.bind_some]
  refine Gets.cond (fun h=>Gets.some (.inl ⟨rfl,v.toNat,i.toNat,x,h4,by omega,?_⟩)) fun h=>?_
  ·simp only [stS,pN,decide_eq_true_eq] at h ⊢; rw [if_pos h]
  ·have hp:(stS long has last).p v.toNat=some (last.getD v.toNat (-1)).toNat:=by
    simp only [stS,pN,decide_eq_false_iff_not] at h ⊢; rw [if_neg h]
   obtain⟨_,e,h5,h6,h7,h8⟩:=hi.par _ _ hp
   obtain⟨y,h9,rfl⟩:=edg_of h5
   have h10:ix l (last.getD v.toNat (-1))=some y:=ix_eq (by simpa using h) h9
   simp only [h10,Option.bind_some]
   have hd:=hl y (List.mem_of_getElem? h9)
   have h11:=h4.snoc hp h5
   rw [show i.toNat+1=(i+1).toNat by omega] at h11
   exact hnx _ ⟨hd.f0,hd.f1,_,h11⟩
 ·have hc:=hn.c
  simp only [hc] at h1 h2
  obtain rfl:i=n:=h2 (by omega)
  exact hj v (by simpa using h)
theorem inv0 {E:List Ed} {src h:Nat→Bool} (hh:∀ v,h v=src v):Inv E src ⟨fun _=>0,h,fun _=>none⟩:=by
 refine⟨fun v hv=>⟨v,0,(hh v).symm.trans hv,.nil⟩,fun a ha=>⟨(hh a).trans ha,Int.le_refl _⟩,fun v hv _=>⟨(hh v).symm.trans hv,rfl⟩,fun v k h=>(by cases h),fun v hv=>⟨rfl,rfl⟩,fun v m x hu hm=>?_⟩
 obtain⟨k,e,h1,_⟩:=hu.first hm
 cases h1
def KK:Nat:=4611686018427387904
theorem grow_gets {n:Nat} {l:List Diff} {g:Gr} (hg:g.lines=some l) (hgn:g.nodes=some (n:Int)) (hN:n < 256) (hl:LOk n l) (hll:l.length≤8192) {src:Nat→Bool} {fr:List Int} (hfl:fr.length≤256) (hfr:∀ i∈fr,0≤i∧i < n) (hsrc:∀ v:Nat,src v=true↔(v:Int)∈fr)
  {β γ:Nat→Int} (hB:Bds (edg l) src β γ) (I:Nat→S→Prop) (N:Nat) (hlim:∀ t,t≤(N+1)*l.length→-4611686018427387904≤β t∧γ t≤4611686018427387904) (hK:N < 4611686018427387904)
  (h0:∀ s,Inv (edg l) src s→(∀ v,s.d v≤0)→I 0 s)
  (hstep:∀ k t s s' a,k≤N→Inv (edg l) src s→I k s→Ps (edg l) src β γ t s (edg l).length s' (some a)→(∃ b m x,Up (edg l) s'.p a b m x∧m < n∧s'.p b=none)→k+1≤N∧I (k+1) s') :
  Gets (f311 4611686018427387904 g fr) (growQ n l src):=by
 unfold f311
 rw [hg,hgn]
 simp only [Option.bind_some]
 rw [mk_eq (by omega) (by omega),mk_eq (by omega) (by omega),f343_all n hN]
 simp only [Option.bind_some,Int.toNat_natCast]
 refine Gets.bind (P:=fun has=>has.length=n∧∀ v,has.getD v false=src v) ?_ fun has hhas=>?_
 ·refine rngL_gets (fun j has=>has.length=n∧∀ v:Nat,has.getD v false=true↔∃ i,i < j∧fr[i]?=some (v:Int)) (by omega) ⟨by simp,fun v=>by simp [List.getD_eq_getElem?_getD,List.getElem?_replicate]; split <;> simp⟩ (fun j x has nx hx hi hnx=>?_) fun has h=>Gets.some ⟨h.1,fun v=>?_⟩
  ·have hx':=hfr x (List.mem_of_getElem? hx)
   rw [ix_getD false hx'.1 (by rw [hi.1]; exact hx'.2),Option.bind_some]
   refine hnx _ ⟨by simp [hi.1],fun v=>?_⟩
   rw [getD_set (by rw [hi.1]; omega)]
   split
   ·rename_i h
    simp only [true_iff]
    exact⟨j,by omega,by rw [hx,h]; congr 1; omega⟩
   ·rename_i h
    rw [hi.2]
    constructor
    ·rintro⟨i,h1,h2⟩; exact⟨i,by omega,h2⟩
    ·rintro⟨i,h1,h2⟩
     refine⟨i,?_,h2⟩
     by_cases hij:i=j
     ·subst hij; rw [hx] at h2; cases h2; simp at h
     ·omega
  ·rw [Bool.eq_iff_iff,h.2,hsrc,List.mem_iff_getElem?]
   constructor
   ·rintro⟨i,h1,h2⟩; exact⟨i,h2⟩
   ·rintro⟨i,h2⟩; exact⟨i,(List.getElem?_eq_some_iff.1 h2).1,h2⟩
 have hs0:stS (List.replicate n 0) has (List.replicate n (-1))=⟨fun _=>0,fun v=>has.getD v false,fun _=>none⟩:=by
  unfold stS
  congr 1
  ·funext v; rw [List.getD_eq_getElem?_getD,List.getElem?_replicate]; split <;> rfl
  ·funext v
   have:(List.replicate n (-1:Int)).getD v (-1)=-1:=by rw [List.getD_eq_getElem?_getD,List.getElem?_replicate]; split <;> rfl
   rw [this]; rfl
 have hi0:Inv (edg l) src (stS (List.replicate n 0) has (List.replicate n (-1))):=by rw [hs0]; exact inv0 hhas.2
 refine whl_count (fun k v=>Ln n v.1 v.2.1 v.2.2∧Inv (edg l) src (stS v.1 v.2.1 v.2.2)∧I k (stS v.1 v.2.1 v.2.2)∧∀ u,β (k*l.length)≤(stS v.1 v.2.1 v.2.2).d u∧(stS v.1 v.2.1 v.2.2).d u≤γ (k*l.length)) N ?_ (k:=0) ⟨⟨by simp,hhas.1,by simp⟩,hi0,h0 _ hi0 (fun v=>by rw [hs0]; exact Int.le_refl _),fun u=>by rw [hs0]; exact hB.z _⟩ (by omega) (by omega)
 rintro k ⟨long,has,last⟩ nx ⟨hn,hi,hI,hbd⟩ hk hnx
 refine Gets.bind (P:=fun r=>Ln n r.1 r.2.1 r.2.2.1∧∃ c,Ps (edg l) src β γ (k*l.length) (stS long has last) l.length (stS r.1 r.2.1 r.2.2.1) c∧r.2.2.2=cI c) ?_ ?_
 ·refine rngL_gets (fun j r=>Ln n r.1 r.2.1 r.2.2.1∧∃ c,Ps (edg l) src β γ (k*l.length) (stS long has last) j (stS r.1 r.2.1 r.2.2.1) c∧r.2.2.2=cI c) (by omega) ⟨hn,none,Ps.zero hi hbd,rfl⟩ (fun j x v nx hx hv hnx=>?_) fun v h=>Gets.some h
  obtain⟨long,has,last,c⟩:=v
  obtain⟨hn,c',hps,rfl⟩:=hv
  have hj:=(List.getElem?_eq_some_iff.1 hx).1
  have hdx:=hl x (List.mem_of_getElem? hx)
  have hb:∀ v,-4611686018427387904≤long.getD v 0∧long.getD v 0≤4611686018427387904:=fun v=>by
   have h1:=hps.bd v
   have h2:=hlim (k*l.length+j) (by rw [Nat.add_mul]; have:=Nat.mul_le_mul_right l.length hk; omega)
   exact⟨Int.le_trans h2.1 h1.1,Int.le_trans h1.2 h2.2⟩
  refine Gets.bind (can_eq (p:=(stS long has last).p) hdx hn.a hn.b hb) fun b hb'=>?_
  cases b
  ·exact hnx _ ⟨hn,c',hps.skip hB (edg_at hx) (fun h=>by have:=hb'.2 h; cases this),rfl⟩
  ·simp only [cond_true]
   have hl2:long.length=n:=hn.a
   have hl3:has.length=n:=hn.b
   have hl4:last.length=n:=hn.c
   have h1:=hdx.f0
   have h2:=hdx.f1
   have h3:=hdx.t0
   have h4:=hdx.t1
   have h5:=hdx.m0
   have h6:=hdx.m1
   have h7:=hb x.From.toNat
   rw [ix_getD 0 h1 (by omega),ix_getD 0 h3 (by omega),ix_getD false h3 (by omega),ix_getD (-1) h3 (by omega)]
   simp only [Option.bind_some]
   rw [W_eq (by omega) (by omega)]
   refine hnx _ ⟨hn.set _ _ _ _,some x.To.toNat,?_,?_⟩
   ·have:=hps.upd hB (edg_at hx) (hb'.1 rfl)
    rw [← stS_set hn hdx] at this
    exact this
   ·simp only [cI]; omega
 rintro⟨long',has',last',c⟩ ⟨hn',c',hps,hc⟩
 simp only at hn' hps hc
 subst hc
 have hbl:∀ v,-4611686018427387904≤long'.getD v 0∧long'.getD v 0≤4611686018427387904:=fun v=>by
  have h1:=hps.bd v
  have h2:=hlim (k*l.length+l.length) (by rw [Nat.add_mul]; have:=Nat.mul_le_mul_right l.length hk; omega)
  exact⟨Int.le_trans h2.1 h1.1,Int.le_trans h1.2 h2.2⟩
 rw [← edg_len] at hps
 refine Gets.cond (fun h=>Gets.some ?_) fun h=>?_
 ·cases c' with
  | none=>exact⟨hn',hps.inv,hbl,.inl ⟨rfl,hps.fix⟩⟩
  | some a=>
   have h:(a:Int) < 0:=of_decide_eq_true h
   omega
 cases c' with
 | none=>simp [cI] at h
 | some a=>
  obtain⟨e,he,hea,_⟩:=hps.moved
  have ha:a < n:=by rw [← hea]; exact(edg_uv hl e he).2
  refine Gets.bind (f344_eq hl hn' (by omega) hps.inv ha) fun r hr=>Gets.cond (fun h=>Gets.some ?_) fun h=>?_
  ·have h:0≤r:=by simpa using h
   rcases hr with ⟨rfl,_⟩ | ⟨h1,h2,x,h3⟩
   ·omega
   ·exact⟨hn',hps.inv,hbl,.inr ⟨h1,h2,a,x,ha,h3⟩⟩
  ·have h:¬ 0≤r:=by simpa using h
   rcases hr with ⟨_,hr⟩ | ⟨h1,_⟩
   ·obtain⟨h2,h3⟩:=hstep k _ _ _ a hk hi hI hps hr
    refine hnx _ h2 ⟨hn',hps.inv,h3,fun u=>?_⟩
    have:=hps.bd u
    rw [edg_len] at this
    rw [Nat.add_mul,Nat.one_mul]
    exact this
   ·omega
end Go.Proofs.YthlchdnbokhclaaGreat.Ql
namespace Go.Proofs.YthlchdnbokhclaaGreat.Ql
open Go Go.Proofs.YthlchdnbokhclaaGreat.Bm
structure Mild (n:Net):Prop where
 n1:1≤n.Nodes
 n2:n.Nodes < 256
 l:n.Diffs.length≤4096
 d:LOk n.Nodes.toNat n.Diffs
 lo:∀ d∈n.Diffs,-65536≤d.Most
def Fea (l:List Diff):Prop:=∃ π,Pot (edg l) π
theorem f301_yes {K:Nat} {d:Diff} {m:Int} (h:DOk m.toNat d) (hm:m < 256) (h1:1≤m):f301 K d m=some true:=by
 obtain⟨a,b,c,e,f,g⟩:=h
 simp only [f301,f282,Option.bind_some]
 rw [W_eq (by omega) (by omega)]
 rw [show (decide (d.From≥0)&&decide (d.From≤m - 1))=true by simp; omega,show (decide (d.To≥0)&&decide (d.To≤m - 1))=true by simp; omega,show (decide (d.Most≥-1073741824)&&decide (d.Most≤1073741824))=true by simp; omega]
 rfl
theorem f227_yes {K:Nat} {n:Net} (h:Mild n):f227 K n=some 0:=by
 have hl:=h.l
 have h1:=h.n1
 have h2:=h.n2
 have:Gets (f227 K n) (·=0):=by
  unfold f227
  refine Gets.bind (P:=(·=false)) ?_ fun v hv=>?_
  ·simp only [f282,Option.bind_some]
   rw [show (decide (n.Nodes≥1)&&decide (n.Nodes≤256))=true by simp; omega]
   exact Gets.some (by simp; omega)
  ·subst hv
   simp only [cond_false]
   refine Gets.jo (fun _=>True) (fun _ _=>Gets.some rfl) fun j hj=>rngL_gets (fun _ _=>True) (by omega) trivial (fun k x _ nx hx _ hnx=>?_) fun _ _=>hj _ trivial
   rw [f301_yes (h.d x (List.mem_of_getElem? hx)) h2 h1]
   exact hnx _ trivial
 obtain⟨r,e,rfl⟩:=this
 exact e
theorem grow_all {n:Nat} {l:List Diff} {g:Gr} (hg:g.lines=some l) (hgn:g.nodes=some (n:Int)) (hN:n < 256) (hl:LOk n l) (hll:l.length≤4096) (hlo:∀ d∈l,-65536≤d.Most) {fr:List Int} (hfl:fr.length≤256) (hfr:∀ i∈fr,0≤i∧i < n) (hall:∀ v:Nat,v < n→(v:Int)∈fr) :
  Gets (f311 4611686018427387904 g fr) (growQ n l (fun v=>decide (v < n))):=by
 have hsrc:∀ v:Nat,(decide (v < n))=true↔(v:Int)∈fr:=fun v=>by
  rw [decide_eq_true_eq]
  exact⟨hall v,fun h=>by have:=(hfr _ h).2; omega⟩
 have hw:∀ e∈edg l,-65536≤e.w:=fun e he=>by obtain⟨x,h1,rfl⟩:=edg_mem he; exact hlo x h1
 have hB:Bds (edg l) (fun v=>decide (v < n)) (fun t=>-(t*65536)) (fun _=>0):=Bds.all (by omega) hw fun e he=>by simpa using (edg_uv hl e he).2
 have hNN:n*(n*65536+1)≤4261478655:=by
  have h1:n*(n*65536+1)≤255*(n*65536+1):=Nat.mul_le_mul_right _ (by omega)
  omega
 refine grow_gets hg hgn hN hl (by omega) hfl hfr hsrc hB (fun k s=>pot (n*65536) n s+k≤n*(n*65536+1)) (n*(n*65536+1)) (fun t ht=>⟨?_,by omega⟩) (by omega) (fun s hi hd=>?_) fun k t s s' a hk hi hI hps hr=>?_
 ·have h2:=Nat.mul_le_mul_right l.length (Nat.succ_le_succ hNN)
  have h3:=Nat.le_trans ht h2
  clear h2 ht hNN
  generalize l.length=q at h3 hll
  show _≤-((t:Int)*65536)
  omega
 ·have h1:=pot_le (B:=n*65536) (n:=n) (s:=s) (fun v _=>hd v) (by omega)
  have:((n*(n*65536+1):Nat):Int)=(n:Int)*(n*65536+1):=by simp
  omega
 ·obtain⟨e,he,hea,h1,h2⟩:=hps.moved
  have ha:a < n:=by rw [← hea]; exact(edg_uv hl e he).2
  have hs:∀ v,v < n→s.h v=true:=fun v hv=>(hi.srcs v (by simpa using hv)).1
  obtain⟨b,m,x,hu,hm,hp⟩:=hr
  have h3:s'.d a < s.d a:=by
   rcases h2 with h2 | h2
   ·rw [hs a ha] at h2; cases h2
   ·exact h2
  have h4:-((n*65536:Nat):Int)≤s'.d a:=by
   have h5:=hu.d hps.inv
   have h6:=hu.h hps.inv h1
   have h7:=(hps.inv.root b h6 hp).2
   have h8:=hu.ge hw
   rw [h7] at h5
   omega
  have:=pot_lt (B:=n*65536) ha (fun v hv=>(hps.mono v (hs v hv)).2) h3 (by simpa using h4)
  omega
theorem grow_pot {n:Nat} {l:List Diff} {g:Gr} (hg:g.lines=some l) (hgn:g.nodes=some (n:Int)) (hN:n < 256) (hl:LOk n l) (hll:l.length≤8192) {fr:List Int} (hfl:fr.length≤256) (hfr:∀ i∈fr,0≤i∧i < n) {π:Nat→Int} (hp:Pot (edg l) π) (hC:∀ a b,a < n→b < n→π a - π b≤4611686018427387904) :
  Gets (f311 4611686018427387904 g fr) (fun r=>growQ n l (fun v=>decide ((v:Int)∈fr)) r∧r.2=-1):=by
 have hs:∀ a:Nat,decide ((a:Int)∈fr)=true→a < n:=fun a ha=>by have:=(hfr _ (of_decide_eq_true ha)).2; omega
 have hB:=Bds.pot (E:=edg l) (src:=fun v=>decide ((v:Int)∈fr)) (M:=1073741824) (by omega) (fun e he=>(edg_w hl e he).2) hp (fun e he=>(edg_uv hl e he).2) hs hC (by omega)
 refine(grow_gets hg hgn hN hl (by omega) hfl hfr (fun v=>by rw [decide_eq_true_eq]) hB (fun k s=>Seen (edg l) (fun v=>decide ((v:Int)∈fr)) k s) n (fun t ht=>⟨by omega,?_⟩) (by omega) (fun s hi hd=>Seen.zero hi) fun k t s s' a hk hi hI hps hr=>?_).mono fun r hr=>⟨hr,?_⟩
 ·have:=Nat.mul_le_mul (show n+1≤256 by omega) hll
  omega
 ·refine⟨?_,hps.seen hI⟩
  refine Classical.byContradiction fun hlt=>?_
  have hf:=hI.fix hp (fun e he=>(edg_uv hl e he).2) hs hi (by omega)
  obtain⟨e,he,hea,h1,h2⟩:=hps.moved
  rcases hps.ch with ⟨h3,_⟩ | ⟨e,h3,h4,h5,h6⟩
  ·cases h3
  ·cases h4
   obtain⟨b,m,h7,h8⟩:=hps.inv.wk _ h5
   have hw:=hf.walk h8 (hi.srcs b h7).1
   have:=(hi.srcs b h7).2
   rcases h6 with h6 | h6
   ·rw [h6] at hw; exact absurd hw.1 (by decide)
   ·omega
 ·obtain⟨h1,h2,_,h3 | ⟨h3,h4,a,x,h5,h6⟩⟩:=hr
  ·exact h3.1
  ·exfalso
   rcases Nat.eq_zero_or_pos n with h7 | h7
   ·omega
   ·obtain⟨q,c,h8,_,h9⟩:=h6.cycle (fun e he=>(edg_uv hl e he).1) h5 (Nat.le_refl n)
    have:=h2.no_round hp h9
    omega
end Go.Proofs.YthlchdnbokhclaaGreat.Ql
namespace Go.Proofs.YthlchdnbokhclaaGreat.Ql
open Go Go.Proofs.YthlchdnbokhclaaGreat.Bm
structure IsTop (n:Nat) (E:List Ed) (x:List Int):Prop where
 len:x.length=n
 z:x.getD 0 0=0
 pot:Pot E (fun v=>x.getD v 0)
 top:∀ π,Pot E π→π 0=0→∀ v,v < n→π v≤x.getD v 0
def numsN (n:Nat):List Int:=(List.range n).map fun(i:Nat)=>(i:Int)
theorem f312_eq {K n:Nat} {g:Gr} (hgn:g.nodes=some (n:Int)) (hN:n < 256):f312 K g=some (numsN n):=by
 have:Gets (f312 K g) (·=numsN n):=by
  unfold f312
  rw [hgn,Option.bind_some]
  refine Gets.bind (P:=(·=numsN n)) (rngN_gets (fun i v=>v=numsN i.toNat) ⟨by omega,by omega⟩ rfl (fun i v nx h0 h1 hv hnx=>?_) fun i v h0 h1 h2 h3 hv=>Gets.some ?_) fun v hv=>Gets.some hv
  ·subst hv
   rw [app_eq (by simp [numsN]; omega),Option.bind_some]
   refine hnx _ ?_
   rw [show (i+1).toNat=i.toNat+1 by omega]
   simp only [numsN,List.range_succ,List.map_append,List.map_cons,List.map_nil]
   rw [show ((i.toNat:Nat):Int)=i by omega]
  ·rw [hv,h2 (by omega)]; rfl
 obtain⟨r,e,rfl⟩:=this
 exact e
theorem numsN_len {n:Nat}:(numsN n).length=n:=by simp [numsN]
theorem numsN_mem {n:Nat} {i:Int}:i∈numsN n↔0≤i∧i < n:=by
 simp only [numsN,List.mem_map,List.mem_range]
 constructor
 ·rintro⟨a,h,rfl⟩; omega
 ·rintro⟨h1,h2⟩; exact⟨i.toNat,by omega,by omega⟩
def solveQ (n:Nat) (l:List Diff) (r:List Int × Tree_diffs × Int):Prop:=
 (r.2.2=-1∧r.1.length=n∧Pot (edg l) (fun v=>r.1.getD v 0)∧r.1.getD 0 0=0∧∀ v,-4611686018427387904≤r.1.getD v 0+r.2.1.long.getD 0 0∧r.1.getD v 0+r.2.1.long.getD 0 0≤0) ∨
 (0≤r.2.2∧r.2.2 < n∧(¬ Fea l)∧r.1=[]∧growQ n l (fun v=>decide (v < n)) (r.2.1,r.2.2))
theorem solve_of {n:Nat} {l:List Diff} {g:Gr} (hgn:g.nodes=some (n:Int)) (h1n:1≤n) (hN:n < 256) (hl:LOk n l) (H:Gets (f311 4611686018427387904 g (numsN n)) (growQ n l (fun v=>decide (v < n)))):Gets (f251 4611686018427387904 g) (solveQ n l):=by
 unfold f251
 rw [f312_eq hgn hN,Option.bind_some]
 refine Gets.bind H fun r hr=>?_
 obtain⟨⟨long,has,last⟩,bad⟩:=r
 obtain⟨hn,hi,hb,hc⟩:=hr
 simp only at hn hi hb hc
 have hla:long.length=n:=hn.a
 have hz:∀ v,v < n→long.getD v 0≤0:=fun v hv=>(hi.srcs v (by simpa using hv)).2
 have hz':∀ v,long.getD v 0≤0:=fun v=>by
  by_cases hv:v < n
  ·exact hz v hv
  ·rw [List.getD_eq_getElem?_getD,List.getElem?_eq_none (by omega)]; exact Int.le_refl _
 refine Gets.cond (fun h=>Gets.some (.inr ?_)) fun h=>?_
 ·have h:0≤bad:=by simpa using h
  rcases hc with ⟨rfl,_⟩ | ⟨h1,h2,a,x,h3,h4⟩
  ·omega
  ·refine⟨h1,h2,?_,rfl,hn,hi,hb,.inr ⟨h1,h2,a,x,h3,h4⟩⟩
   rintro⟨π,hp⟩
   obtain⟨q,c,h8,_,h9⟩:=h4.cycle (fun e he=>(edg_uv hl e he).1) h3 (Nat.le_refl n)
   have:=hi.no_round hp h9
   omega
 ·have h:¬ 0≤bad:=by simpa using h
  rcases hc with ⟨rfl,hf⟩ | ⟨h1,_⟩
  ·have e1:f85 4611686018427387904 long=some long:=by unfold f85; rw [app_eq (by simp; omega)]; rfl
   rw [e1,Option.bind_some]
   refine Gets.bind (P:=fun v=>v.length=n∧∀ u,u < n→v.getD u 0=long.getD u 0 - long.getD 0 0) ?_ fun v hv=>Gets.some (.inl ⟨rfl,hv.1,fun e he=>?_,?_,fun u=>?_⟩)
   ·refine rngN_gets (fun i v=>v.length=n∧(∀ u:Nat,(u:Int) < i→v.getD u 0=long.getD u 0 - long.getD 0 0)∧∀ u:Nat,i≤u→v.getD u 0=long.getD u 0) ⟨by omega,by omega⟩ ⟨hla,fun u h=>by omega,fun u h=>rfl⟩ (fun i v nx h0 h1 ⟨h2,h3,h4⟩ hnx=>?_) fun i v h0 h1 h2 h3 ⟨h4,h5,h6⟩=>Gets.some ⟨h4,fun u hu=>h5 u (by omega)⟩
    rw [ix_getD 0 h0 (by omega),ix_getD 0 (by omega) (by simp only; omega),Option.bind_some,Option.bind_some]
    have e2:=h4 i.toNat (by omega)
    have b1:=hb i.toNat
    have b2:=hb 0
    have b3:=hz' i.toNat
    have b4:=hz' 0
    rw [e2]
    simp only [Int.toNat_zero]
    rw [W_eq (by omega) (by omega)]
    refine hnx _ ⟨by simp [h2],fun u hu=>?_,fun u hu=>?_⟩
    ·rw [getD_set (by omega)]
     split
     ·rename_i h; rw [h]
     ·exact h3 u (by omega)
    ·rw [getD_set (by omega),if_neg (by omega)]
     exact h4 u (by omega)
   ·have huv:=edg_uv hl e he
    have:=(hf.le he (hi.srcs e.u (by simpa using huv.1)).1).2
    simp only [stS] at this
    show v.getD e.v 0≤v.getD e.u 0+e.w
    rw [hv.2 _ huv.1,hv.2 _ huv.2]
    omega
   ·show v.getD 0 0=0
    rw [hv.2 0 (by omega)]; omega
   ·show -4611686018427387904≤v.getD u 0+long.getD 0 0∧v.getD u 0+long.getD 0 0≤0
    by_cases hu:u < n
    ·rw [hv.2 u hu]
     have:=hb u
     have:=hz' u
     omega
    ·rw [List.getD_eq_getElem?_getD,List.getElem?_eq_none (by omega)]
     have:=hb 0
     have:=hz' 0
     simp only [Option.getD_none]
     omega
  ·omega
theorem solve_mild {n:Net} {g:Gr} (h:Mild n) (hg:g.lines=some n.Diffs) (hgn:g.nodes=some n.Nodes):Gets (f251 4611686018427387904 g) (solveQ n.Nodes.toNat n.Diffs):=by
 have h1:=h.n1
 have h2:=h.n2
 have e:g.nodes=some ((n.Nodes.toNat:Nat):Int):=by rw [hgn]; congr 1; omega
 exact solve_of e (by omega) (by omega) h.d (grow_all hg e (by omega) h.d h.l h.lo (by rw [numsN_len]; omega) (fun i hi=>numsN_mem.1 hi) fun v hv=>numsN_mem.2 ⟨by omega,by omega⟩)
def PG (K:Nat) (n:Net):Gr:=⟨f386 K ⟨n⟩,f387 K ⟨n⟩⟩
def fromQ (n:Net) (a:Int) (r:Tree_diffs × Int):Prop:=growQ n.Nodes.toNat n.Diffs (fun v=>decide ((v:Int)∈[a])) r∧r.2=-1
theorem f288_eq {n:Net} (h:Mild n) {a:Int} (h0:0≤a) (h1:a < n.Nodes) :
  Gets (f288 4611686018427387904 n a) fun r=>(¬ Fea n.Diffs∧r=(⟨[],[],[]⟩,41))∨(Fea n.Diffs∧r.2=0∧fromQ n a (r.1,-1)):=by
 unfold f288
 have hn1:=h.n1
 have hn2:=h.n2
 refine Gets.bind (solve_mild h rfl rfl) fun r hr=>?_
 obtain⟨x,t,bad⟩:=r
 refine Gets.cond (fun h'=>Gets.some (.inl ?_)) fun h'=>?_
 ·have h':0≤bad:=by simpa using h'
  rcases hr with ⟨h2,_⟩ | ⟨_,_,h2,_⟩
  ·simp only at h2; omega
  ·exact⟨h2,rfl⟩
 ·have h':¬ 0≤bad:=by simpa using h'
  rcases hr with ⟨_,_,hp,hx0,hb⟩ | ⟨h2,_⟩
  ·have e:(some n.Nodes:Option Int)=some ((n.Nodes.toNat:Nat):Int):=by congr 1; omega
   refine Gets.bind (grow_pot (g:=PG 4611686018427387904 n) (l:=n.Diffs) (n:=n.Nodes.toNat) rfl (by rw [← e]; rfl) (by omega) h.d (by have:=h.l; omega) (fr:=[a]) (by simp) (fun i hi=>by simp at hi; subst hi; omega) hp fun u v hu hv=>?_) fun r hr=>?_
   ·have h3:=hb u
    have h4:=hb v
    simp only at h3 h4
    show x.getD u 0 - x.getD v 0≤_
    omega
   ·obtain⟨t',b'⟩:=r
    obtain⟨h3,h4⟩:=hr
    simp only at h4
    subst h4
    exact Gets.some (.inr ⟨⟨_,hp⟩,rfl,h3,rfl⟩)
  ·simp only at h2; omega
theorem f339_eq {K:Nat} (xs:List Bool) (b:Bool) (h:xs.length≤9223372036854775807):f339 K xs b=some (fidx (fun x=>b==x) xs 0):=
 rngL_find (f:=id) h (fun _ _=>rfl) fun nx x i u=>rfl
theorem fidx_neg {α:Type} {p:α→Bool}:∀ {xs:List α} {i:Int},0≤i→(fidx p xs i < 0↔∀ x∈xs,p x=false)
 | [],i,h=>by simp [fidx]
 | x::xs,i,h=>by
  unfold fidx
  cases hx:p x
  ·simp [hx,fidx_neg (p:=p) (xs:=xs) (i:=i+1) (by omega)]
  ·simp [hx]; omega
def Conn (n:Net):Prop:=∀ v,v < n.Nodes.toNat→Bm.Reach (edg n.Diffs) (fun v=>decide (v=0)) v
theorem src0:(fun v:Nat=>decide ((v:Int)∈[(0:Int)]))=fun v=>decide (v=0):=by
 funext v; simp
theorem from_top {n:Net} (h:Mild n) (hc:Conn n) (hf:Fea n.Diffs) {r:Tree_diffs × Int} (hr:fromQ n 0 r):IsTop n.Nodes.toNat (edg n.Diffs) r.1.long∧∀ v,v < n.Nodes.toNat→r.1.has.getD v false=true:=by
 obtain⟨⟨hn,hi,hb,hx⟩,h1⟩:=hr
 rw [src0] at hi
 rcases hx with ⟨_,hx⟩ | ⟨h2,_⟩
 ·have hh:∀ v,v < n.Nodes.toNat→(stS r.1.long r.1.has r.1.last).h v=true:=fun v hv=>(hx.reach hi v).2 (hc v hv)
  obtain⟨π,hp⟩:=hf
  have hd:∀ v,v < n.Nodes.toNat→Dist (edg n.Diffs) (fun v=>decide (v=0)) v (r.1.long.getD v 0):=fun v hv=>hx.dist hi (hh v hv)
  have hn1:=h.n1
  refine⟨⟨hn.a,?_,fun e he=>?_,fun π' hp' hz v hv=>?_⟩,hh⟩
  ·obtain⟨⟨a,m,ha,hw⟩,h3⟩:=hd 0 (by omega)
   simp at ha; subst ha
   have h4:=hw.pot hp
   have h5:=h3 0 0 0 (by simp) .nil
   omega
  ·exact(hx.le he (hh _ (edg_uv h.d e he).1)).2
  ·obtain⟨⟨a,m,ha,hw⟩,h3⟩:=hd v hv
   simp at ha; subst ha
   have:=hw.pot hp'
   omega
 ·omega
def topQ (n:Net) (r:List Int × Int):Prop:=(¬ Fea n.Diffs∧r=([],41))∨(Fea n.Diffs∧r.2=0∧IsTop n.Nodes.toNat (edg n.Diffs) r.1∧∀ v,-4611686018427387904≤r.1.getD v 0∧r.1.getD v 0≤4611686018427387904)
theorem f228_eq {n:Net} (h:Mild n) (hc:Conn n):Gets (f228 4611686018427387904 n) (topQ n):=by
 unfold f228
 have hn1:=h.n1
 have hn2:=h.n2
 refine Gets.bind (f288_eq h (a:=0) (by omega) (by omega)) fun r hr=>?_
 obtain⟨t,e⟩:=r
 refine Gets.cond (fun h'=>?_) fun h'=>?_
 ·rcases hr with ⟨h2,h3⟩ | ⟨_,h3,_⟩
  ·cases h3; exact Gets.some (.inl ⟨h2,rfl⟩)
  ·simp only at h3; subst h3; simp at h'
 ·rcases hr with ⟨h2,h3⟩ | ⟨h2,h3,h4⟩
  ·cases h3; simp at h'
  ·obtain⟨h5,h6⟩:=from_top h hc h2 h4
   have hlb:t.has.length=n.Nodes.toNat:=h4.1.1.b
   have:f297 4611686018427387904 t.has false=some false:=by
    unfold f297
    rw [f339_eq _ _ (by omega),Option.bind_some]
    congr 1
    rw [decide_eq_false_iff_not]
    have:=(fidx_neg (p:=fun x=>false==x) (xs:=t.has) (i:=0) (by omega)).2 fun x hx=>by
     obtain⟨i,hi⟩:=List.mem_iff_getElem?.1 hx
     have:=h6 i (by have:=(List.getElem?_eq_some_iff.1 hi).1; omega)
     rw [List.getD_eq_getElem?_getD,hi] at this
     simp at this; subst this; rfl
    omega
   simp only [this,Option.bind_some,cond_false]
   exact Gets.some (.inr ⟨h2,rfl,h5,h4.1.2.2.1⟩)
theorem f108_eq {n:Net} (h:Mild n) (hc:Conn n):Gets (f108 4611686018427387904 n) (topQ n):=by
 unfold f108
 rw [f227_yes h,Option.bind_some]
 exact Gets.bind (f228_eq h hc) fun r hr=>Gets.some hr
def turnD (d:Diff):Diff:=⟨d.To,d.From,d.Most⟩
def turnN (n:Net):Net:=⟨n.Nodes,n.Diffs.map turnD⟩
theorem f232_eq {K:Nat} {n:Net} (h:Mild n):f232 K n=some (turnN n):=by
 have hl:=h.l
 have:Gets (f232 K n) (·=turnN n):=by
  unfold f232
  refine Gets.bind (P:=(·=n.Diffs.map turnD)) (rngL_gets (fun j v=>v=(n.Diffs.take j).map turnD) (by omega) (by simp) (fun j x v nx hx hv hnx=>?_) fun v hv=>Gets.some (by rw [hv,List.take_length])) fun v hv=>Gets.some (by rw [hv]; rfl)
  have hj:=(List.getElem?_eq_some_iff.1 hx).1
  subst hv
  rw [app_eq (by simp; omega),Option.bind_some]
  refine hnx _ ?_
  rw [List.take_succ,hx]
  simp [turnD]
 obtain⟨r,e,rfl⟩:=this
 exact e
theorem Mild.turn {n:Net} (h:Mild n):Mild (turnN n):=by
 refine⟨h.n1,h.n2,by simpa [turnN] using h.l,fun d hd=>?_,fun d hd=>?_⟩
 ·obtain⟨x,hx,rfl⟩:=List.mem_map.1 hd
  obtain⟨a,b,c,e,f,g⟩:=h.d x hx
  exact⟨c,e,a,b,f,g⟩
 ·obtain⟨x,hx,rfl⟩:=List.mem_map.1 hd
  exact h.lo x hx
theorem pot_turn {l:List Diff} {π:Nat→Int}:Pot (edg (l.map turnD)) π↔Pot (edg l) (fun v=>- π v):=by
 constructor
 ·intro h e he
  obtain⟨x,hx,rfl⟩:=edg_mem he
  have:=h (E1 (turnD x)) (by simp only [edg,List.map_map,List.mem_map]; exact⟨x,hx,rfl⟩)
  simp only [E1,turnD] at this ⊢
  omega
 ·intro h e he
  obtain⟨y,hy,rfl⟩:=edg_mem he
  obtain⟨x,hx,rfl⟩:=List.mem_map.1 hy
  have:=h (E1 x) (List.mem_map.2 ⟨x,hx,rfl⟩)
  simp only [E1,turnD] at this ⊢
  omega
theorem fea_turn {l:List Diff}:Fea (l.map turnD)↔Fea l:=by
 constructor
 ·rintro⟨π,h⟩; exact⟨_,pot_turn.1 h⟩
 ·rintro⟨π,h⟩; exact⟨fun v=>- π v,pot_turn.2 (by simpa using h)⟩
structure IsBot (n:Nat) (E:List Ed) (x:List Int):Prop where
 len:x.length=n
 z:x.getD 0 0=0
 pot:Pot E (fun v=>x.getD v 0)
 bot:∀ π,Pot E π→π 0=0→∀ v,v < n→x.getD v 0≤π v
theorem getD_neg {x:List Int} {v:Nat}:(x.map (- ·)).getD v 0=- x.getD v 0:=by
 simp only [List.getD_eq_getElem?_getD,List.getElem?_map]
 cases x[v]? <;> simp
theorem IsTop.neg {n:Net} {x:List Int} (h:IsTop n.Nodes.toNat (edg (turnN n).Diffs) x):IsBot n.Nodes.toNat (edg n.Diffs) (x.map (- ·)):=by
 refine⟨by simpa using h.len,by rw [getD_neg,h.z]; rfl,?_,fun π hp hz v hv=>?_⟩
 ·have:=pot_turn.1 h.pot
  simp only [getD_neg]; exact this
 ·have:=h.top (fun v=>- π v) (pot_turn.2 (by simpa using hp)) (by simp [hz]) v hv
  rw [getD_neg]; omega
def botQ (n:Net) (r:List Int × Int):Prop:=(¬ Fea n.Diffs∧r=([],41))∨(Fea n.Diffs∧r.2=0∧IsBot n.Nodes.toNat (edg n.Diffs) r.1∧∀ v,-4611686018427387904≤r.1.getD v 0∧r.1.getD v 0≤4611686018427387904)
theorem f111_eq {n:Net} (h:Mild n) (hc:Conn (turnN n)):Gets (f111 4611686018427387904 n) (botQ n):=by
 unfold f111
 rw [f227_yes h,Option.bind_some]
 simp only [bne_self_eq_false,cond_false]
 rw [f232_eq h,Option.bind_some]
 refine Gets.bind (f228_eq h.turn hc) fun r hr=>?_
 obtain⟨x,e⟩:=r
 have hlen:x.length≤256∧∀ v,-4611686018427387904≤x.getD v 0∧x.getD v 0≤4611686018427387904:=by
  rcases hr with ⟨_,h1⟩ | ⟨_,_,h1,h2⟩
  ·cases h1; exact⟨by simp,fun v=>by simp⟩
  ·have h3:x.length=n.Nodes.toNat:=h1.len
   have:=h.n2
   exact⟨by omega,h2⟩
 refine Gets.bind (P:=(·=x.map (- ·))) (rngN_gets (fun i v=>v.length=x.length∧(∀ u:Nat,(u:Int) < i→v.getD u 0=- x.getD u 0)∧∀ u:Nat,i≤u→v.getD u 0=x.getD u 0) ⟨by omega,by simp only; omega⟩ ⟨rfl,fun u h=>by omega,fun u h=>rfl⟩ (fun i v nx h0 h1 ⟨h2,h3,h4⟩ hnx=>?_) fun i v h0 h1 h2 h3 ⟨h4,h5,h6⟩=>Gets.some ?_) fun v hv=>Gets.some ?_
 ·have h1:i < x.length:=h1
  rw [ix_getD 0 h0 (by omega),Option.bind_some]
  have e2:=h4 i.toNat (by omega)
  have b:=hlen.2 i.toNat
  rw [e2,W_eq (by omega) (by omega)]
  refine hnx _ ⟨by simp [h2],fun u hu=>?_,fun u hu=>?_⟩
  ·rw [getD_set (by omega)]
   split
   ·rename_i h; rw [h]
   ·exact h3 u (by omega)
  ·rw [getD_set (by omega),if_neg (by omega)]
   exact h4 u (by omega)
 ·have h1:(x.length:Int)≤i:=h1
  have h4:v.length=x.length:=h4
  refine List.ext_getElem? fun u=>?_
  by_cases hu:u < x.length
  ·have:=h5 u (by omega)
   rw [List.getD_eq_getElem?_getD,List.getD_eq_getElem?_getD,List.getElem?_eq_getElem (by omega),List.getElem?_eq_getElem hu] at this
   rw [List.getElem?_eq_getElem (by omega),List.getElem?_map,List.getElem?_eq_getElem hu]
   simpa using this
  ·rw [List.getElem?_eq_none (by omega),List.getElem?_eq_none (by simp; omega)]
 ·subst hv
  rcases hr with ⟨h1,h2⟩ | ⟨h1,h2,h3,h4⟩
  ·cases h2
   exact .inl ⟨fun h'=>h1 (fea_turn.2 h'),rfl⟩
  ·exact .inr ⟨fea_turn.1 h1,h2,h3.neg,fun v=>by have:=h4 v; simp only [getD_neg]; simp only at this; omega⟩
end Go.Proofs.YthlchdnbokhclaaGreat.Ql
namespace Go.Proofs.YthlchdnbokhclaaGreat.Ql
open Go Go.Proofs.YthlchdnbokhclaaGreat.Bm
theorem f302_yes {K:Nat} {d:Diff} {m:Int} (h:DOk m.toNat d) (h1:1≤m):f302 K d m=some true:=by
 obtain⟨a,b,c,e,f,g⟩:=h
 simp only [f302,f285,Option.bind_some]
 rw [show (decide (d.From≥0)&&decide (d.From < m))=true by simp; omega,show (decide (d.To≥0)&&decide (d.To < m))=true by simp; omega,show decide (d.Most≥-1073741824)=true by simp; omega,show decide (d.Most≤1073741824)=true by simp; omega]
 rfl
theorem f229_yes {K:Nat} {n:Net} (h:Mild n):f229 K n=some 0:=by
 have hl:=h.l
 have h1:=h.n1
 have h2:=h.n2
 have:Gets (f229 K n) (·=0):=by
  unfold f229
  rw [show (decide (n.Nodes < 1)||(decide (n.Nodes > 256)||decide ((n.Diffs.length:Int) > 4096)))=false by simp; omega,cond_false]
  refine Gets.jo (fun _=>True) (fun _ _=>Gets.some rfl) fun j hj=>rngL_gets (fun _ _=>True) (by omega) trivial (fun k x _ nx hx _ hnx=>?_) fun _ _=>hj _ trivial
  rw [f302_yes (h.d x (List.mem_of_getElem? hx)) h1]
  exact hnx _ trivial
 obtain⟨r,e,rfl⟩:=this
 exact e
theorem stL_set {n k:Nat} {long:List Int} {has:List Bool} {p:Nat→Option Nat} {x:Diff} (h1:long.length=n) (h2:has.length=n) (hx:DOk n x) :
  (⟨fun v=>(long.set x.To.toNat (long.getD x.From.toNat 0+x.Most)).getD v 0,fun v=>(has.set x.To.toNat true).getD v false,fun v=>if v=x.To.toNat then some k else p v⟩:S)=S.upd ⟨fun v=>long.getD v 0,fun v=>has.getD v false,p⟩ k (E1 x):=by
 have h3:x.To.toNat < n:=by have:=hx.t0; have:=hx.t1; omega
 unfold S.upd
 congr 1
 ·funext v; rw [getD_set (by rw [h1]; exact h3)]; rfl
 ·funext v; rw [getD_set (by rw [h2]; exact h3)]; rfl
abbrev stL (long:List Int) (has:List Bool) (p:Nat→Option Nat):S:=⟨fun v=>long.getD v 0,fun v=>has.getD v false,p⟩
def lensQ (n:Nat) (l:List Diff) (src:Nat→Bool) (r:List Int × List Bool × Bool):Prop:=
 r.1.length=n∧r.2.1.length=n∧(∀ v,-4611686018427387904≤r.1.getD v 0∧r.1.getD v 0≤4611686018427387904)∧∃ p,Inv (edg l) src (stL r.1 r.2.1 p)∧(r.2.2=true→Fix (edg l) (stL r.1 r.2.1 p))∧(Fea l→r.2.2=true)
theorem f230_eq {n:Net} {N:Nat} (hNn:n.Nodes=N) (h1N:1≤N) (hN:N < 256) (hl:LOk N n.Diffs) (hll:n.Diffs.length≤8192) {marked:List Bool} (hm:marked.length=N) {src:Nat→Bool} (hs:∀ v,marked.getD v false=src v):Gets (f230 4611686018427387904 n marked) (lensQ N n.Diffs src):=by
 unfold f230
 rw [hNn]
 refine Gets.bind (P:=fun r=>r.1=List.replicate N 0∧r.2=marked) ?_ ?_
 ·refine rngN_gets (fun i r=>r.1=List.replicate i.toNat 0∧r.2=marked.take i.toNat) ⟨by omega,by omega⟩ ⟨rfl,rfl⟩ (fun i v nx h0 h1 ⟨h2,h3⟩ hnx=>?_) fun i v h0 h1 h2 h3 ⟨h4,h5⟩=>Gets.some ⟨by rw [h4,h2 (by omega)]; rfl,by rw [h5,h2 (by omega),← hm]; exact List.take_length⟩
  obtain⟨v1,v2⟩:=v
  simp only at h2 h3
  subst h2 h3
  dsimp only
  rw [app_eq (by simp; omega),Option.bind_some,ix_getD false h0 (by omega),Option.bind_some,app_eq (by simp; omega),Option.bind_some]
  refine hnx _ ⟨?_,?_⟩
  ·rw [show (i+1).toNat=i.toNat+1 by omega,List.replicate_succ']
  ·rw [show (i+1).toNat=i.toNat+1 by omega,List.take_succ,List.getElem?_eq_getElem (by omega),List.getD_eq_getElem?_getD,List.getElem?_eq_getElem (by omega)]
   rfl
 rintro⟨_,marked⟩ ⟨h1,h2⟩
 simp only at h1 h2
 subst h1 h2
 have hB:Bds (edg n.Diffs) src (fun t=>-(t*1073741824)) (fun t=>t*1073741824):=Bds.gen (by omega) (edg_w hl)
 have hs0:stL (List.replicate N 0) marked (fun _=>none)=⟨fun _=>0,fun v=>marked.getD v false,fun _=>none⟩:=by
  unfold stL
  congr 1
  funext v; rw [List.getD_eq_getElem?_getD,List.getElem?_replicate]; split <;> rfl
 have hi0:Inv (edg n.Diffs) src (stL (List.replicate N 0) marked (fun _=>none)):=by rw [hs0]; exact inv0 hs
 have hsN:∀ a,src a=true→a < N:=fun a ha=>by
  rw [← hs,List.getD_eq_getElem?_getD] at ha
  refine Classical.byContradiction fun h=>?_
  rw [List.getElem?_eq_none (by omega)] at ha; cases ha
 refine Gets.jo (fun v=>v.1.length=N∧v.2.length=N∧(∀ u,-4611686018427387904≤v.1.getD u 0∧v.1.getD u 0≤4611686018427387904)∧(∃ p,Inv (edg n.Diffs) src (stL v.1 v.2 p))∧¬ Fea n.Diffs) (fun v ⟨h1,h2,h3,⟨p,h4⟩,h5⟩=>Gets.some ⟨h1,h2,h3,p,h4,fun h=>(by cases h),fun h=>absurd h h5⟩) fun j hj=>?_
 refine whl_count (fun k v=>v.2.2=(k:Int)∧v.1.length=N∧v.2.1.length=N∧(Fea n.Diffs→k≤N)∧∃ p,Inv (edg n.Diffs) src (stL v.1 v.2.1 p)∧Seen (edg n.Diffs) src k (stL v.1 v.2.1 p)∧∀ u,-(((k*n.Diffs.length:Nat):Int)*1073741824)≤v.1.getD u 0∧v.1.getD u 0≤((k*n.Diffs.length:Nat):Int)*1073741824) (N+1) ?_ (k:=0) ⟨rfl,by simp,hm,fun _=>by omega,_,hi0,Seen.zero hi0,fun u=>?_⟩ (by omega) (by omega)
 ·rintro k ⟨long,has,kk⟩ nx ⟨hk1,hn1,hn2,hkF,p,hi,hsn,hbd⟩ hk hnx
  simp only at hk1 hn1 hn2 hi hsn hbd
  subst hk1
  have hkl:(k+1)*n.Diffs.length≤257*8192:=Nat.mul_le_mul (by omega) hll
  refine Gets.cond (fun hle=>?_) fun hle=>?_
  ·have hle:k≤N:=by have:=of_decide_eq_true hle; omega
   refine Gets.bind (P:=fun r=>r.1.length=N∧r.2.1.length=N∧∃ p' c,Ps (edg n.Diffs) src (fun t=>-(t*1073741824)) (fun t=>t*1073741824) (k*n.Diffs.length) (stL long has p) n.Diffs.length (stL r.1 r.2.1 p') c∧r.2.2=c.isSome) ?_ ?_
   ·refine rngL_gets (fun j r=>r.1.length=N∧r.2.1.length=N∧∃ p' c,Ps (edg n.Diffs) src (fun t=>-(t*1073741824)) (fun t=>t*1073741824) (k*n.Diffs.length) (stL long has p) j (stL r.1 r.2.1 p') c∧r.2.2=c.isSome) (by omega) ⟨hn1,hn2,p,none,Ps.zero hi hbd,rfl⟩ (fun j x v nx hx hv hnx=>?_) fun v h=>Gets.some h
    obtain⟨long',has',b⟩:=v
    obtain⟨hn1,hn2,p',c,hps,hbc⟩:=hv
    simp only at hn1 hn2 hps hbc
    have hj:=(List.getElem?_eq_some_iff.1 hx).1
    have hdx:=hl x (List.mem_of_getElem? hx)
    have hb:∀ v,-4611686018427387904≤long'.getD v 0∧long'.getD v 0≤4611686018427387904:=fun v=>by
     have h1:=hps.bd v
     rw [Nat.add_mul] at hkl
     simp only [stL] at h1
     omega
    refine Gets.bind (can_eq (p:=p') hdx hn1 hn2 hb) fun b hb'=>?_
    cases b
    ·exact hnx _ ⟨hn1,hn2,p',c,hps.skip hB (edg_at hx) (fun h=>by have:=hb'.2 h; cases this),hbc⟩
    ·simp only [cond_true]
     have h1:=hdx.f0
     have h2:=hdx.f1
     have h3:=hdx.t0
     have h4:=hdx.t1
     have h5:=hdx.m0
     have h6:=hdx.m1
     have h7:=hb x.From.toNat
     rw [ix_getD 0 h1 (by omega),ix_getD 0 h3 (by omega),ix_getD false h3 (by omega)]
     simp only [Option.bind_some]
     rw [W_eq (by omega) (by omega)]
     refine hnx _ ⟨by simp [hn1],by simp [hn2],fun v=>if v=x.To.toNat then some j else p' v,some x.To.toNat,?_,rfl⟩
     have:=hps.upd hB (edg_at hx) (hb'.1 rfl)
     rw [← stL_set hn1 hn2 hdx] at this
     exact this
   rintro⟨long',has',b⟩ ⟨hn1',hn2',p',c,hps,hbc⟩
   simp only at hn1' hn2' hps hbc
   subst hbc
   have hb:∀ v,-4611686018427387904≤long'.getD v 0∧long'.getD v 0≤4611686018427387904:=fun v=>by
    have h1:=hps.bd v
    rw [Nat.add_mul] at hkl
    simp only [stL] at h1
    omega
   have hbd':=hps.bd
   rw [← edg_len] at hps
   refine Gets.cond (fun h=>Gets.some ?_) fun h=>?_
   ·cases c with
    | some a=>cases h
    | none=>exact⟨hn1',hn2',hb,p',hps.inv,fun _=>hps.fix,fun _=>rfl⟩
   ·cases c with
    | none=>cases h
    | some a=>
     rw [W_eq (by omega) (by omega)]
     refine hnx _ (by omega) ⟨by simp,hn1',hn2',?_,p',hps.inv,hps.seen hsn,fun u=>?_⟩
     ·rintro⟨π,hp⟩
      refine Classical.byContradiction fun hlt=>?_
      have hf:=hsn.fix hp (fun e he=>(edg_uv hl e he).2) hsN hi (by omega)
      rcases hps.ch with ⟨h3,_⟩ | ⟨e,h3,h4,h5,h6⟩
      ·cases h3
      ·obtain⟨b,m,h7,h8⟩:=hps.inv.wk _ h5
       have hw:=hf.walk h8 (hi.srcs b h7).1
       have:=(hi.srcs b h7).2
       rcases h6 with h6 | h6
       ·rw [h6] at hw; exact absurd hw.1 (by decide)
       ·omega
     ·have:=hbd' u
      rw [Nat.add_mul,Nat.one_mul]
      exact this
  ·have hle:¬ k≤N:=by have:=of_decide_eq_false hle; omega
   refine hj _ ⟨hn1,hn2,fun u=>?_,⟨p,hi⟩,fun h=>hle (hkF h)⟩
   have:=hbd u
   rw [Nat.add_mul] at hkl
   show -4611686018427387904≤long.getD u 0∧long.getD u 0≤4611686018427387904
   omega
 ·simp only [Nat.zero_mul]
  rw [List.getD_eq_getElem?_getD,List.getElem?_replicate]; split <;> simp
theorem f231_eq {K:Nat} {n:Net} {N:Nat} (hNn:n.Nodes=N) (hN:N < 256) (all:Bool) (one:Int):Gets (f231 K n all one) fun r=>r.length=N∧∀ v:Nat,v < N→r.getD v false=(all||((v:Int)==one)):=by
 unfold f231
 rw [hNn]
 refine Gets.bind (P:=fun r=>r.length=N∧∀ v:Nat,v < N→r.getD v false=(all||((v:Int)==one))) (rngN_gets (fun i r=>r.length=i.toNat∧∀ v:Nat,v < i.toNat→r.getD v false=(all||((v:Int)==one))) ⟨by omega,by omega⟩ ⟨rfl,fun v h=>by simp at h⟩ (fun i v nx h0 h1 ⟨h2,h3⟩ hnx=>?_) fun i v h0 h1 h2 h3 h4=>Gets.some (by rw [h2 (by omega)] at h4; exact h4)) fun v hv=>Gets.some hv
 refine Gets.bind (P:=fun r=>r=v++[all||(i==one)]) ?_ fun r hr=>?_
 ·cases all
  ·simp only [cond_false]
   rw [app_eq (by simp; omega),Option.bind_some]
   exact Gets.some rfl
  ·simp only [cond_true]
   rw [app_eq (by simp; omega),Option.bind_some]
   exact Gets.some rfl
 ·subst hr
  refine hnx _ ⟨by simp; omega,fun u hu=>?_⟩
  rw [List.getD_eq_getElem?_getD]
  by_cases h4:u < i.toNat
  ·rw [List.getElem?_append_left (by omega),← List.getD_eq_getElem?_getD]; exact h3 u h4
  ·rw [List.getElem?_append_right (by omega),show u - v.length=0 by omega]
   simp only [List.getElem?_cons_zero,Option.getD_some]
   rw [show (u:Int)=i by omega]
theorem Mild.nat {n:Net} (h:Mild n):n.Nodes=(n.Nodes.toNat:Nat):=by have:=h.n1; omega
theorem f188_eq {n:Net} (h:Mild n):Gets (f188 4611686018427387904 n) fun r=>(r=true↔Fea n.Diffs):=by
 have h1:=h.n1
 have h2:=h.n2
 unfold f188
 refine Gets.bind (f231_eq h.nat (by omega) true 0) fun m hm=>?_
 have hsrc:∀ v,m.getD v false=decide (v < n.Nodes.toNat):=fun v=>by
  by_cases hv:v < n.Nodes.toNat
  ·rw [hm.2 v hv]; simp [hv]
  ·rw [List.getD_eq_getElem?_getD,List.getElem?_eq_none (by omega)]; simp [hv]
 refine Gets.bind (f230_eq h.nat (by omega) (by omega) h.d (by have:=h.l; omega) hm.1 hsrc) fun r hr=>?_
 obtain⟨long,has,ok⟩:=r
 obtain⟨h3,h4,h5,p,h6,h7,h8⟩:=hr
 refine Gets.some ⟨fun h=>⟨fun v=>long.getD v 0,fun e he=>?_⟩,h8⟩
 exact((h7 h).le he ((h6.srcs _ (by simpa using (edg_uv (by assumption:Mild n).d e he).1)).1)).2
theorem f109_eq {n:Net} (h:Mild n) (hc:Conn n):Gets (f109 4611686018427387904 n) (topQ n):=by
 have h1:=h.n1
 have h2:=h.n2
 unfold f109
 rw [f229_yes h,Option.bind_some]
 simp only [bne_self_eq_false,cond_false]
 refine Gets.bind (f188_eq h) fun b hb=>Gets.cond (fun h'=>Gets.some (.inl ⟨fun h''=>(by rw [hb.2 h''] at h'; cases h'),rfl⟩)) fun h'=>?_
 have hF:Fea n.Diffs:=hb.1 (by simpa using h')
 refine Gets.bind (f231_eq h.nat (by omega) false 0) fun m hm=>?_
 have hsrc:∀ v,m.getD v false=decide (v=0):=fun v=>by
  by_cases hv:v < n.Nodes.toNat
  ·rw [hm.2 v hv,Bool.false_or,Bool.eq_iff_iff]; simp
  ·rw [List.getD_eq_getElem?_getD,List.getElem?_eq_none (by omega)]; simp; omega
 refine Gets.bind (f230_eq h.nat (by omega) (by omega) h.d (by have:=h.l; omega) hm.1 hsrc) fun r hr=>?_
 obtain⟨long,has,ok⟩:=r
 obtain⟨h3,h4,h5,p,h6,h7,h8⟩:=hr
 simp only at h3 h4 h5 h6 h7 h8
 have h4':has.length=n.Nodes.toNat:=h4
 have hf:=h7 (h8 hF)
 have hh:∀ v,v < n.Nodes.toNat→has.getD v false=true:=fun v hv=>(hf.reach h6 v).2 (hc v hv)
 refine Gets.jo (fun _=>True) (fun _ _=>Gets.some (.inr ⟨hF,rfl,?_,h5⟩)) fun j hj=>rngN_gets (fun _ _=>True) ⟨by omega,by omega⟩ trivial (fun i v nx h0 h1 _ hnx=>?_) fun _ _ _ _ _ _ _=>hj _ trivial
 ·obtain⟨π,hp⟩:=hF
  have hd:∀ v,v < n.Nodes.toNat→Dist (edg n.Diffs) (fun v=>decide (v=0)) v (long.getD v 0):=fun v hv=>hf.dist h6 (hh v hv)
  refine⟨h3,?_,fun e he=>?_,fun π' hp' hz v hv=>?_⟩
  ·obtain⟨⟨a,m,ha,hw⟩,h3⟩:=hd 0 (by omega)
   simp at ha; subst ha
   have h4:=hw.pot hp
   have h5:=h3 0 0 0 (by simp) .nil
   simp only
   omega
  ·exact(hf.le he (hh _ (edg_uv h.d e he).1)).2
  ·obtain⟨⟨a,m,ha,hw⟩,h3⟩:=hd v hv
   simp at ha; subst ha
   have:=hw.pot hp'
   simp only
   omega
 ·have h0:0≤i:=h0
  have h1:i < (n.Nodes.toNat:Int):=by have:=h1; omega
  simp only [ix_getD false h0 (show i < has.length by omega),Option.bind_some,hh i.toNat (by omega)]
  exact hnx _ trivial
theorem f233_eq {K:Nat} {n:Net} (h:Mild n):f233 K n=some (turnN n):=f232_eq (K:=K) h
theorem f112_eq {n:Net} (h:Mild n) (hc:Conn (turnN n)):Gets (f112 4611686018427387904 n) (botQ n):=by
 unfold f112
 rw [f233_eq h,Option.bind_some]
 refine Gets.bind (f109_eq h.turn hc) fun r hr=>?_
 obtain⟨x,e⟩:=r
 refine Gets.cond (fun h'=>Gets.some ?_) fun h'=>?_
 ·rcases hr with ⟨h1,h2⟩ | ⟨_,h1,_⟩
  ·cases h2
   exact .inl ⟨fun h'=>h1 (fea_turn.2 h'),rfl⟩
  ·simp only at h1; subst h1; simp at h'
 ·rcases hr with ⟨h1,h2⟩ | ⟨h1,h2,h3,h4⟩
  ·cases h2; simp at h'
  ·simp only at h2 h3 h4
   have h5:x.length=n.Nodes.toNat:=h3.len
   have h6:=h.n2
   refine Gets.bind (P:=(·=x.map (- ·))) (rngL_gets (fun j v=>v=(x.take j).map (- ·)) (by omega) rfl (fun j y v nx hx hv hnx=>?_) fun v hv=>Gets.some (by rw [hv,List.take_length])) fun v hv=>Gets.some ?_
   ·have hj:=(List.getElem?_eq_some_iff.1 hx).1
    subst hv
    have h7:=h4 j
    rw [List.getD_eq_getElem?_getD,hx] at h7
    simp only [Option.getD_some] at h7
    rw [W_eq (by omega) (by omega),app_eq (by simp; omega),Option.bind_some]
    refine hnx _ ?_
    rw [List.take_succ,hx]
    simp
   ·subst hv
    exact .inr ⟨fea_turn.1 h1,rfl,h3.neg,fun v=>by have:=h4 v; simp only [getD_neg]; omega⟩
theorem IsTop.uniq {n:Nat} {E:List Ed} {x y:List Int} (h:IsTop n E x) (k:IsTop n E y):x=y:=by
 refine List.ext_getElem? fun v=>?_
 by_cases hv:v < n
 ·have h1:=h.top _ k.pot k.z v hv
  have h2:=k.top _ h.pot h.z v hv
  simp only [List.getD_eq_getElem?_getD,List.getElem?_eq_getElem (show v < x.length by rw [h.len]; exact hv),List.getElem?_eq_getElem (show v < y.length by rw [k.len]; exact hv),Option.getD_some] at h1 h2
  rw [List.getElem?_eq_getElem (show v < x.length by rw [h.len]; exact hv),List.getElem?_eq_getElem (show v < y.length by rw [k.len]; exact hv)]
  congr 1; omega
 ·rw [List.getElem?_eq_none (by rw [h.len]; omega),List.getElem?_eq_none (by rw [k.len]; omega)]
theorem IsBot.uniq {n:Nat} {E:List Ed} {x y:List Int} (h:IsBot n E x) (k:IsBot n E y):x=y:=by
 refine List.ext_getElem? fun v=>?_
 by_cases hv:v < n
 ·have h1:=h.bot _ k.pot k.z v hv
  have h2:=k.bot _ h.pot h.z v hv
  simp only [List.getD_eq_getElem?_getD,List.getElem?_eq_getElem (show v < x.length by rw [h.len]; exact hv),List.getElem?_eq_getElem (show v < y.length by rw [k.len]; exact hv),Option.getD_some] at h1 h2
  rw [List.getElem?_eq_getElem (show v < x.length by rw [h.len]; exact hv),List.getElem?_eq_getElem (show v < y.length by rw [k.len]; exact hv)]
  congr 1; omega
 ·rw [List.getElem?_eq_none (by rw [h.len]; omega),List.getElem?_eq_none (by rw [k.len]; omega)]
end Go.Proofs.YthlchdnbokhclaaGreat.Ql
namespace Go.Proofs.YthlchdnbokhclaaGreat.Ql
open Go Go.Proofs.YthlchdnbokhclaaGreat.Bm
theorem lflat_mem {α β:Type} {g:α→Int→List β} {y:β}:∀ {xs:List α} {i:Int},y∈lflat g xs i↔∃ (j:Nat) (x:α),xs[j]?=some x∧y∈g x (i+j)
 | [],i=>by simp [lflat]
 | x::xs,i=>by
  rw [lflat,List.mem_append,lflat_mem (xs:=xs)]
  constructor
  ·rintro(h | ⟨j,x',h1,h2⟩)
   ·exact⟨0,x,rfl,by simpa using h⟩
   ·refine⟨j+1,x',by simpa using h1,?_⟩
    rwa [show i+((j+1:Nat):Int)=i+1+j by omega]
  ·rintro⟨j,x',h1,h2⟩
   cases j with
   | zero=>simp at h1 h2; subst h1; exact .inl h2
   | succ j=>
    refine .inr ⟨j,x',by simpa using h1,?_⟩
    rwa [show i+((j+1:Nat):Int)=i+1+j by omega] at h2
theorem mem_lay {s:Scene} {y:DR}:y∈lay s ↔
  (∃ (d:Nat) (day:Int) (c:Nat) (x:Cell),s.Days[d]?=some day∧s.Basin.Cells[c]?=some x∧y∈gCell s d day x c) ∨
  (∃ (d:Nat) (day:Int) (i:Nat) (p:Arr2_3),s.Days[d]?=some day∧s.Basin.Pairs[i]?=some p∧y∈gPair s d day p i) ∨
  (∃ (i:Nat) (g:Sight),s.Sights[i]?=some g∧y∈gSight s g i)∨(∃ (i:Nat) (g:Change),s.Changes[i]?=some g∧y∈gChange s g i):=by
 unfold lay
 simp only [List.mem_append,lflat_mem,gDay,Int.zero_add]
 constructor
 ·rintro((⟨d,day,h1,⟨c,x,h2,h3⟩ | ⟨i,p,h2,h3⟩⟩ | ⟨i,g,h⟩) | ⟨i,g,h⟩)
  ·exact .inl ⟨d,day,c,x,h1,h2,h3⟩
  ·exact .inr (.inl ⟨d,day,i,p,h1,h2,h3⟩)
  ·exact .inr (.inr (.inl ⟨i,g,h⟩))
  ·exact .inr (.inr (.inr ⟨i,g,h⟩))
 ·rintro(⟨d,day,c,x,h1,h2,h3⟩ | ⟨d,day,i,p,h1,h2,h3⟩ | ⟨i,g,h⟩ | ⟨i,g,h⟩)
  ·exact .inl (.inl ⟨d,day,h1,.inl ⟨c,x,h2,h3⟩⟩)
  ·exact .inl (.inl ⟨d,day,h1,.inr ⟨i,p,h2,h3⟩⟩)
  ·exact .inl (.inr ⟨i,g,h⟩)
  ·exact .inr ⟨i,g,h⟩
def NN (s:Scene):Nat:=(theNet s).Nodes.toNat
abbrev EE (s:Scene):List Ed:=edg (theNet s).Diffs
theorem NN_eq {s:Scene}:((NN s:Nat):Int)=1+(s.Days.length:Int)*s.Basin.Cells.length:=by
 have:(0:Int)≤(s.Days.length:Int)*s.Basin.Cells.length:=Int.mul_nonneg (by omega) (by omega)
 simp only [NN,theNet]; omega
theorem NN_le {s:Scene} (h:SOk s):NN s≤193:=by
 have h1:=h.b.c2
 have h2:=h.d.2.1
 have:=mul_le (a:=s.Days.length) (b:=s.Basin.Cells.length) (m:=16) (n:=12) (by omega) (by omega) (by omega) (by omega)
 have:=NN_eq (s:=s)
 omega
theorem mulc {a b n:Int} (h0:0≤n) (h:a < b):a*n+n≤b*n:=by
 have:=Int.mul_le_mul_of_nonneg_right (show a+1≤b by omega) h0
 rw [Int.add_mul,Int.one_mul] at this
 exact this
theorem node_in {s:Scene} {c d:Int} (h0:0≤c) (h1:c < s.Basin.Cells.length) (h2:0≤d) (h3:d < s.Days.length):1≤node s c d∧node s c d < NN s:=by
 have:=mulc (n:=s.Basin.Cells.length) (by omega) h3
 have:0≤d*s.Basin.Cells.length:=Int.mul_nonneg h2 (by omega)
 have:=NN_eq (s:=s)
 unfold node
 omega
theorem cellAt_lt {b:Basin} {no:Int}:cellAt b no < b.Cells.length:=(fidx_lt (p:=fun x:Cell=>x.No==no) (xs:=b.Cells)).2
theorem dayAt_lt {ds:List Int} {d:Int}:dayAt ds d < ds.length:=(fidx_lt (p:=fun x:Int=>x==d) (xs:=ds)).2
theorem sightNode_in {s:Scene} {c d:Int} (h0:0≤cellAt s.Basin c) (h2:0≤dayAt s.Days d):1≤sightNode s c d∧sightNode s c d < NN s:=
 node_in h0 cellAt_lt h2 dayAt_lt
theorem lay_ok {s:Scene} (h:SOk s) {y:DR} (hy:y∈lay s):DOk (NN s) y.1∧-65536≤y.1.Most∧y.1.Most≤6000000:=by
 have hN:=NN_eq (s:=s)
 have hpos:0 < NN s:=by
  have:(0:Int)≤(s.Days.length:Int)*s.Basin.Cells.length:=Int.mul_nonneg (by omega) (by omega)
  omega
 have hd:=h.b.d
 have hs:=h.b.s
 rcases mem_lay.1 hy with ⟨d,day,c,x,h1,h2,h3⟩ | ⟨d,day,i,p,h1,h2,h3⟩ | ⟨i,g,h1,h3⟩ | ⟨i,g,h1,h3⟩
 ·have hn:=node_in (s:=s) (c:=c) (d:=d) (by omega) (by have:=(List.getElem?_eq_some_iff.1 h2).1; omega) (by omega) (by have:=(List.getElem?_eq_some_iff.1 h1).1; omega)
  simp only [gCell,List.mem_cons,List.not_mem_nil,or_false] at h3
  rcases h3 with rfl | rfl
  ·exact⟨⟨by simp only; omega,by simp only; omega,by simp only; omega,hn.2,by simp only; omega,by simp only; omega⟩,by simp only; omega,by simp only; omega⟩
  ·exact⟨⟨by simp only; omega,hn.2,by simp only; omega,by simp only; omega,by simp only; omega,by simp only; omega⟩,by simp only; omega,by simp only; omega⟩
 ·have hp:=h.b.pair _ _ h2
  have hd':=(List.getElem?_eq_some_iff.1 h1).1
  have hn0:=node_in (s:=s) (c:=p.a0) (d:=d) hp.1 hp.2.1 (by omega) (by omega)
  have hn1:=node_in (s:=s) (c:=p.a1) (d:=d) hp.2.2.1 hp.2.2.2.1 (by omega) (by omega)
  have hm:=moreOf_ge h.b hp
  have hl:0≤lessOf s.Basin p∧lessOf s.Basin p≤65536:=by unfold lessOf; split <;> omega
  simp only [gPair] at h3
  split at h3
  ·simp only [List.mem_cons,List.not_mem_nil,or_false] at h3
   rcases h3 with rfl | rfl
   ·exact⟨⟨by simp only; omega,hn0.2,by simp only; omega,hn1.2,by simp only; omega,by simp only; omega⟩,by simp only; omega,by simp only; omega⟩
   ·exact⟨⟨by simp only; omega,hn1.2,by simp only; omega,hn0.2,by simp only; omega,by simp only; omega⟩,by simp only; omega,by simp only; omega⟩
  ·simp at h3
 ·have hg:=h.g g (List.mem_of_getElem? h1)
  obtain⟨_,g1,g2,g3,g4,g5⟩:=hg
  have hn:=sightNode_in g1 g2
  simp only [gSight,List.mem_cons,List.not_mem_nil,or_false] at h3
  rcases h3 with rfl | rfl
  ·exact⟨⟨by simp only; omega,by simp only; omega,by simp only; omega,hn.2,by simp only; omega,by simp only; omega⟩,by simp only; omega,by simp only; omega⟩
  ·exact⟨⟨by simp only; omega,hn.2,by simp only; omega,by simp only; omega,by simp only; omega,by simp only; omega⟩,by simp only; omega,by simp only; omega⟩
 ·have hg:=h.h g (List.mem_of_getElem? h1)
  obtain⟨g1,g2,g3,g4,g5,g6,g7⟩:=hg
  have hn:=sightNode_in g1 g2
  have hn':=sightNode_in g1 g3
  simp only [gChange,List.mem_cons,List.not_mem_nil,or_false] at h3
  rcases h3 with rfl | rfl
  ·exact⟨⟨by simp only; omega,hn.2,by simp only; omega,hn'.2,by simp only; omega,by simp only; omega⟩,by simp only; omega,by simp only; omega⟩
  ·exact⟨⟨by simp only; omega,hn'.2,by simp only; omega,hn.2,by simp only; omega,by simp only; omega⟩,by simp only; omega,by simp only; omega⟩
theorem net_mild {s:Scene} (h:SOk s):Mild (theNet s):=by
 have hN:=NN_eq (s:=s)
 have hl:=NN_le h
 have:(0:Int)≤(s.Days.length:Int)*s.Basin.Cells.length:=Int.mul_nonneg (by omega) (by omega)
 refine⟨by simp only [theNet]; omega,by simp only [theNet]; omega,?_,fun d hd=>?_,fun d hd=>?_⟩
 ·have:=lay_len h
  simp only [theNet,List.length_map]; omega
 ·obtain⟨y,hy,rfl⟩:=List.mem_map.1 hd
  exact(lay_ok h hy).1
 ·obtain⟨y,hy,rfl⟩:=List.mem_map.1 hd
  exact(lay_ok h hy).2.1
theorem node_of {s:Scene} (h:SOk s) {v:Nat} (h0:0 < v) (h1:v < NN s):∃ c d:Nat,c < s.Basin.Cells.length∧d < s.Days.length∧(v:Int)=node s c d:=by
 have hc:=h.b.c1
 have hN:=NN_eq (s:=s)
 have h2:(v - 1) < s.Days.length*s.Basin.Cells.length:=by
  have:((s.Days.length*s.Basin.Cells.length:Nat):Int)=(s.Days.length:Int)*s.Basin.Cells.length:=by simp
  omega
 refine⟨(v - 1) % s.Basin.Cells.length,(v - 1) / s.Basin.Cells.length,Nat.mod_lt _ (by omega),Nat.div_lt_of_lt_mul (by rwa [Nat.mul_comm]),?_⟩
 have h3:=Nat.div_add_mod (v - 1) s.Basin.Cells.length
 unfold node
 have h4:(((v - 1) / s.Basin.Cells.length:Nat):Int)*s.Basin.Cells.length+(((v - 1) % s.Basin.Cells.length:Nat):Int)=((v - 1:Nat):Int):=by
  rw [← Int.natCast_mul,← Int.natCast_add,Nat.mul_comm]
  exact congrArg _ h3
 omega
theorem deep_mem {s:Scene} {c d:Nat} (hc:c < s.Basin.Cells.length) (hd:d < s.Days.length) :
  (⟨0,(node s c d).toNat,s.Basin.Deep⟩:Ed)∈EE s∧(⟨(node s c d).toNat,0,0⟩:Ed)∈EE s∧(⟨0,node s c d,s.Basin.Deep⟩:Diff)∈(theNet s).Diffs∧(⟨node s c d,0,0⟩:Diff)∈(theNet s).Diffs:=by
 have h1:s.Days[d]?=some s.Days[d]:=List.getElem?_eq_getElem hd
 have h2:s.Basin.Cells[c]?=some s.Basin.Cells[c]:=List.getElem?_eq_getElem hc
 have e1:(⟨0,node s c d,s.Basin.Deep⟩:Diff)∈(theNet s).Diffs:=List.mem_map.2 ⟨(⟨0,node s c d,s.Basin.Deep⟩,⟨1,(s.Basin.Cells[c]).No,s.Days[d],false⟩),mem_lay.2 (.inl ⟨d,_,c,_,h1,h2,by simp [gCell]⟩),rfl⟩
 have e2:(⟨node s c d,0,0⟩:Diff)∈(theNet s).Diffs:=List.mem_map.2 ⟨(⟨node s c d,0,0⟩,⟨2,(s.Basin.Cells[c]).No,s.Days[d],false⟩),mem_lay.2 (.inl ⟨d,_,c,_,h1,h2,by simp [gCell]⟩),rfl⟩
 exact⟨List.mem_map.2 ⟨_,e1,rfl⟩,List.mem_map.2 ⟨_,e2,rfl⟩,e1,e2⟩
theorem edge_reach {E:List Ed} {v:Nat} {w:Int} (h:(⟨0,v,w⟩:Ed)∈E):Bm.Reach E (fun v=>decide (v=0)) v:=⟨0,0+1,0+w,by simp,Wk.nil.snoc h rfl⟩
theorem net_conn {s:Scene} (h:SOk s):Conn (theNet s):=by
 intro v hv
 by_cases h0:v=0
 ·subst h0; exact⟨0,0,0,by simp,.nil⟩
 ·obtain⟨c,d,hc,hd,e⟩:=node_of h (by omega) hv
  obtain rfl:(node s c d).toNat=v:=by omega
  exact edge_reach (deep_mem hc hd).1
theorem turn_conn {s:Scene} (h:SOk s):Conn (turnN (theNet s)):=by
 intro v hv
 by_cases h0:v=0
 ·subst h0; exact⟨0,0,0,by simp,.nil⟩
 ·obtain⟨c,d,hc,hd,e⟩:=node_of h (by omega) hv
  have h1:(⟨0,(node s c d).toNat,0⟩:Ed)∈edg (turnN (theNet s)).Diffs:=List.mem_map.2 ⟨turnD _,List.mem_map.2 ⟨_,(deep_mem hc hd).2.2.2,rfl⟩,rfl⟩
  obtain rfl:(node s c d).toNat=v:=by omega
  exact edge_reach h1
end Go.Proofs.YthlchdnbokhclaaGreat.Ql
namespace Go.Proofs.YthlchdnbokhclaaGreat.Ql
open Go Go.Proofs.YthlchdnbokhclaaGreat.Bm
theorem Gets.out {α:Type} {o:Option α} {a:α} (h:Gets o (·=a)):o=Option.some a:=by obtain⟨r,e,rfl⟩:=h; exact e
def rowsOf (s:Scene) (x:List Int):List (List Int):=(List.range s.Days.length).map fun d=>(x.drop (1+d*s.Basin.Cells.length)).take s.Basin.Cells.length
theorem NN_nat {s:Scene}:NN s=1+s.Days.length*s.Basin.Cells.length:=by
 have:=NN_eq (s:=s)
 have:((s.Days.length*s.Basin.Cells.length:Nat):Int)=(s.Days.length:Int)*s.Basin.Cells.length:=by simp
 omega
theorem mulN {a b n:Nat} (h:a < b):a*n+n≤b*n:=by
 have:=Nat.mul_le_mul_right n (show a+1≤b from h)
 rwa [Nat.add_mul,Nat.one_mul] at this
theorem rowsOf_row {s:Scene} {x:List Int} (hx:x.length=NN s) {d:Nat} (hd:d < s.Days.length):∃ r,(rowsOf s x)[d]?=some r∧r.length=s.Basin.Cells.length∧∀ c,c < s.Basin.Cells.length→r.getD c 0=x.getD (1+d*s.Basin.Cells.length+c) 0:=by
 refine⟨_,by simp only [rowsOf,List.getElem?_map,List.getElem?_range hd,Option.map_some]; rfl,?_,fun c hc=>?_⟩
 ·have:=mulN (n:=s.Basin.Cells.length) hd
  rw [NN_nat] at hx
  simp only [List.length_take,List.length_drop]; omega
 ·rw [List.getD_eq_getElem?_getD,List.getElem?_take_of_lt hc,List.getElem?_drop,← List.getD_eq_getElem?_getD]
theorem rows_at {s:Scene} {x:List Int} (hx:x.length=NN s) {c d:Int} (h0:0≤c) (h1:c < s.Basin.Cells.length) (h2:0≤d) (h3:d < s.Days.length):∃ r,ix (rowsOf s x) d=some r∧ix r c=some (x.getD (node s c d).toNat 0):=by
 obtain⟨r,e1,e2,e3⟩:=rowsOf_row hx (d:=d.toNat) (by omega)
 refine⟨r,ix_eq h2 e1,?_⟩
 rw [ix_getD 0 h0 (by omega),e3 _ (by omega)]
 congr 2
 unfold node
 have:((d.toNat*s.Basin.Cells.length:Nat):Int)=d*s.Basin.Cells.length:=by rw [Int.natCast_mul]; congr 1; omega
 omega
theorem f218_eq {K:Nat} {s:Scene} (h:SOk s) {l:Laid_basin} (hs:l.s=s) {x:List Int} (hx:x.length=NN s):f218 K l x=some (rowsOf s x):=by
 have h1:=h.b.c2
 have h2:=h.d.2.1
 subst hs
 have:Gets (f218 K l x) (·=rowsOf l.s x):=by
  unfold f218
  refine Gets.bind (P:=(·=rowsOf l.s x)) (rngN_gets (fun i v=>v=(List.range i.toNat).map fun d=>(x.drop (1+d*l.s.Basin.Cells.length)).take l.s.Basin.Cells.length) ⟨by omega,by omega⟩ rfl (fun i v nx h0 hi hv hnx=>?_) fun i v h0 hi h2 h3 hv=>Gets.some ?_) fun v hv=>Gets.some hv
  ·subst hv
   have e1:((i.toNat*l.s.Basin.Cells.length:Nat):Int)=i*l.s.Basin.Cells.length:=by rw [Int.natCast_mul]; congr 1; omega
   have e2:(i+1)*(l.s.Basin.Cells.length:Int)=i*l.s.Basin.Cells.length+l.s.Basin.Cells.length:=by rw [Int.add_mul,Int.one_mul]
   have h5:=mul_le (a:=i) (b:=l.s.Basin.Cells.length) (m:=16) (n:=12) (by omega) (by omega) (by omega) (by omega)
   have h6:=mulN (n:=l.s.Basin.Cells.length) (show i.toNat < l.s.Days.length by omega)
   rw [NN_nat] at hx
   rw [W_eq (n:=i*_) (by omega) (by omega),W_eq (n:=i+1) (by omega) (by omega),e2,W_eq (n:=1+i*_) (by omega) (by omega),W_eq (n:=i*_+_) (by omega) (by omega),W_eq (by omega) (by omega),sub_eq (by omega) (by omega) (by omega),Option.bind_some]
   have e3:∀ z:List Int,z.length≤193→f85 K z=some z:=fun z hz=>by unfold f85; rw [app_eq (by simp; omega)]; rfl
   rw [e3 _ (by have:=NN_le h; rw [NN_nat] at this; simp; omega),Option.bind_some,app_eq (by simp; omega),Option.bind_some]
   refine hnx _ ?_
   rw [show (i+1).toNat=i.toNat+1 by omega,List.range_succ,List.map_append,List.map_singleton]
   congr 3
   ·omega
   ·congr 1; omega
  ·rw [hv,h2 (by omega)]; rfl
 exact this.out
theorem f110_eq {K:Nat} {s:Scene} (h:SOk s) {x:List Int} (hx:x.length=NN s):f110 K s x=some (rowsOf s x):=by
 have h1:=h.b.c2
 have h2:=h.d.2.1
 have:Gets (f110 K s x) (·=rowsOf s x):=by
  unfold f110
  refine Gets.bind (P:=(·=rowsOf s x)) (rngN_gets (fun i v=>v=(List.range i.toNat).map fun d=>(x.drop (1+d*s.Basin.Cells.length)).take s.Basin.Cells.length) ⟨by omega,by omega⟩ rfl (fun i v nx h0 hi hv hnx=>?_) fun i v h0 hi h2 h3 hv=>Gets.some ?_) fun v hv=>Gets.some hv
  ·subst hv
   have e1:((i.toNat*s.Basin.Cells.length:Nat):Int)=i*s.Basin.Cells.length:=by rw [Int.natCast_mul]; congr 1; omega
   have h6:=mulN (n:=s.Basin.Cells.length) (show i.toNat < s.Days.length by omega)
   have hx':=hx
   rw [NN_nat] at hx'
   refine Gets.bind (P:=(·=(x.drop (1+i.toNat*s.Basin.Cells.length)).take s.Basin.Cells.length)) (rngN_gets (fun c v=>v=(x.drop (1+i.toNat*s.Basin.Cells.length)).take c.toNat) ⟨by omega,by omega⟩ rfl (fun c v nx h0' hc hv hnx=>?_) fun c v h0 hi h2 h3 hv=>Gets.some ?_) fun v hv=>?_
   ·subst hv
    have hin:=node_in (s:=s) (c:=c) (d:=i) h0' hc (by omega) (by omega)
    rw [f205_eq h.b (by omega) (by omega) h0' (by omega),Option.bind_some,ix_getD 0 (by omega) (by omega),Option.bind_some,app_eq (by simp; omega),Option.bind_some]
    refine hnx _ ?_
    rw [show (c+1).toNat=c.toNat+1 by omega,List.take_succ,List.getElem?_drop,show 1+i.toNat*s.Basin.Cells.length+c.toNat=(node s c i).toNat by unfold node; omega,List.getElem?_eq_getElem (by omega),List.getD_eq_getElem?_getD,List.getElem?_eq_getElem (by omega)]
    rfl
   ·rw [hv,h2 (by omega)]; rfl
   ·subst hv
    rw [app_eq (by simp; omega),Option.bind_some]
    refine hnx _ ?_
    rw [show (i+1).toNat=i.toNat+1 by omega,List.range_succ,List.map_append,List.map_singleton]
  ·rw [hv,h2 (by omega)]; rfl
 exact this.out
def gtQ (s:Scene) (r:List (List Int) × Int):Prop:=
 (¬ SOk s∧r=([],chk s))∨(SOk s∧¬ Fea (theNet s).Diffs∧r=([],41))∨(SOk s∧Fea (theNet s).Diffs∧∃ x,IsTop (NN s) (EE s) x∧r=(rowsOf s x,0))
def lsQ (s:Scene) (r:List (List Int) × Int):Prop:=
 (¬ SOk s∧r=([],chk s))∨(SOk s∧¬ Fea (theNet s).Diffs∧r=([],41))∨(SOk s∧Fea (theNet s).Diffs∧∃ x,IsBot (NN s) (EE s) x∧r=(rowsOf s x,0))
theorem chk_ne {s:Scene}:chk s≠0↔¬ SOk s:=not_congr chk_iff
theorem f29_eq {s:Scene} (hL:Lens s):Gets (f29 4611686018427387904 s) (gtQ s):=by
 unfold f29 f107
 refine Gets.bind (P:=gtQ s) (Gets.bind (f66_eq _ s hL) fun a ha=>Gets.cond (fun h=>Gets.some ?_) fun h=>?_) fun r hr=>Gets.some hr
 ·subst ha
  exact .inl ⟨chk_ne.1 (by simpa using h),rfl⟩
 ·subst ha
  have hS:=chk_iff.1 (show chk s=0 by simpa using h)
  refine Gets.bind (f102_eq _ s hS) fun l hl=>?_
  subst hl
  refine Gets.bind (f108_eq (n:=theNet s) (net_mild hS) (net_conn hS)) fun r hr=>?_
  obtain⟨x,e⟩:=r
  rcases hr with ⟨h1,h2⟩ | ⟨h1,h2,h3,h4⟩
  ·cases h2
   exact Gets.some (.inr (.inl ⟨hS,h1,rfl⟩))
  ·simp only at h2 h3
   subst h2
   simp only [bne_self_eq_false,cond_false]
   rw [f218_eq hS rfl h3.len,Option.bind_some]
   exact Gets.some (.inr (.inr ⟨hS,h1,x,h3,rfl⟩))
theorem f31_eq {s:Scene} (hL:Lens s):Gets (f31 4611686018427387904 s) (lsQ s):=by
 unfold f31 f107
 refine Gets.bind (P:=lsQ s) (Gets.bind (f66_eq _ s hL) fun a ha=>Gets.cond (fun h=>Gets.some ?_) fun h=>?_) fun r hr=>Gets.some hr
 ·subst ha
  exact .inl ⟨chk_ne.1 (by simpa using h),rfl⟩
 ·subst ha
  have hS:=chk_iff.1 (show chk s=0 by simpa using h)
  refine Gets.bind (f102_eq _ s hS) fun l hl=>?_
  subst hl
  refine Gets.bind (f111_eq (n:=theNet s) (net_mild hS) (turn_conn hS)) fun r hr=>?_
  obtain⟨x,e⟩:=r
  rcases hr with ⟨h1,h2⟩ | ⟨h1,h2,h3,h4⟩
  ·cases h2
   exact Gets.some (.inr (.inl ⟨hS,h1,rfl⟩))
  ·simp only at h2 h3
   subst h2
   simp only [bne_self_eq_false,cond_false]
   rw [f218_eq hS rfl h3.len,Option.bind_some]
   exact Gets.some (.inr (.inr ⟨hS,h1,x,h3,rfl⟩))
theorem f30_eq {s:Scene} (hL:Lens s):Gets (f30 4611686018427387904 s) (gtQ s):=by
 unfold f30
 refine Gets.bind (f76_eq _ s hL) fun a ha=>Gets.cond (fun h=>Gets.some ?_) fun h=>?_
 ·subst ha
  exact .inl ⟨chk_ne.1 (by simpa using h),rfl⟩
 ·subst ha
  have hS:=chk_iff.1 (show chk s=0 by simpa using h)
  refine Gets.bind (f103_eq _ s hS) fun l hl=>?_
  subst hl
  refine Gets.bind (f109_eq (n:=theNet s) (net_mild hS) (net_conn hS)) fun r hr=>?_
  obtain⟨x,e⟩:=r
  rcases hr with ⟨h1,h2⟩ | ⟨h1,h2,h3,h4⟩
  ·cases h2
   exact Gets.some (.inr (.inl ⟨hS,h1,rfl⟩))
  ·simp only at h2 h3
   subst h2
   simp only [bne_self_eq_false,cond_false]
   rw [f110_eq hS h3.len,Option.bind_some]
   exact Gets.some (.inr (.inr ⟨hS,h1,x,h3,rfl⟩))
theorem f32_eq {s:Scene} (hL:Lens s):Gets (f32 4611686018427387904 s) (lsQ s):=by
 unfold f32
 refine Gets.bind (f76_eq _ s hL) fun a ha=>Gets.cond (fun h=>Gets.some ?_) fun h=>?_
 ·subst ha
  exact .inl ⟨chk_ne.1 (by simpa using h),rfl⟩
 ·subst ha
  have hS:=chk_iff.1 (show chk s=0 by simpa using h)
  refine Gets.bind (f103_eq _ s hS) fun l hl=>?_
  subst hl
  refine Gets.bind (f112_eq (n:=theNet s) (net_mild hS) (turn_conn hS)) fun r hr=>?_
  obtain⟨x,e⟩:=r
  rcases hr with ⟨h1,h2⟩ | ⟨h1,h2,h3,h4⟩
  ·cases h2
   exact Gets.some (.inr (.inl ⟨hS,h1,rfl⟩))
  ·simp only at h2 h3
   subst h2
   simp only [bne_self_eq_false,cond_false]
   rw [f110_eq hS h3.len,Option.bind_some]
   exact Gets.some (.inr (.inr ⟨hS,h1,x,h3,rfl⟩))
end Go.Proofs.YthlchdnbokhclaaGreat.Ql
namespace Go.Proofs.YthlchdnbokhclaaGreat.Ql
open Go Go.Proofs.YthlchdnbokhclaaGreat.Bm
structure OkX (n:Net) (x:List Int):Prop where
 len:(x.length:Int)=n.Nodes
 bd:∀ v∈x,-1099511627776≤v∧v≤1099511627776
 z:x.getD 0 0=0
 pot:Pot (edg n.Diffs) (fun v=>x.getD v 0)
theorem getD_mem {x:List Int} {v:Nat} (h:v < x.length):x.getD v 0∈x:=by
 rw [List.getD_eq_getElem?_getD,List.getElem?_eq_getElem h]; exact List.getElem_mem h
theorem pot_iff {l:List Diff} {π:Nat→Int}:Pot (edg l) π↔∀ d∈l,π d.To.toNat - π d.From.toNat≤d.Most:=by
 constructor
 ·intro h d hd
  have:=h (E1 d) (List.mem_map.2 ⟨d,hd,rfl⟩)
  simp only [E1] at this; omega
 ·intro h e he
  obtain⟨d,hd,rfl⟩:=edg_mem he
  have:=h d hd
  simp only [E1]; omega
structure AlF (s:Scene) (f:List (List Int)):Prop where
 len:f.length=s.Days.length
 row:∀ r∈f,r.length=s.Basin.Cells.length
 pot:Pot (EE s) (fun v=>(0::f.flatten).getD v 0)
def cfQ (s:Scene) (f:List (List Int)) (r:Int):Prop:=(¬ SOk s→r=chk s)∧(SOk s→(AlF s f→r=0)∧(¬ AlF s f→r=53))
end Go.Proofs.YthlchdnbokhclaaGreat.Ql
namespace Go.Proofs.YthlchdnbokhclaaGreat.Ql
open Go Go.Proofs.YthlchdnbokhclaaGreat.Bm
def Rise (l:List Int):Prop:=∀ (j:Nat) d d',l[j]?=some d→l[j+1]?=some d'→d < d'
theorem Rise.lt {l:List Int} (h:Rise l) {i j:Nat} {d d':Int} (hij:i < j) (e:l[i]?=some d) (e':l[j]?=some d'):d < d':=by
 have hlt:=(List.getElem?_eq_some_iff.1 e').1
 have e1:l[i+1]?=some l[i+1]:=List.getElem?_eq_getElem (by omega)
 have h1:=h i d _ e e1
 have h2:=rising_lt h (j - (i+1)) (i+1) _ d' e1 (by rw [show i+1+(j - (i+1))=j by omega]; exact e')
 omega
theorem fidx_spec {α:Type} {p:α→Bool}:∀ {xs:List α} {i:Int},0≤i→0≤fidx p xs i→∃ (k:Nat) (x:α),fidx p xs i=i+k∧xs[k]?=some x∧p x=true
 | [],i,h,h'=>by simp [fidx] at h'
 | x::xs,i,h,h'=>by
  unfold fidx at h' ⊢
  cases hx:p x
  ·simp only [hx,Bool.false_eq_true,if_false] at h' ⊢
   obtain⟨k,y,h1,h2,h3⟩:=fidx_spec (xs:=xs) (i:=i+1) (by omega) h'
   exact⟨k+1,y,by rw [h1]; omega,by simpa using h2,h3⟩
  ·exact⟨0,x,by simp,rfl,hx⟩
theorem cellAt_spec {b:Basin} {no:Int} (h:0≤cellAt b no):∃ c,b.Cells[(cellAt b no).toNat]?=some c∧c.No=no:=by
 obtain⟨k,x,h1,h2,h3⟩:=fidx_spec (by omega) h
 refine⟨x,?_,by simpa using h3⟩
 unfold cellAt; rw [h1,show (0+(k:Int)).toNat=k by omega]; exact h2
theorem dayAt_spec {ds:List Int} {d:Int} (h:0≤dayAt ds d):ds[(dayAt ds d).toNat]?=some d:=by
 obtain⟨k,x,h1,h2,h3⟩:=fidx_spec (by omega) h
 unfold dayAt; rw [h1,show (0+(k:Int)).toNat=k by omega,h2,show x=d by simpa using h3]
theorem cls_len {b:Basin} {l:List Int} (h:Rise l) {k:Nat} (hk:k≤l.length) (h2:∀ j no,j < k→l[j]?=some no→0≤cellAt b no):k≤b.Cells.length:=by
 refine Classical.byContradiction fun hlt=>?_
 have hp:∀ i,i≤k - 1→(cellAt b (l.getD i 0)).toNat < b.Cells.length:=fun i hi=>by
  have e1:l[i]?=some (l.getD i 0):=by rw [List.getD_eq_getElem?_getD,List.getElem?_eq_getElem (by omega)]; rfl
  have:=h2 i _ (by omega) e1
  have:=cellAt_lt (b:=b) (no:=l.getD i 0)
  omega
 obtain⟨i,j,hij,hj,he⟩:=pigeon (n:=b.Cells.length) (m:=k - 1) (fun i=>(cellAt b (l.getD i 0)).toNat) hp (by omega)
 have e1:l[i]?=some (l.getD i 0):=by rw [List.getD_eq_getElem?_getD,List.getElem?_eq_getElem (by omega)]; rfl
 have e2:l[j]?=some (l.getD j 0):=by rw [List.getD_eq_getElem?_getD,List.getElem?_eq_getElem (by omega)]; rfl
 obtain⟨c,a1,a2⟩:=cellAt_spec (h2 i _ (by omega) e1)
 obtain⟨c',a3,a4⟩:=cellAt_spec (h2 j _ (by omega) e2)
 have he:(cellAt b (l.getD i 0)).toNat=(cellAt b (l.getD j 0)).toNat:=he
 rw [he,a3] at a1; cases a1
 have:=h.lt hij e1 e2
 omega
structure ClsOk (s:Scene) (l:List Int):Prop where
 pos:0 < l.length
 rise:Rise l
 all:∀ no∈l,0≤cellAt s.Basin no
theorem ClsOk.len {s:Scene} {l:List Int} (h:ClsOk s l):l.length≤s.Basin.Cells.length:=cls_len h.rise (Nat.le_refl _) fun j no _ e=>h.all no (List.mem_of_getElem? e)
def spots (s:Scene) (l:List Int) (day:Int):List Spot_basin:=l.map fun no=>⟨cellAt s.Basin no,dayAt s.Days day⟩
def spQ (s:Scene) (l:List Int) (day:Int) (r:List Spot_basin × Int):Prop:=
 (¬ SOk s∧r=([],chk s))∨(SOk s∧¬ (ClsOk s l∧0≤dayAt s.Days day)∧r=([],1))∨(SOk s∧ClsOk s l∧0≤dayAt s.Days day∧r=(spots s l day,0))
theorem f113_eq {K:Nat} {s:Scene} (hL:Lens s) {l:List Int} {day:Int} (hl:l.length≤9223372036854775807):Gets (f113 K s l day) (spQ s l day):=by
 unfold f113
 refine Gets.bind (f66_eq _ s hL) fun a ha=>Gets.cond (fun h=>Gets.some (.inl ⟨?_,by rw [ha]⟩)) fun h=>?_
 ·subst ha; exact chk_ne.1 (by simpa using h)
 subst ha
 have hS:=chk_iff.1 (show chk s=0 by simpa using h)
 have hc:=hS.b.c2
 rw [f194_eq K _ _ hL.d,Option.bind_some]
 refine Gets.bind (P:=fun v=>(v=true↔¬ (0≤dayAt s.Days day∧0 < l.length∧Rise l))) ?_ fun v hv=>Gets.cond (fun h'=>Gets.some (.inr (.inl ⟨hS,fun h2=>hv.1 h' ⟨h2.2,h2.1.pos,h2.1.rise⟩,rfl⟩))) fun h'=>?_
 ·refine Gets.cond (fun h1=>Gets.some ?_) fun h1=>Gets.cond (fun h2=>Gets.some ?_) fun h2=>Gets.bind (f174_eq K l hl) fun b hb=>Gets.some ?_
  ·simp only [decide_eq_true_eq] at h1
   simp only [true_iff]; omega
  ·simp only [beq_iff_eq] at h2
   simp only [true_iff]; omega
  ·simp only [decide_eq_false_iff_not] at h1
   have h2:¬ (l.length:Int)=0:=by simpa using h2
   rw [Bool.not_eq_true',← Bool.not_eq_true,hb]
   constructor
   ·intro h3 h4; exact h3 h4.2.2
   ·intro h3 h4; exact h3 ⟨by omega,by omega,h4⟩
 ·obtain⟨h1,h2,h3⟩:0≤dayAt s.Days day∧0 < l.length∧Rise l:=Classical.byContradiction fun h2=>by rw [hv.2 h2] at h'; cases h'
  refine Gets.jo (fun v=>v=spots s l day∧∀ no∈l,0≤cellAt s.Basin no) (fun v hv=>Gets.some (.inr (.inr ⟨hS,⟨h2,h3,hv.2⟩,h1,by rw [hv.1]⟩))) fun j hj=>rngL_gets (fun k v=>v=spots s (l.take k) day∧∀ (j:Nat) no,j < k→l[j]?=some no→0≤cellAt s.Basin no) hl ⟨rfl,fun j x h=>by omega⟩ (fun k x v nx hx ⟨hv,hi⟩ hnx=>?_) fun v ⟨h4,h5⟩=>hj _ ⟨by rw [h4,List.take_length],all_to h5⟩
  have hk:=(List.getElem?_eq_some_iff.1 hx).1
  rw [f221_eq K _ _ hL.c,Option.bind_some]
  refine Gets.cond (fun h4=>Gets.some (.inr (.inl ⟨hS,fun h5=>?_,rfl⟩))) fun h4=>?_
  ·have:=h5.1.all x (List.mem_of_getElem? hx)
   simp only [decide_eq_true_eq] at h4; omega
  ·have h4:0≤cellAt s.Basin x:=by simp only [decide_eq_false_iff_not] at h4; omega
   have hkc:=cls_len h3 (by omega) hi
   subst hv
   rw [app_eq (by simp [spots]; omega),Option.bind_some]
   refine hnx _ ⟨by rw [List.take_succ,hx]; simp [spots],fun j no hj e=>?_⟩
   by_cases hjk:j=k
   ·subst hjk; rw [hx] at e; cases e; exact h4
   ·exact hi j no (by omega) e
def spanAt (s:Scene) (x y:List Int) (p:Spot_basin):Span:=⟨x.getD (node s p.cell p.day).toNat 0,y.getD (node s p.cell p.day).toNat 0⟩
def spnQ (s:Scene) (sp:List Spot_basin) (r:List Span × Int):Prop:=
 (¬ Fea (theNet s).Diffs∧r=([],41))∨(Fea (theNet s).Diffs∧∃ x y,IsBot (NN s) (EE s) x∧IsTop (NN s) (EE s) y∧r=(sp.map (spanAt s x y),0))
def SpIn (s:Scene) (sp:List Spot_basin):Prop:=∀ p∈sp,0≤p.cell∧p.cell < s.Basin.Cells.length∧0≤p.day∧p.day < s.Days.length
theorem spots_in {s:Scene} {l:List Int} {day:Int} (h:ClsOk s l) (h1:0≤dayAt s.Days day):SpIn s (spots s l day):=by
 intro p hp
 obtain⟨no,hno,rfl⟩:=List.mem_map.1 hp
 exact⟨h.all no hno,cellAt_lt,h1,dayAt_lt⟩
theorem f114_eq {s:Scene} (hL:Lens s) (hS:SOk s) {sp:List Spot_basin} (hsp:SpIn s sp) (hl:sp.length≤1000):Gets (f114 4611686018427387904 s sp) (spnQ s sp):=by
 unfold f114
 refine Gets.bind (f31_eq hL) fun r hr=>?_
 obtain⟨lo,e⟩:=r
 refine Gets.cond (fun h=>?_) fun h=>Gets.bind (f29_eq hL) fun r' hr'=>?_
 ·rcases hr with ⟨h1,_⟩ | ⟨_,h1,h2⟩ | ⟨_,_,x,_,h2⟩
  ·exact absurd hS h1
  ·cases h2; exact Gets.some (.inl ⟨h1,rfl⟩)
  ·cases h2; simp at h
 ·obtain⟨hi,e'⟩:=r'
  rcases hr with ⟨h1,_⟩ | ⟨_,h1,h2⟩ | ⟨_,h1,x,hx,h2⟩
  ·exact absurd hS h1
  ·cases h2; simp at h
  ·rcases hr' with ⟨h3,_⟩ | ⟨_,h3,h4⟩ | ⟨_,_,y,hy,h4⟩
   ·exact absurd hS h3
   ·exact absurd h1 h3
   ·cases h2
    cases h4
    simp only [bne_self_eq_false,cond_false]
    refine Gets.bind (P:=(·=sp.map (spanAt s x y))) (rngL_gets (fun k v=>v=(sp.take k).map (spanAt s x y)) (by omega) rfl (fun k p v nx hp hv hnx=>?_) fun v hv=>Gets.some (by rw [hv,List.take_length])) fun v hv=>Gets.some (.inr ⟨h1,x,y,hx,hy,by rw [hv]⟩)
    have hk:=(List.getElem?_eq_some_iff.1 hp).1
    obtain⟨a1,a2,a3,a4⟩:=hsp p (List.mem_of_getElem? hp)
    obtain⟨r1,b1,b2⟩:=rows_at hx.len a1 a2 a3 a4
    obtain⟨r2,b3,b4⟩:=rows_at hy.len a1 a2 a3 a4
    subst hv
    simp only [b1,b2,b3,b4,Option.bind_some]
    rw [app_eq (by simp; omega),Option.bind_some]
    refine hnx _ ?_
    rw [List.take_succ,hp]; simp [spanAt]
def InS (s:Scene) (cell day:Int):Prop:=0≤cellAt s.Basin cell∧0≤dayAt s.Days day
def celQ (s:Scene) (cell day:Int) (r:Span × Int):Prop:=
 (¬ SOk s∧r=(⟨0,0⟩,chk s))∨(SOk s∧¬ InS s cell day∧r=(⟨0,0⟩,1))∨(SOk s∧InS s cell day∧¬ Fea (theNet s).Diffs∧r=(⟨0,0⟩,41)) ∨
 (SOk s∧InS s cell day∧Fea (theNet s).Diffs∧∃ x y,IsBot (NN s) (EE s) x∧IsTop (NN s) (EE s) y∧r=(⟨x.getD (sightNode s cell day).toNat 0,y.getD (sightNode s cell day).toNat 0⟩,0))
theorem celQ.uniq {s:Scene} {c d:Int} {r r':Span × Int} (h:celQ s c d r) (k:celQ s c d r'):r=r':=by
 rcases h with ⟨h1,h2⟩ | ⟨h1,h2,h3⟩ | ⟨h1,h2,h3,h4⟩ | ⟨h1,h2,h3,x,y,h4,h5,h6⟩ <;> rcases k with ⟨k1,k2⟩ | ⟨k1,k2,k3⟩ | ⟨k1,k2,k3,k4⟩ | ⟨k1,k2,k3,x',y',k4,k5,k6⟩ <;> first | exact absurd ‹SOk s› ‹¬ SOk s› | exact absurd ‹InS s c d› ‹¬ InS s c d› | exact absurd ‹Fea _› ‹¬ Fea _› | (simp_all; done) | skip
 rw [h6,k6,h4.uniq k4,h5.uniq k5]
theorem cls_one {s:Scene} {c:Int}:ClsOk s [c]↔0≤cellAt s.Basin c:=by
 constructor
 ·intro h; exact h.all c (by simp)
 ·intro h
  refine⟨by simp,fun j d d' e e'=>?_,fun no hno=>?_⟩
  ·cases j <;> simp at e'
  ·simp at hno; subst hno; exact h
theorem f33_eq {s:Scene} (hL:Lens s) {c d:Int}:Gets (f33 4611686018427387904 s c d) (celQ s c d):=by
 unfold f33
 refine Gets.bind (f113_eq hL (l:=[c]) (by simp)) fun r hr=>?_
 obtain⟨sp,e⟩:=r
 rcases hr with ⟨h1,h2⟩ | ⟨h1,h2,h3⟩ | ⟨h1,h2,h3,h4⟩
 ·cases h2
  dsimp only
  rw [show (chk s != 0)=true by simpa using chk_ne.2 h1]
  exact Gets.some (.inl ⟨h1,rfl⟩)
 ·cases h3
  exact Gets.some (.inr (.inl ⟨h1,fun h'=>h2 ⟨cls_one.2 h'.1,h'.2⟩,rfl⟩))
 ·cases h4
  have hin:InS s c d:=⟨cls_one.1 h2,h3⟩
  simp only [bne_self_eq_false,cond_false]
  refine Gets.bind (f114_eq hL h1 (spots_in h2 h3) (by simp [spots])) fun r hr=>?_
  rcases hr with ⟨h5,h6⟩ | ⟨h5,x,y,h6,h7,h8⟩
  ·subst h6
   exact Gets.some (.inr (.inr (.inl ⟨h1,hin,h5,rfl⟩)))
  ·subst h8
   exact Gets.some (.inr (.inr (.inr ⟨h1,hin,h5,x,y,h6,h7,rfl⟩)))
theorem f115_eq {K:Nat} {s:Scene} (hL:Lens s) {c d:Int}:Gets (f115 K s c d) fun r=>(¬ SOk s→r=chk s)∧(SOk s→(¬ InS s c d→r=1)∧(InS s c d→r=0)):=by
 unfold f115
 refine Gets.bind (f76_eq _ s hL) fun a ha=>Gets.cond (fun h=>Gets.some ?_) fun h=>?_
 ·subst ha
  have:=chk_ne.1 (show chk s≠0 by simpa using h)
  exact⟨fun _=>rfl,fun h'=>absurd h' this⟩
 subst ha
 have hS:=chk_iff.1 (show chk s=0 by simpa using h)
 rw [f116_eq K _ _ hL.c,Option.bind_some]
 refine Gets.bind (P:=fun v=>(v=true↔¬ InS s c d)) (Gets.cond (fun h1=>Gets.some ?_) fun h1=>?_) fun v hv=>Gets.cond (fun h2=>Gets.some ⟨fun h'=>absurd hS h',fun _=>⟨fun _=>rfl,fun h3=>absurd h3 (hv.1 h2)⟩⟩) fun h2=>Gets.some ⟨fun h'=>absurd hS h',fun _=>⟨fun h3=>(by rw [hv.2 h3] at h2; cases h2),fun _=>rfl⟩⟩
 ·simp only [decide_eq_true_eq] at h1
  simp only [true_iff,InS]; omega
 ·simp only [decide_eq_false_iff_not] at h1
  rw [f117_eq K _ _ hL.d,Option.bind_some]
  refine Gets.some ?_
  simp only [decide_eq_true_eq,InS]; omega
theorem f34_eq {s:Scene} (hL:Lens s) {c d:Int}:Gets (f34 4611686018427387904 s c d) (celQ s c d):=by
 unfold f34
 refine Gets.bind (f115_eq hL) fun e he=>?_
 by_cases hS:SOk s
 ·have he:=he.2 hS
  by_cases hin:InS s c d
  ·rw [he.2 hin]
   simp only [bne_self_eq_false,cond_false]
   refine Gets.bind (f32_eq hL) fun r hr=>?_
   rcases hr with ⟨h1,_⟩ | ⟨_,h1,h2⟩ | ⟨_,h1,x,hx,h2⟩
   ·exact absurd hS h1
   ·subst h2; exact Gets.some (.inr (.inr (.inl ⟨hS,hin,h1,rfl⟩)))
   ·subst h2
    simp only [bne_self_eq_false,cond_false]
    refine Gets.bind (f30_eq hL) fun r hr=>?_
    rcases hr with ⟨h3,_⟩ | ⟨_,h3,h4⟩ | ⟨_,_,y,hy,h4⟩
    ·exact absurd hS h3
    ·exact absurd h1 h3
    ·subst h4
     obtain⟨r1,b1,b2⟩:=rows_at hx.len hin.1 cellAt_lt hin.2 dayAt_lt
     obtain⟨r2,b3,b4⟩:=rows_at hy.len hin.1 cellAt_lt hin.2 dayAt_lt
     simp only [f116_eq _ _ _ hL.c,f117_eq _ _ _ hL.d,Option.bind_some,b1,b2,b3,b4]
     exact Gets.some (.inr (.inr (.inr ⟨hS,hin,h1,x,y,hx,hy,rfl⟩)))
  ·rw [he.1 hin]
   exact Gets.some (.inr (.inl ⟨hS,hin,rfl⟩))
 ·rw [he.1 hS,show (chk s != 0)=true by simpa using chk_ne.2 hS]
  exact Gets.some (.inl ⟨hS,rfl⟩)
end Go.Proofs.YthlchdnbokhclaaGreat.Ql
namespace Go.Proofs.YthlchdnbokhclaaGreat.Ql
open Go Go.Proofs.YthlchdnbokhclaaGreat.Bm
def pth:List Diff→Int→Int→Option (Int × Int)
 | [],a,x=>some (a,x)
 | d::ds,a,x=>if d.From=a then pth ds d.To (x+d.Most) else none
def AtP (l:List Diff) (ks:List Int) (ds:List Diff):Prop:=ks.length=ds.length∧∀ (j:Nat) k,ks[j]?=some k→0≤k∧∃ d,l[k.toNat]?=some d∧ds[j]?=some d
def walkR (ds:List Diff) (a b:Int) (r:Int × Bool):Prop:=(∀ e x,pth ds a 0=some (e,x)→r=(x,e==b))∧(pth ds a 0=none→r=(0,false))
def PathOk (n:Net) (ds:List Diff) (a b most:Int):Prop:=ds.length < n.Nodes∧∃ x,pth ds a 0=some (b,x)∧x≤most
end Go.Proofs.YthlchdnbokhclaaGreat.Ql
namespace Go.Proofs.YthlchdnbokhclaaGreat.Ql
open Go Go.Proofs.YthlchdnbokhclaaGreat.Bm
def pathQ (n:Net) (a b:Int) (r:List Int × Bool × Int):Prop:=
 (¬ Fea n.Diffs∧r=([],false,41))∨(Fea n.Diffs∧r.2=(true,0)∧∃ t ds,fromQ n a (t,-1)∧AtP n.Diffs r.1 ds∧(ds.length:Int) < n.Nodes∧pth ds a 0=some (b,t.long.getD b.toNat 0))
end Go.Proofs.YthlchdnbokhclaaGreat.Ql
namespace Go.Proofs.YthlchdnbokhclaaGreat.Ql
open Go Go.Proofs.YthlchdnbokhclaaGreat.Bm
theorem Rise.inj {l:List Int} (h:Rise l) {i j:Nat} {d:Int} (e:l[i]?=some d) (e':l[j]?=some d):i=j:=by
 rcases Nat.lt_trichotomy i j with h1 | h1 | h1
 ·have:=h.lt h1 e e'; omega
 ·exact h1
 ·have:=h.lt h1 e' e; omega
def Named (s:Scene) (l:List Reason) (ds:List Diff):Prop:=l.length=ds.length∧∀ (j:Nat) r,l[j]?=some r→∃ d,ds[j]?=some d∧(d,r)∈lay s
def snode (s:Scene) (cell day:Int):Int:=sightNode s cell day
def Prf (s:Scene) (cell day water:Int) (most:Bool) (l:List Reason):Prop:=
 ∃ ds,Named s l ds∧PathOk (theNet s) ds (if most then 0 else sightNode s cell day) (if most then sightNode s cell day else 0) (if most then water else -(if -1152921504606846976 > water then -1152921504606846976 else water))
def prfQ (s:Scene) (cell day water:Int) (most:Bool) (l:List Reason) (r:Int):Prop:=
 (¬ SOk s→r=chk s)∧(SOk s→(¬ InS s cell day→r=1)∧(InS s cell day→(Prf s cell day water most l→r=0)∧(¬ Prf s cell day water most l→r=43)))
def PlR (s:Scene) (l:List Reason) (ks:List Int):Prop:=ks.length=l.length∧∀ (j:Nat) k,ks[j]?=some k→0≤k∧∃ d r,(lay s)[k.toNat]?=some (d,r)∧l[j]?=some r
end Go.Proofs.YthlchdnbokhclaaGreat.Ql
namespace Go.Proofs.YthlchdnbokhclaaGreat.Ql
open Go Go.Proofs.YthlchdnbokhclaaGreat.Bm
def proofQ (s:Scene) (c d:Int) (m:Bool) (r:List Reason × Int):Prop:=
 (¬ SOk s∧r=([],chk s))∨(SOk s∧¬ InS s c d∧r=([],1))∨(SOk s∧InS s c d∧¬ Fea (theNet s).Diffs∧r=([],41)) ∨
 (SOk s∧InS s c d∧Fea (theNet s).Diffs∧r.2=0∧r.1.length≤200∧∀ x y,IsBot (NN s) (EE s) x→IsTop (NN s) (EE s) y→Prf s c d (if m then y.getD (sightNode s c d).toNat 0 else x.getD (sightNode s c d).toNat 0) m r.1)
end Go.Proofs.YthlchdnbokhclaaGreat.Ql
namespace Go.Proofs.YthlchdnbokhclaaGreat.Ql
open Go Go.Proofs.YthlchdnbokhclaaGreat.Bm
def val (f:List (List Int)) (d c:Nat):Int:=(f.getD d []).getD c 0
structure Shp (s:Scene) (f:List (List Int)):Prop where
 len:f.length=s.Days.length
 row:∀ r∈f,r.length=s.Basin.Cells.length
structure AlW (s:Scene) (f:List (List Int)):Prop where
 shp:Shp s f
 deep:∀ d c:Nat,d < s.Days.length→c < s.Basin.Cells.length→0≤val f d c∧val f d c≤s.Basin.Deep
 pair:∀ (d:Nat) p,d < s.Days.length→p∈s.Basin.Pairs→alike (cellOf s.Basin p.a0) (cellOf s.Basin p.a1)=true→val f d p.a1.toNat - val f d p.a0.toNat≤moreOf s.Basin p∧val f d p.a0.toNat - val f d p.a1.toNat≤lessOf s.Basin p
 sight:∀ g∈s.Sights,g.Lo≤val f (dayAt s.Days g.Day).toNat (cellAt s.Basin g.Cell).toNat∧val f (dayAt s.Days g.Day).toNat (cellAt s.Basin g.Cell).toNat≤g.Hi
 change:∀ g∈s.Changes,g.Lo≤val f (dayAt s.Days g.To).toNat (cellAt s.Basin g.Cell).toNat - val f (dayAt s.Days g.From).toNat (cellAt s.Basin g.Cell).toNat∧val f (dayAt s.Days g.To).toNat (cellAt s.Basin g.Cell).toNat - val f (dayAt s.Days g.From).toNat (cellAt s.Basin g.Cell).toNat≤g.Hi
theorem pot_lay {s:Scene} {π:Nat→Int}:Pot (EE s) π↔∀ y∈lay s,π y.1.To.toNat - π y.1.From.toNat≤y.1.Most:=by
 rw [pot_iff]
 constructor
 ·intro h y hy; exact h y.1 (List.mem_map.2 ⟨y,hy,rfl⟩)
 ·intro h d hd
  obtain⟨y,hy,rfl⟩:=List.mem_map.1 hd
  exact h y hy
instance {s:Scene} {c d:Int}:Decidable (InS s c d):=by unfold InS; infer_instance
end Go.Proofs.YthlchdnbokhclaaGreat.Ql
namespace Go.Proofs.YthlchdnbokhclaaGreat.Ql
open Go Go.Proofs.YthlchdnbokhclaaGreat.Bm
end Go.Proofs.YthlchdnbokhclaaGreat.Ql
namespace Go.Proofs.YthlchdnbokhclaaGreat.Ql
open Go Go.Proofs.YthlchdnbokhclaaGreat.Bm
structure Small (s:Scene):Prop where
 cd:s.Basin.Cells.length*s.Days.length≤15
 p:s.Basin.Pairs.length≤8
 g:s.Sights.length≤10
 h:s.Changes.length≤10
theorem f106_eq {K:Nat} {s:Scene} (hS:SOk s):Gets (f106 K s) fun r=>(r=true↔Small s):=by
 have h1:=hS.b.c2
 have h2:=hS.d.2.1
 have:=mul_le (a:=s.Basin.Cells.length) (b:=s.Days.length) (m:=12) (n:=16) (by omega) (by omega) (by omega) (by omega)
 unfold f106
 rw [W_eq (by omega) (by omega)]
 refine Gets.some ?_
 have e:((s.Basin.Cells.length*s.Days.length:Nat):Int)=(s.Basin.Cells.length:Int)*s.Days.length:=by simp
 simp only [Bool.and_eq_true,decide_eq_true_eq]
 constructor
 ·rintro⟨a,b,c,d⟩; exact⟨by omega,by omega,by omega,by omega⟩
 ·rintro⟨a,b,c,d⟩; exact⟨by omega,by omega,by omega,by omega⟩
theorem f106_any {K:Nat} {s:Scene}:Gets (f106 K s) fun _=>True:=Gets.some trivial
theorem f36_eq {K:Nat} {s:Scene} (hL:Lens s):Gets (f36 K s) fun r=>(r=true↔SOk s∧Small s):=by
 unfold f36
 refine Gets.bind (P:=fun r=>(r=true↔SOk s∧Small s)) (Gets.bind (f106_any.and (P:=fun _=>True) (Q:=fun r=>SOk s→(r=true↔Small s)) ?_) fun b hb=>Gets.cond (fun h=>Gets.bind (f66_eq _ s hL) fun a ha=>Gets.cond (fun h'=>Gets.bind (f76_eq _ s hL) fun a' ha'=>Gets.some ?_) fun h'=>Gets.some ?_) fun h=>Gets.some ?_) fun r hr=>Gets.some hr
 ·by_cases hS:SOk s
  ·exact(f106_eq hS).mono fun r hr _=>hr
  ·exact Gets.some fun h=>absurd h hS
 ·subst ha ha'
  have h0:chk s=0:=by simpa using h'
  have hS:=chk_iff.1 h0
  rw [h0]
  simp only [beq_self_eq_true,true_iff]
  exact⟨hS,(hb.2 hS).1 h⟩
 ·subst ha
  have h0:chk s≠0:=by simpa using h'
  simp only [Bool.false_eq_true,false_iff]
  exact fun h2=>chk_ne.1 h0 h2.1
 ·simp only [Bool.false_eq_true,false_iff]
  intro h2
  have:=(hb.2 h2.1).2 h2.2
  rw [h] at this; cases this
end Go.Proofs.YthlchdnbokhclaaGreat.Ql

import Derived.Laws.AppendOwn
import Derived.Laws.OwnMore
import Derived.Below
import Derived.ScopeJumps
set_option linter.all false
namespace Go.Proofs.YthlchdnbokhclaaGreat.Ql
open Go
inductive AV where
 | undef
 | sc (v:Value)
 | agg (cs:List AV)
 | tup (vs:List AV)
 | lst (sz:Nat) (rows:List (List AV))
 | ipt (cells:List AV) (off:Nat)
 | hnd (id:Nat)
 | ptr (id off:Nat)
 | eptr (id sz row off:Nat)
 | vw (id sz lo hi c:Nat)
 | fz (x:AV)
 | fn (f:FuncId) (caps:List AV)
 | ifc (t:TypeId) (v:AV)
mutual
def RI (w:World) (ow:Nat→Prop):AV→Value→Prop
 | .undef,_=>True
 | .sc v',v=>v=v'
 | .agg cs,v=>∃ vs,v=.agg vs∧RIv w ow cs vs.toList
 | .tup cs,v=>∃ vs,v=.tuple vs∧RIv w ow cs vs.toList
 | .lst sz rows,v=>∃ a cap,v=.slice a rows.length cap∧rows.length≤cap∧(rows=[]∨∃ b off,a=some ⟨b,off,none⟩∧b < w.heap.size∧¬ ow b∧RIr w ow sz b rows off)
 | .ipt cells off,v=>∃ b p,v=.pointer (some ⟨b,p+off,none⟩)∧b < w.heap.size∧¬ ow b∧RIc w ow b cells p
 | .fn f caps,v=>∃ vs,v=.func (.func f) #[] vs∧RIv w ow caps vs.toList
 | .ifc t x,v=>∃ y,v=.iface t y∧RI w ow x y
 | .fz x,v=>RI w ow x v
 | .hnd _,_ | .ptr _ _,_ | .eptr _ _ _ _,_ | .vw _ _ _ _ _,_=>False
def RIc (w:World) (ow:Nat→Prop) (b:Nat):List AV→Nat→Prop
 | [],_=>True
 | x::xs,p=>(∃ v,w.cell? ⟨b,p,none⟩=some v∧RI w ow x v∧v.oneCell'=true)∧RIc w ow b xs (p+1)
def RIr (w:World) (ow:Nat→Prop) (sz b:Nat):List (List AV)→Nat→Prop
 | [],_=>True
 | r::rs,off=>r.length=sz∧RIc w ow b r off∧RIr w ow sz b rs (off+sz)
def RIv (w:World) (ow:Nat→Prop):List AV→List Value→Prop
 | [],vs=>vs=[]
 | x::xs,vs=>∃ v r,vs=v::r∧RI w ow x v∧RIv w ow xs r
end
def Keeps (w:World) (ow:Nat→Prop) (w':World) (ow':Nat→Prop):Prop:=
 w.heap.size≤w'.heap.size∧∀ b,b < w.heap.size→¬ ow b→¬ ow' b∧w'.heap[b]?=w.heap[b]?
theorem Keeps.refl (w:World) (ow:Nat→Prop):Keeps w ow w ow:=⟨Nat.le_refl _,fun _ _ h=>⟨h,rfl⟩⟩
theorem cell_lt {w:World} {a:Addr} {v:Value} (h:w.cell? a=some v):a.block < w.heap.size:=World.block_lt_of_cell? w a h
section mono
variable {w w':World} {ow ow':Nat→Prop}
mutual
theorem RI_mono (h:Keeps w ow w' ow'):∀ (x:AV) (v:Value),RI w ow x v→RI w' ow' x v
 | .undef,_,_=>by simp [RI]
 | .sc _,_,hx=>by simpa [RI] using hx
 | .agg cs,v,hx=>by
  simp only [RI] at hx ⊢
  obtain⟨vs,rfl,hv⟩:=hx
  exact⟨vs,rfl,RIv_mono h cs vs.toList hv⟩
 | .tup cs,v,hx=>by
  simp only [RI] at hx ⊢
  obtain⟨vs,rfl,hv⟩:=hx
  exact⟨vs,rfl,RIv_mono h cs vs.toList hv⟩
 | .lst sz rows,v,hx=>by
  simp only [RI] at hx ⊢
  obtain⟨a,cap,rfl,hc,hr⟩:=hx
  refine⟨a,cap,rfl,hc,?_⟩
  rcases hr with hr | ⟨b,off,ha,hb,ho,hr⟩
  ·exact .inl hr
  ·obtain⟨n1,e1⟩:=h.2 b hb ho
   exact .inr ⟨b,off,ha,Nat.lt_of_lt_of_le hb h.1,n1,RIr_mono h e1 rows off hr⟩
 | .ipt cells off,v,hx=>by
  simp only [RI] at hx ⊢
  obtain⟨b,p,rfl,hb,ho,hr⟩:=hx
  obtain⟨n1,e1⟩:=h.2 b hb ho
  exact⟨b,p,rfl,Nat.lt_of_lt_of_le hb h.1,n1,RIc_mono h e1 cells p hr⟩
 | .fn f caps,v,hx=>by
  simp only [RI] at hx ⊢
  obtain⟨vs,rfl,hv⟩:=hx
  exact⟨vs,rfl,RIv_mono h caps vs.toList hv⟩
 | .ifc t x,v,hx=>by
  simp only [RI] at hx ⊢
  obtain⟨y,rfl,hv⟩:=hx
  exact⟨y,rfl,RI_mono h x y hv⟩
 | .hnd _,_,hx=>by simp [RI] at hx
 | .ptr _ _,_,hx=>by simp [RI] at hx
 | .eptr _ _ _ _,_,hx=>by simp [RI] at hx
 | .vw _ _ _ _ _,_,hx=>by simp [RI] at hx
 | .fz x,v,hx=>by simp only [RI] at hx ⊢; exact RI_mono h x v hx
theorem RIc_mono (h:Keeps w ow w' ow') {b:Nat} (e:w'.heap[b]?=w.heap[b]?):∀ (xs:List AV) (p:Nat),RIc w ow b xs p→RIc w' ow' b xs p
 | [],_,_=>by simp [RIc]
 | x::xs,p,hx=>by
  simp only [RIc] at hx ⊢
  obtain⟨⟨v,hc,hv,h1⟩,hr⟩:=hx
  exact⟨⟨v,(World.cell?_of_block (w:=w) e).trans hc,RI_mono h x v hv,h1⟩,RIc_mono h e xs (p+1) hr⟩
theorem RIr_mono (h:Keeps w ow w' ow') {sz b:Nat} (e:w'.heap[b]?=w.heap[b]?):∀ (rs:List (List AV)) (off:Nat),RIr w ow sz b rs off→RIr w' ow' sz b rs off
 | [],_,_=>by simp [RIr]
 | r::rs,off,hx=>by
  simp only [RIr] at hx ⊢
  exact⟨hx.1,RIc_mono h e r off hx.2.1,RIr_mono h e rs (off+sz) hx.2.2⟩
theorem RIv_mono (h:Keeps w ow w' ow'):∀ (xs:List AV) (vs:List Value),RIv w ow xs vs→RIv w' ow' xs vs
 | [],vs,hx=>by simpa [RIv] using hx
 | x::xs,vs,hx=>by
  simp only [RIv] at hx ⊢
  obtain⟨v,r,rfl,hv,hr⟩:=hx
  exact⟨v,r,rfl,RI_mono h x v hv,RIv_mono h xs r hr⟩
end
end mono
section get
variable {w:World} {ow:Nat→Prop}
theorem RIc_get {b:Nat}:∀ {xs:List AV} {p k:Nat} {x:AV},RIc w ow b xs p→xs[k]?=some x→∃ v,w.cell? ⟨b,p+k,none⟩=some v∧RI w ow x v∧v.oneCell'=true
 | [],_,_,_,_,hk=>by simp at hk
 | y::ys,p,0,x,h,hk=>by
  simp only [RIc] at h; simp at hk; subst hk; simpa using h.1
 | y::ys,p,k+1,x,h,hk=>by
  simp only [RIc] at h
  have:=RIc_get (k:=k) h.2 (by simpa using hk)
  rwa [show p+1+k=p+(k+1) by omega] at this
theorem RIc_of {b:Nat}:∀ {xs:List AV} {p:Nat},(∀ k x,xs[k]?=some x→∃ v,w.cell? ⟨b,p+k,none⟩=some v∧RI w ow x v∧v.oneCell'=true)→RIc w ow b xs p
 | [],_,_=>by simp [RIc]
 | y::ys,p,h=>by
  simp only [RIc]
  refine⟨by simpa using h 0 y rfl,RIc_of fun k x hk=>?_⟩
  have:=h (k+1) x (by simpa using hk)
  rwa [show p+(k+1)=p+1+k by omega] at this
theorem RIr_get {sz b:Nat}:∀ {rs:List (List AV)} {off i:Nat} {r:List AV},RIr w ow sz b rs off→rs[i]?=some r→r.length=sz∧RIc w ow b r (off+i*sz)
 | [],_,_,_,_,hk=>by simp at hk
 | y::ys,off,0,r,h,hk=>by
  simp only [RIr] at h; simp at hk; subst hk; simpa using ⟨h.1,h.2.1⟩
 | y::ys,off,i+1,r,h,hk=>by
  simp only [RIr] at h
  have:=RIr_get (i:=i) h.2.2 (by simpa using hk)
  rwa [show off+sz+i*sz=off+(i+1)*sz by rw [Nat.add_mul]; omega] at this
theorem RIr_of {sz b:Nat}:∀ {rs:List (List AV)} {off:Nat},(∀ (i:Nat) (r:List AV),rs[i]?=some r→r.length=sz∧RIc w ow b r (off+i*sz))→RIr w ow sz b rs off
 | [],_,_=>by simp [RIr]
 | y::ys,off,h=>by
  simp only [RIr]
  refine⟨(h 0 y rfl).1,by simpa using (h 0 y rfl).2,RIr_of fun i r hk=>?_⟩
  have:=h (i+1) r (by simpa using hk)
  rwa [show off+(i+1)*sz=off+sz+i*sz by rw [Nat.add_mul]; omega] at this
theorem RIv_length:∀ {xs:List AV} {vs:List Value},RIv w ow xs vs→vs.length=xs.length
 | [],vs,h=>by simp only [RIv] at h; simp [h]
 | x::xs,vs,h=>by
  simp only [RIv] at h; obtain⟨v,r,rfl,_,hr⟩:=h; simp [RIv_length hr]
theorem RIv_get:∀ {xs:List AV} {vs:List Value} {k:Nat} {x:AV},RIv w ow xs vs→xs[k]?=some x→∃ v,vs[k]?=some v∧RI w ow x v
 | [],_,_,_,_,hk=>by simp at hk
 | y::ys,vs,k,x,h,hk=>by
  simp only [RIv] at h; obtain⟨v,r,rfl,hv,hr⟩:=h
  cases k with
  | zero=>simp at hk; subst hk; exact⟨v,rfl,hv⟩
  | succ k=>simpa using RIv_get hr (by simpa using hk)
end get
inductive KO where
 | box (b:Nat)
 | arr (v:Value)
def vblk:Value→Option Nat
 | .map r=>r
 | .slice (some a) _ _=>some a.block
 | _=>none
def KO.blk:KO→Option Nat
 | .box b=>some b
 | .arr v=>vblk v
theorem vblk_own {w:World} {base:Nat} {e:TypeId} {sz:Nat} {v:Value} {n:Nat} {xs:List Value} (h:w.ownsRow base e sz v n xs):vblk v=v.ownBlock:=by
 rcases h.2 with ⟨rfl,_⟩ | ⟨g,cap,cur,rfl,_⟩ <;> rfl
inductive AO where
 | box (cells:List AV)
 | arr (e sz:Nat) (rows:List (List AV))
 | mp (es:List (Value × Value))
abbrev Kap:=Nat→Option KO
def owned (κ:Kap) (b:Nat):Prop:=∃ id k,κ id=some k∧k.blk=some b
mutual
def R (w:World) (ow:Nat→Prop) (κ:Kap):AV→Value→Prop
 | .hnd id,v=>v.oneCell'=true∧∀ k,κ id=some k→k=.arr v
 | .ptr id off,v=>v.oneCell'=true∧∀ k,κ id=some k→∃ b,k=.box b∧v=.pointer (some ⟨b,off,none⟩)
 | .eptr id sz i j,v=>v.oneCell'=true∧∀ k,κ id=some k→∃ u b,k=.arr u∧u.ownBlock=some b∧v=.pointer (some ⟨b,i*sz+j,none⟩)
 | .fz x,v=>RI w ow (.fz x) v
 | .vw id sz lo hi c,v=>v.oneCell'=true∧∀ k,κ id=some k→∃ a n cap,k=.arr (.slice a n cap)∧lo≤hi∧hi≤c∧c≤cap∧∃ ad,v=.slice ad (hi - lo) (cap - lo)∧(lo < cap→ad=a.map (·.add (lo*sz)))∧(lo=0→ad=a)
 | .agg cs,v=>∃ vs,v=.agg vs∧Rv w ow κ cs vs.toList
 | .tup cs,v=>∃ vs,v=.tuple vs∧Rv w ow κ cs vs.toList
 | .fn f caps,v=>∃ vs,v=.func (.func f) #[] vs∧Rv w ow κ caps vs.toList
 | .ifc t x,v=>∃ y,v=.iface t y∧R w ow κ x y
 | .undef,_=>True
 | .sc v',v=>v=v'
 | .lst sz rows,v=>RI w ow (.lst sz rows) v
 | .ipt cells off,v=>RI w ow (.ipt cells off) v
def Rv (w:World) (ow:Nat→Prop) (κ:Kap):List AV→List Value→Prop
 | [],vs=>vs=[]
 | x::xs,vs=>∃ v r,vs=v::r∧R w ow κ x v∧Rv w ow κ xs r
end
section R
variable {w w':World} {ow ow':Nat→Prop} {κ κ':Kap}
mutual
theorem R_mono (h:Keeps w ow w' ow') (hk:∀ id k,κ' id=some k→κ id=some k):∀ (x:AV) (v:Value),R w ow κ x v→R w' ow' κ' x v
 | .hnd id,v,hx=>by simp only [R] at hx ⊢; exact⟨hx.1,fun k hk'=>hx.2 k (hk id k hk')⟩
 | .ptr id off,v,hx=>by simp only [R] at hx ⊢; exact⟨hx.1,fun k hk'=>hx.2 k (hk id k hk')⟩
 | .eptr id sz i j,v,hx=>by simp only [R] at hx ⊢; exact⟨hx.1,fun k hk'=>hx.2 k (hk id k hk')⟩
 | .fz x,v,hx=>by simp only [R] at hx ⊢; exact RI_mono h _ _ hx
 | .vw id _ _ _ _,v,hx=>by simp only [R] at hx ⊢; exact⟨hx.1,fun k hk'=>hx.2 k (hk id k hk')⟩
 | .undef,_,_=>by simp [R]
 | .sc _,_,hx=>by simpa [R] using hx
 | .agg cs,v,hx=>by
  simp only [R] at hx ⊢
  obtain⟨vs,rfl,hv⟩:=hx
  exact⟨vs,rfl,Rv_mono h hk cs vs.toList hv⟩
 | .tup cs,v,hx=>by
  simp only [R] at hx ⊢
  obtain⟨vs,rfl,hv⟩:=hx
  exact⟨vs,rfl,Rv_mono h hk cs vs.toList hv⟩
 | .fn f caps,v,hx=>by
  simp only [R] at hx ⊢
  obtain⟨vs,rfl,hv⟩:=hx
  exact⟨vs,rfl,Rv_mono h hk caps vs.toList hv⟩
 | .ifc t x,v,hx=>by
  simp only [R] at hx ⊢
  obtain⟨y,rfl,hv⟩:=hx
  exact⟨y,rfl,R_mono h hk x y hv⟩
 | .lst sz rows,v,hx=>by simp only [R] at hx ⊢; exact RI_mono h _ _ hx
 | .ipt cells off,v,hx=>by simp only [R] at hx ⊢; exact RI_mono h _ _ hx
theorem Rv_mono (h:Keeps w ow w' ow') (hk:∀ id k,κ' id=some k→κ id=some k):∀ (xs:List AV) (vs:List Value),Rv w ow κ xs vs→Rv w' ow' κ' xs vs
 | [],vs,hx=>by simpa [Rv] using hx
 | x::xs,vs,hx=>by
  simp only [Rv] at hx ⊢
  obtain⟨v,r,rfl,hv,hr⟩:=hx
  exact⟨v,r,rfl,R_mono h hk x v hv,Rv_mono h hk xs r hr⟩
end
mutual
theorem R_of_RI:∀ (x:AV) (v:Value),RI w ow x v→R w ow κ x v
 | .hnd id,v,hx=>by simp [RI] at hx
 | .ptr id off,v,hx=>by simp [RI] at hx
 | .eptr id sz i j,v,hx=>by simp [RI] at hx
 | .vw _ _ _ _ _,v,hx=>by simp [RI] at hx
 | .fz x,v,hx=>by simp only [R]; exact hx
 | .undef,_,_=>by simp [R]
 | .sc _,_,hx=>by simpa [R,RI] using hx
 | .agg cs,v,hx=>by
  simp only [R,RI] at hx ⊢
  obtain⟨vs,rfl,hv⟩:=hx
  exact⟨vs,rfl,Rv_of_RIv cs vs.toList hv⟩
 | .tup cs,v,hx=>by
  simp only [R,RI] at hx ⊢
  obtain⟨vs,rfl,hv⟩:=hx
  exact⟨vs,rfl,Rv_of_RIv cs vs.toList hv⟩
 | .fn f caps,v,hx=>by
  simp only [R,RI] at hx ⊢
  obtain⟨vs,rfl,hv⟩:=hx
  exact⟨vs,rfl,Rv_of_RIv caps vs.toList hv⟩
 | .ifc t x,v,hx=>by
  simp only [R,RI] at hx ⊢
  obtain⟨y,rfl,hv⟩:=hx
  exact⟨y,rfl,R_of_RI x y hv⟩
 | .lst sz rows,v,hx=>by simp only [R] at hx ⊢; exact hx
 | .ipt cells off,v,hx=>by simp only [R] at hx ⊢; exact hx
theorem Rv_of_RIv:∀ (xs:List AV) (vs:List Value),RIv w ow xs vs→Rv w ow κ xs vs
 | [],vs,hx=>by simpa [Rv,RIv] using hx
 | x::xs,vs,hx=>by
  simp only [Rv,RIv] at hx ⊢
  obtain⟨v,r,rfl,hv,hr⟩:=hx
  exact⟨v,r,rfl,R_of_RI x v hv,Rv_of_RIv xs r hr⟩
end
def AV.im:AV→Bool
 | .hnd _ | .ptr _ _ | .eptr _ _ _ _ | .vw _ _ _ _ _ | .agg _ | .tup _ | .fn _ _ | .ifc _ _=>false
 | _=>true
theorem RI_of_R {x:AV} {v:Value} (hx:x.im=true) (h:R w ow κ x v):RI w ow x v:=by
 cases x <;> simp_all [AV.im,R,RI]
theorem Rv_length:∀ {xs:List AV} {vs:List Value},Rv w ow κ xs vs→vs.length=xs.length
 | [],vs,h=>by simp only [Rv] at h; simp [h]
 | x::xs,vs,h=>by
  simp only [Rv] at h; obtain⟨v,r,rfl,_,hr⟩:=h; simp [Rv_length hr]
theorem Rv_get:∀ {xs:List AV} {vs:List Value} {k:Nat} {x:AV},Rv w ow κ xs vs→xs[k]?=some x→∃ v,vs[k]?=some v∧R w ow κ x v
 | [],_,_,_,_,hk=>by simp at hk
 | y::ys,vs,k,x,h,hk=>by
  simp only [Rv] at h; obtain⟨v,r,rfl,hv,hr⟩:=h
  cases k with
  | zero=>simp at hk; subst hk; exact⟨v,rfl,hv⟩
  | succ k=>simpa using Rv_get hr (by simpa using hk)
theorem Rv_of:∀ {xs:List AV} {vs:List Value},vs.length=xs.length→(∀ (k:Nat) (x:AV) (v:Value),xs[k]?=some x→vs[k]?=some v→R w ow κ x v)→Rv w ow κ xs vs
 | [],vs,hl,_=>by simp only [Rv]; simpa using hl
 | x::xs,vs,hl,h=>by
  simp only [Rv]
  cases vs with
  | nil=>simp at hl
  | cons v r=>exact⟨v,r,rfl,h 0 x v rfl rfl,Rv_of (by simpa using hl) fun k x v hx hv=>h (k+1) x v (by simpa using hx) (by simpa using hv)⟩
theorem Rv_append {xs ys:List AV} {vs us:List Value} (h:Rv w ow κ xs vs) (k:Rv w ow κ ys us):Rv w ow κ (xs++ys) (vs++us):=by
 have l1:=Rv_length h
 refine Rv_of (by simp [l1,Rv_length k]) fun i x v hx hv=>?_
 rw [List.getElem?_append] at hx hv
 by_cases hi:i < xs.length
 ·rw [if_pos hi] at hx; rw [if_pos (by omega)] at hv
  obtain⟨v',e,hr⟩:=Rv_get h hx
  rw [hv] at e; cases e; exact hr
 ·rw [if_neg hi] at hx; rw [if_neg (by omega),l1] at hv
  obtain⟨v',e,hr⟩:=Rv_get k hx
  rw [hv] at e; cases e; exact hr
end R
end Go.Proofs.YthlchdnbokhclaaGreat.Ql
namespace Go.Proofs.YthlchdnbokhclaaGreat.Ql
open Go
mutual
def AV.men (id:Nat):AV→Bool
 | .hnd i | .ptr i _ | .eptr i _ _ _ | .vw i _ _ _ _=>i==id
 | .agg cs | .tup cs | .fn _ cs=>menL id cs
 | .ifc _ x=>x.men id
 | _=>false
def menL (id:Nat):List AV→Bool
 | []=>false
 | x::xs=>x.men id||menL id xs
end
section
variable {w w':World} {ow ow':Nat→Prop} {κ κ':Kap}
mutual
theorem R_men (h:Keeps w ow w' ow'):∀ (x:AV) (v:Value),(∀ id k,κ' id=some k→κ id=some k∨x.men id=false)→R w ow κ x v→R w' ow' κ' x v
 | .hnd id,v,hk,hx=>by
  simp only [R] at hx ⊢; refine⟨hx.1,fun k hk'=>?_⟩
  rcases hk id k hk' with e | e
  ·exact hx.2 k e
  ·simp [AV.men] at e
 | .ptr id off,v,hk,hx=>by
  simp only [R] at hx ⊢; refine⟨hx.1,fun k hk'=>?_⟩
  rcases hk id k hk' with e | e
  ·exact hx.2 k e
  ·simp [AV.men] at e
 | .eptr id sz i j,v,hk,hx=>by
  simp only [R] at hx ⊢; refine⟨hx.1,fun k hk'=>?_⟩
  rcases hk id k hk' with e | e
  ·exact hx.2 k e
  ·simp [AV.men] at e
 | .fz x,v,_,hx=>by simp only [R] at hx ⊢; exact RI_mono h _ _ hx
 | .vw id _ _ _ _,v,hk,hx=>by
  simp only [R] at hx ⊢; refine⟨hx.1,fun k hk'=>?_⟩
  rcases hk id k hk' with e | e
  ·exact hx.2 k e
  ·simp [AV.men] at e
 | .undef,_,_,_=>by simp [R]
 | .sc _,_,_,hx=>by simpa [R] using hx
 | .agg cs,v,hk,hx=>by
  simp only [R] at hx ⊢
  obtain⟨vs,rfl,hv⟩:=hx
  exact⟨vs,rfl,Rv_men h cs vs.toList (fun id k e=>by simpa [AV.men] using hk id k e) hv⟩
 | .tup cs,v,hk,hx=>by
  simp only [R] at hx ⊢
  obtain⟨vs,rfl,hv⟩:=hx
  exact⟨vs,rfl,Rv_men h cs vs.toList (fun id k e=>by simpa [AV.men] using hk id k e) hv⟩
 | .fn f cs,v,hk,hx=>by
  simp only [R] at hx ⊢
  obtain⟨vs,rfl,hv⟩:=hx
  exact⟨vs,rfl,Rv_men h cs vs.toList (fun id k e=>by simpa [AV.men] using hk id k e) hv⟩
 | .ifc t x,v,hk,hx=>by
  simp only [R] at hx ⊢
  obtain⟨y,rfl,hv⟩:=hx
  exact⟨y,rfl,R_men h x y (fun id k e=>by simpa [AV.men] using hk id k e) hv⟩
 | .lst sz rows,v,_,hx=>by simp only [R] at hx ⊢; exact RI_mono h _ _ hx
 | .ipt cells off,v,_,hx=>by simp only [R] at hx ⊢; exact RI_mono h _ _ hx
theorem Rv_men (h:Keeps w ow w' ow'):∀ (xs:List AV) (vs:List Value),(∀ id k,κ' id=some k→κ id=some k∨menL id xs=false)→Rv w ow κ xs vs→Rv w' ow' κ' xs vs
 | [],vs,_,hx=>by simpa [Rv] using hx
 | x::xs,vs,hk,hx=>by
  simp only [Rv] at hx ⊢
  obtain⟨v,r,rfl,hv,hr⟩:=hx
  refine⟨v,r,rfl,R_men h x v (fun id k e=>?_) hv,Rv_men h xs r (fun id k e=>?_) hr⟩
  ·rcases hk id k e with e | e
   ·exact .inl e
   ·simp [menL] at e; exact .inr e.1
  ·rcases hk id k e with e | e
   ·exact .inl e
   ·simp [menL] at e; exact .inr e.2
end
end
def AO.men (id:Nat):AO→Bool
 | .box cells=>menL id cells
 | .arr _ _ _=>false
 | .mp _=>false
theorem im_men {x:AV} (h:x.im=true) (id:Nat):x.men id=false:=by
 cases x <;> simp_all [AV.im,AV.men]
theorem menL_im (id:Nat):∀ {xs:List AV},xs.all AV.im=true→menL id xs=false
 | [],_=>rfl
 | x::xs,h=>by
  simp only [List.all_cons,Bool.and_eq_true] at h
  simp only [menL,im_men h.1,menL_im id h.2,Bool.or_self]
theorem flat_im {sz:Nat}:∀ {rows:List (List AV)},(∀ r∈rows,r.length=sz∧r.all AV.im=true)→rows.flatten.all AV.im=true
 | [],_=>rfl
 | r::rs,h=>by
  simp only [List.flatten_cons,List.all_append,(h r (List.mem_cons_self ..)).2,flat_im fun q hq=>h q (List.mem_cons_of_mem _ hq),Bool.and_self]
def RO (w:World) (ow:Nat→Prop) (κ:Kap):AO→KO→Prop
 | .box cells,k=>∃ b cur e,k=.box b∧w.heap[b]?=some (.cells cur e (0,0))∧Rv w ow κ cells cur.toList∧∀ v∈cur.toList,v.oneCell'=true
 | .arr e sz rows,k=>∃ u vals,k=.arr u∧w.ownsRow 0 e sz u rows.length vals∧Rv w ow κ rows.flatten vals∧(∀ r∈rows,r.length=sz∧r.all AV.im=true)∧∀ v∈vals,v.oneCell'=true
 | .mp es,k=>∃ b arr cl,k=.arr (.map (some b))∧w.heap[b]?=some (.map arr cl)∧arr.toList.map (fun e=>(e.key,e.val))=es
theorem RO_men {w w':World} {ow ow':Nat→Prop} {κ κ':Kap} (h:Keeps w ow w' ow') {o:AO} {k:KO} (hb:∀ b,k.blk=some b→w'.heap[b]?=w.heap[b]?)
  (hk:∀ id l,κ' id=some l→κ id=some l∨o.men id=false) (hr:RO w ow κ o k):RO w' ow' κ' o k:=by
 cases o with
 | box cells=>
  obtain⟨b,cur,e,rfl,hg,hv,h1⟩:=hr
  exact⟨b,cur,e,rfl,(hb b rfl).trans hg,Rv_men h cells cur.toList hk hv,h1⟩
 | arr e sz rows=>
  obtain⟨u,vals,rfl,hown,hv,hl,h1⟩:=hr
  refine⟨u,vals,rfl,⟨hown.1,?_⟩,Rv_men h _ vals (fun id l _=>.inr (menL_im id (flat_im hl))) hv,hl,h1⟩
  rcases hown.2 with hn | ⟨g,cap,cur,rfl,hb0,hg,rest⟩
  ·exact .inl hn
  ·exact .inr ⟨g,cap,cur,rfl,hb0,(hb g rfl).trans hg,rest⟩
 | mp es=>
  obtain⟨b,arr,cl,rfl,hh,he⟩:=hr
  exact⟨b,arr,cl,rfl,(hb b rfl).trans hh,he⟩
theorem RO_lt {w:World} {ow:Nat→Prop} {κ:Kap} {o:AO} {k:KO} (hr:RO w ow κ o k) {b:Nat} (hb:k.blk=some b):b < w.heap.size:=by
 cases o with
 | box cells=>
  obtain⟨b',cur,e,rfl,hg,_⟩:=hr
  simp [KO.blk] at hb; subst hb
  exact(Array.getElem?_eq_some_iff.1 hg).1
 | arr e sz rows=>
  obtain⟨u,vals,rfl,hown,_⟩:=hr
  exact(hown.lt b (by rw [← vblk_own hown]; exact hb)).2
 | mp es=>
  obtain⟨b',arr,cl,rfl,hh,_⟩:=hr
  simp [KO.blk,vblk] at hb; subst hb
  exact(Array.getElem?_eq_some_iff.1 hh).1
structure AS where
 tm:List (Nat × AV)
 ob:List (Nat × Option AO)
def lk:List (Nat × AV)→Nat→AV
 | [],_=>.undef
 | p::r,t=>bif Nat.beq p.1 t then p.2 else lk r t
def lo:List (Nat × Option AO)→Nat→Option AO
 | [],_=>none
 | p::r,t=>bif Nat.beq p.1 t then p.2 else lo r t
theorem lk_cons (d:Nat) (v:AV) (l:List (Nat × AV)) (t:Nat):lk ((d,v)::l) t=if d=t then v else lk l t:=by
 simp only [lk]
 by_cases h:d=t
 ·subst h; simp
 ·have hb:d.beq t=false:=by
   cases h':d.beq t
   ·rfl
   ·exact absurd (Nat.eq_of_beq_eq_true h') h
  simp [h,hb]
theorem lo_cons (d:Nat) (v:Option AO) (l:List (Nat × Option AO)) (t:Nat):lo ((d,v)::l) t=if d=t then v else lo l t:=by
 simp only [lo]
 by_cases h:d=t
 ·subst h; simp
 ·have hb:d.beq t=false:=by
   cases h':d.beq t
   ·rfl
   ·exact absurd (Nat.eq_of_beq_eq_true h') h
  simp [h,hb]
def ofConst:Value→AV
 | .agg cs=>.agg (cs.toList.map .sc)
 | .tuple vs=>.tup (vs.toList.map .sc)
 | v=>.sc v
def ev (tm:List (Nat × AV)):Operand→AV
 | .tmp t=>lk tm t
 | .const v=>ofConst v
 | .func f=>.fn f []
 | .global _=>.undef
structure Fr (own:Nat→Prop) (w0 w:World):Prop where
 os:w.os=w0.os
 tape:w.tape=w0.tape
 output:w.output=w0.output
 size:w0.heap.size≤w.heap.size
 block:∀ k,k < w0.heap.size→¬ own k→w.heap[k]?=w0.heap[k]?
theorem Fr.refl (own:Nat→Prop) (w:World):Fr own w w:=⟨rfl,rfl,rfl,Nat.le_refl _,fun _ _ _=>rfl⟩
structure Ctx where
 w0:World
 ow0:Nat→Prop
 ox:Nat→Prop
 hox:∀ b,ox b→b < w0.heap.size
 n:Nat
 ob0:List (Nat × Option AO)
 k0:Kap
 hk0:∀ id k,k0 id=some k→∃ o,lo ob0 id=some o
def OW (C:Ctx) (κ:Kap) (b:Nat):Prop:=C.ox b∨owned κ b
structure G (C:Ctx) (κ:Kap) (s:AS) (a:Act) (w:World):Prop where
 tm:∀ t,R w (OW C κ) κ (lk s.tm t) (a.tmps.getD t undef)
 ob:∀ id o,lo s.ob id=some o→∃ k,κ id=some k∧RO w (OW C κ) κ o k
 live:∀ id k,κ id=some k→∃ o,lo s.ob id=some o
 inj:∀ i j k l b,κ i=some k→κ j=some l→k.blk=some b→l.blk=some b→i=j
 size:a.tmps.size=C.n
 dfs:a.defers=[]
 fr:Fr C.ow0 C.w0 w
 old:∀ b,owned κ b→(b < C.w0.heap.size→C.ow0 b)∧¬ C.ox b
 keep:∀ id k,C.k0 id=some k→κ id=none∨κ id=some k
def γ (C:Ctx) (s:AS) (a:Act) (w:World):Prop:=∃ κ,G C κ s a w
theorem R_ofConst {w:World} {ow:Nat→Prop} {κ:Kap} (v:Value):R w ow κ (ofConst v) v:=by
 have hl:∀ (l:List Value),Rv w ow κ (l.map .sc) l:=by
  intro l
  induction l with
  | nil=>simp [Rv]
  | cons x xs ih=>simp only [List.map_cons,Rv]; exact⟨x,xs,rfl,by simp [R],ih⟩
 cases v <;> simp only [ofConst] <;> try (simp [R]; done)
 ·simp only [R]; exact⟨_,rfl,hl _⟩
 ·simp only [R]; exact⟨_,rfl,hl _⟩
section G
variable {C:Ctx} {κ:Kap} {s:AS} {a:Act} {w:World}
theorem G.ev (h:G C κ s a w):∀ x:Operand,R w (OW C κ) κ (ev s.tm x) (a.eval x)
 | .tmp t=>h.tm t
 | .const v=>R_ofConst v
 | .func f=>by
  show R w (OW C κ) κ (.fn f []) (.func (.func f) #[] #[])
  simp only [R]; exact⟨#[],rfl,by simp [Rv]⟩
 | .global g=>by simp [Ql.ev,R]
theorem put_getD (a:Act) (d:Nat) (u:Value) (t:Nat) (hd:d < a.tmps.size):(a.put (some d) u).tmps.getD t undef=if d=t then u else a.tmps.getD t undef:=by
 simp only [Act.put,Array.getD_eq_getD_getElem?,Array.getElem?_setIfInBounds]
 by_cases h:d=t
 ·subst h; simp [hd]
 ·simp [h]
theorem G.put (h:G C κ s a w) {d:Nat} (hd:d < C.n) {v:AV} {u:Value} (hv:R w (OW C κ) κ v u):G C κ { s with tm:=(d,v)::s.tm } (a.put (some d) u) w where
 tm t:=by
  rw [put_getD a d u t (by rw [h.size]; exact hd),lk_cons]
  split
  ·exact hv
  ·exact h.tm t
 ob:=h.ob
 live:=h.live
 inj:=h.inj
 size:=by simp [Act.put,h.size]
 dfs:=by simp [Act.put,h.dfs]
 fr:=h.fr
 old:=h.old
 keep:=h.keep
theorem G.fresh_lt (h:G C κ s a w):∀ b,OW C κ b→b < w.heap.size:=by
 rintro b (hb | ⟨id,k,hk,hb⟩)
 ·exact Nat.lt_of_lt_of_le (C.hox b hb) h.fr.size
 ·obtain⟨o,ho⟩:=h.live id k hk
  obtain⟨k',hk',hr⟩:=h.ob id o ho
  rw [hk] at hk'; cases hk'
  exact RO_lt hr hb
theorem G.world (h:G C κ s a w) {w':World} (hk:Keeps w (OW C κ) w' (OW C κ)) (hb:∀ b,owned κ b→w'.heap[b]?=w.heap[b]?) (hf:Fr C.ow0 C.w0 w'):G C κ s a w' where
 tm t:=R_mono hk (fun _ _ e=>e) _ _ (h.tm t)
 ob id o ho:=by
  obtain⟨k,hk',hr⟩:=h.ob id o ho
  exact⟨k,hk',RO_men hk (fun b e=>hb b ⟨id,k,hk',e⟩) (fun _ _ e=>.inl e) hr⟩
 live:=h.live
 inj:=h.inj
 size:=h.size
 dfs:=h.dfs
 fr:=hf
 old:=h.old
 keep:=h.keep
theorem keeps_alloc (w:World) (o:Obj) (ow:Nat→Prop):Keeps w ow (w.alloc o) ow:=
 ⟨by simp,fun b hb hn=>⟨hn,heap_alloc_old w o b hb⟩⟩
theorem Fr.alloc {own:Nat→Prop} {w0 w:World} (h:Fr own w0 w) (o:Obj):Fr own w0 (w.alloc o):=
 ⟨h.os,h.tape,h.output,Nat.le_trans h.size (by simp),fun k hk hn=>(heap_alloc_old w o k (Nat.lt_of_lt_of_le hk h.size)).trans (h.block k hk hn)⟩
theorem G.alloc (h:G C κ s a w) (o:Obj):G C κ s a (w.alloc o):=
 h.world (keeps_alloc w o _) (fun b hb=>heap_alloc_old w o b (h.fresh_lt b (.inr hb))) (h.fr.alloc o)
theorem G.drew (h:G C κ s a w):G C κ s a w.drew:=
 h.world ⟨Nat.le_refl _,fun _ _ hn=>⟨hn,rfl⟩⟩ (fun _ _=>rfl) ⟨h.fr.os,h.fr.tape,h.fr.output,h.fr.size,h.fr.block⟩
structure AS.fresh (ob0:List (Nat × Option AO)) (s:AS) (id:Nat):Prop where
 t:∀ t,(lk s.tm t).men id=false
 n:lo s.ob id=none
 o:∀ i o,lo s.ob i=some o→o.men id=false
 c:lo ob0 id=none
def menT (id:Nat) (l:List (Nat × AV)):Bool:=l.any fun p=>p.2.men id
def menO (id:Nat) (l:List (Nat × Option AO)):Bool:=l.any fun p=>match p.2 with | some o=>o.men id | none=>false
theorem AS.fresh_of {ob0:List (Nat × Option AO)} {s:AS} {id:Nat} (h1:menT id s.tm=false) (h2:lo s.ob id=none) (h3:menO id s.ob=false) (h4:lo ob0 id=none):s.fresh ob0 id:=by
 refine⟨?_,h2,?_,h4⟩
 ·intro t
  generalize s.tm=l at h1
  induction l with
  | nil=>rfl
  | cons p r ih=>
   simp [menT] at h1
   rw [show p=(p.1,p.2) from rfl,lk_cons]
   split
   ·exact h1.1
   ·exact ih (by simp [menT]; exact h1.2)
 ·intro i o ho
  generalize s.ob=l at h3 ho
  induction l with
  | nil=>simp [lo] at ho
  | cons p r ih=>
   simp [menO] at h3
   rw [show p=(p.1,p.2) from rfl,lo_cons] at ho
   split at ho
   ·have:=h3.1; rw [ho] at this; simpa using this
   ·exact ih (by simp [menO]; exact h3.2) ho
def Kap.set (κ:Kap) (id:Nat) (k:Option KO):Kap:=fun i=>if i=id then k else κ i
theorem G.create (h:G C κ s a w) {id:Nat} (hfr:s.fresh C.ob0 id) {w':World} {k:KO} {o:AO}
  (hsz:w.heap.size≤w'.heap.size) (hold:∀ b,b < w.heap.size→w'.heap[b]?=w.heap[b]?) (hf:w'.os=w.os∧w'.tape=w.tape∧w'.output=w.output)
  (hkb:∀ b,k.blk=some b→w.heap.size≤b) (hro:RO w' (OW C (κ.set id (some k))) (κ.set id (some k)) o k) :
  G C (κ.set id (some k)) { s with ob:=(id,some o)::s.ob } a w':=by
 have hn:κ id=none:=by
  cases hk:κ id with
  | none=>rfl
  | some k'=>obtain⟨o',ho'⟩:=h.live id k' hk; rw [hfr.n] at ho'; cases ho'
 have how:∀ b,OW C (κ.set id (some k)) b→OW C κ b∨k.blk=some b:=by
  rintro b (hb | ⟨i,l,hi,hb⟩)
  ·exact .inl (.inl hb)
  ·simp only [Kap.set] at hi
   split at hi
   ·cases hi; exact .inr hb
   ·exact .inl (.inr ⟨i,l,hi,hb⟩)
 have hk:Keeps w (OW C κ) w' (OW C (κ.set id (some k))):=⟨hsz,fun b hb hnb=>⟨fun e=>by
  rcases how b e with e | e
  ·exact hnb e
  ·have:=hkb b e; omega,hold b hb⟩⟩
 have hcomp:∀ (i:Nat) (l:KO),(κ.set id (some k)) i=some l→κ i=some l∨i=id:=by
  intro i l e
  simp only [Kap.set] at e
  split at e
  ·exact .inr ‹_›
  ·exact .inl e
 exact {
  tm:=fun t=>R_men hk _ _ (fun i l e=>(hcomp i l e).imp (fun e=>e) (fun e=>by subst e; exact hfr.t t)) (h.tm t)
  ob:=fun i o' ho'=>by
   rw [lo_cons] at ho'
   split at ho'
   ·rename_i e; subst e; cases ho'; exact⟨k,by simp [Kap.set],hro⟩
   ·rename_i e
    obtain⟨l,hl,hr⟩:=h.ob i o' ho'
    refine⟨l,by simp only [Kap.set]; rw [if_neg (fun x=>e x.symm)]; exact hl,RO_men hk (fun b hb=>hold b (RO_lt hr hb)) (fun j m em=>(hcomp j m em).imp (fun e=>e) (fun e=>by subst e; exact hfr.o i o' ho')) hr⟩
  live:=fun i l e=>by
   rw [lo_cons]
   rcases hcomp i l e with e | e
   ·by_cases hid:id=i
    ·subst hid; rw [hn] at e; cases e
    ·rw [if_neg hid]; exact h.live i l e
   ·rw [if_pos e.symm]; exact⟨o,rfl⟩
  inj:=fun i j l m b hi hj hb hb'=>by
   have lt:∀ {i:Nat} {l:KO},κ i=some l→l.blk=some b→b < w.heap.size:=fun hi hb=>h.fresh_lt b (.inr ⟨_,_,hi,hb⟩)
   have at_:∀ {i:Nat} {l:KO},(κ.set id (some k)) i=some l→i=id→l=k:=fun e hi=>by subst hi; simp [Kap.set] at e; exact e.symm
   rcases hcomp i l hi with e1 | e1 <;> rcases hcomp j m hj with e2 | e2
   ·exact h.inj i j l m b e1 e2 hb hb'
   ·have:=at_ hj e2; subst this; have:=hkb b hb'; have:=lt e1 hb; omega
   ·have:=at_ hi e1; subst this; have:=hkb b hb; have:=lt e2 hb'; omega
   ·rw [e1,e2]
  size:=h.size
  dfs:=h.dfs
  fr:=⟨hf.1.trans h.fr.os,hf.2.1.trans h.fr.tape,hf.2.2.trans h.fr.output,Nat.le_trans h.fr.size hsz,fun b hb hn=>(hold b (Nat.lt_of_lt_of_le hb h.fr.size)).trans (h.fr.block b hb hn)⟩
  old:=fun b hb=>by
   rcases how b (.inr hb) with e | e
   ·rcases e with e | e
    ·obtain⟨i,l,hi,hb⟩:=hb
     rcases hcomp i l hi with e1 | e1
     ·exact h.old b ⟨i,l,e1,hb⟩
     ·subst e1; simp [Kap.set] at hi; subst hi; have:=hkb b hb; have:=C.hox b e; have:=h.fr.size; omega
    ·exact h.old b e
   ·have h1:=hkb b e
    have h2:=h.fr.size
    exact⟨fun hlt=>by omega,fun hx=>by have:=C.hox b hx; omega⟩
  keep:=fun i l e=>by
   simp only [Kap.set]
   split
   ·rename_i e'; subst e'; obtain⟨o',ho'⟩:=C.hk0 i l e; rw [hfr.c] at ho'; cases ho'
   ·exact h.keep i l e }
theorem G.write (h:G C κ s a w) {id:Nat} {k:KO} (hk:κ id=some k) {w':World} {o:AO} (hsz:w'.heap.size=w.heap.size)
  (hold:∀ b,k.blk≠some b→w'.heap[b]?=w.heap[b]?) (hf:w'.os=w.os∧w'.tape=w.tape∧w'.output=w.output) (hro:RO w' (OW C κ) κ o k) :
  G C κ { s with ob:=(id,some o)::s.ob } a w':=by
 have hkp:Keeps w (OW C κ) w' (OW C κ):=⟨by omega,fun b _ hn=>⟨hn,hold b fun e=>hn (.inr ⟨id,k,hk,e⟩)⟩⟩
 exact {
  tm:=fun t=>R_mono hkp (fun _ _ e=>e) _ _ (h.tm t)
  ob:=fun i o' ho'=>by
   rw [lo_cons] at ho'
   split at ho'
   ·rename_i e; subst e; cases ho'; exact⟨k,hk,hro⟩
   ·rename_i e
    obtain⟨l,hl,hr⟩:=h.ob i o' ho'
    exact⟨l,hl,RO_men hkp (fun b hb=>hold b fun e'=>e (h.inj id i k l b hk hl e' hb)) (fun _ _ e=>.inl e) hr⟩
  live:=fun i l e=>by
   rw [lo_cons]
   by_cases hid:id=i
   ·rw [if_pos hid]; exact⟨o,rfl⟩
   ·rw [if_neg hid]; exact h.live i l e
  inj:=h.inj
  size:=h.size
  dfs:=h.dfs
  fr:=⟨hf.1.trans h.fr.os,hf.2.1.trans h.fr.tape,hf.2.2.trans h.fr.output,by rw [hsz]; exact h.fr.size,fun b hb hn=>by
   rw [hold b fun e=>hn ((h.old b ⟨id,k,hk,e⟩).1 hb)]; exact h.fr.block b hb hn⟩
  old:=h.old
  keep:=h.keep }
end G
end Go.Proofs.YthlchdnbokhclaaGreat.Ql
namespace Go.Proofs.YthlchdnbokhclaaGreat.Ql
open Go
def isA:TypeDesc→Bool
 | .struct _ | .array _ _=>true
 | _=>false
def Siz (P:Program) (T n:Nat) (ag:Bool):Prop:=(P.underlying T).map isA=some ag∧(P.info? T).map (·.size)=some n∧(ag||n==1)=true
def Fld (P:Program) (S f off:Nat):Prop:=∃ k,(match P.underlying S with | some (.struct fs)=>(fs[f]?).map (fun fd=>(fd.offset,(P.info? fd.type).map (·.size))) | _=>none)=some (off,some (k+1))
def Slc (P:Program) (T e sz by_:Nat) (z:Value):Prop:=P.underlying T=some (.slice e)∧(P.info? e).map (fun i=>(i.size,i.bytes,i.zero))=some (sz,by_,some z)∧z.cells.size=sz∧0 < sz
def Arr (P:Program) (T len esz:Nat):Prop:=(match P.underlying T with | some (.array n e)=>some (n,(P.info? e).map (·.size)) | _=>none)=some (len,some esz)
def Zer (P:Program) (T:Nat) (z:Value):Prop:=(P.info? T).map (·.zero)=some (some z)
def packV:Bool→List Value→Value
 | true,cs=>.agg cs.toArray
 | false,[v]=>v
 | false,_=>Go.undef
def AV.pack:Bool→List AV→AV
 | true,cs=>.agg cs
 | false,[x]=>x
 | false,_=>.undef
theorem R_pack {w:World} {ow:Nat→Prop} {κ:Kap} {ag:Bool} {cs:List AV} {vs:List Value} (h:Rv w ow κ cs vs):R w ow κ (AV.pack ag cs) (packV ag vs):=by
 cases ag with
 | true=>simp only [AV.pack,packV,R]; exact⟨_,rfl,by simpa using h⟩
 | false=>
  match cs,vs,h with
  | [],_,_=>simp [AV.pack,R]
  | _::_::_,_,_=>simp [AV.pack,R]
  | [x],vs,h=>
   simp only [Rv] at h
   obtain⟨v,r,rfl,hv,rfl⟩:=h
   simpa [AV.pack,packV] using hv
section runs
variable {P:Program} {w:World}
theorem run_size {T n:Nat} (h:(P.info? T).map (·.size)=some n):(sizeOf T).run P w=.ok n w:=by
 cases hi:P.info? T with
 | none=>simp [hi] at h
 | some i=>simp [hi] at h; simp [sizeOf,typeInfo,hi,h]
theorem run_isAgg {T:Nat} {ag:Bool} (h:(P.underlying T).map isA=some ag):(isAgg T).run P w=.ok ag w:=by
 cases hi:P.underlying T with
 | none=>simp [hi] at h
 | some d=>
  simp [hi] at h; subst h
  simp only [isAgg,Sem.run_bind,run_underlying hi,Result.andThen_ok]
  cases d <;> rfl
theorem run_loadVar {T n:Nat} {ag:Bool} (hs:Siz P T n ag) {b p:Nat} {vs:List Value} (hl:vs.length=n)
  (hc:∀ j v,vs[j]?=some v→w.cell? ⟨b,p+j,none⟩=some v):(loadVar T ⟨b,p,none⟩).run P w=.ok (packV ag vs) w:=by
 obtain⟨h1,h2,h3⟩:=hs
 subst hl
 simp only [loadVar,Sem.run_bind,run_isAgg h1,Result.andThen_ok]
 cases ag with
 | true=>
  have:=run_loadCells_list (P:=P) w ⟨b,p,none⟩ vs (fun j v hv=>by rw [Addr.add_lit]; exact hc j v hv)
  simp [run_size h2,this,packV]
 | false=>
  simp at h3
  match vs,h3,hc with
  | [v],_,hc=>
   have:=hc 0 v rfl
   simp at this
   simp [this,packV]
theorem run_storeVar {T n:Nat} {ag:Bool} (hs:Siz P T n ag) {b p e:Nat} {cur:Array Value} (hg:w.heap[b]?=some (.cells cur e (0,0))) {v:Value}
  (hn:v.cells.size=n) (hp:p+n≤cur.size) (h1:∀ u∈v.cells.toList,u.oneCell'=true) :
  (storeVar T ⟨b,p,none⟩ v).run P w=.ok () (w.setRow b (cur.toList.take p++v.cells.toList++cur.toList.drop (p+n)).toArray):=by
 have:=run_storeCells_at P b p e v.cells.toList 0 cur w hg (by simp; omega) h1
 simp only [Nat.add_zero,Array.length_toList,hn] at this
 simp [storeVar,run_size hs.2.1,hn,this]
theorem run_fieldAt {S f off:Nat} (h:Fld P S f off) {b p:Nat}:(Instr.fieldAt S (.pointer (some ⟨b,p,none⟩)) f).run P w=.ok (.pointer (some ⟨b,p+off,none⟩)) w:=by
 obtain⟨k,h⟩:=h
 cases hu:P.underlying S with
 | none=>simp [hu] at h
 | some d=>
  cases d <;> simp [hu] at h
  rename_i fs
  obtain⟨fd,hfd,rfl,hi⟩:=h
  simp [Instr.fieldAt,run_underlying hu,hfd,Instr.sureAddr,fieldPlace,run_size (P:=P) (T:=fd.type) (n:=k+1) (by simpa using hi),Addr.add_lit]
theorem Slc.und {T e sz by_:Nat} {z:Value} (h:Slc P T e sz by_ z):P.underlying T=some (.slice e):=h.1
theorem Slc.info {T e sz by_:Nat} {z:Value} (h:Slc P T e sz by_ z):∃ i,P.info? e=some i∧i.size=sz∧i.bytes=by_∧i.zero=some z:=by
 have:=h.2.1
 cases hi:P.info? e with
 | none=>simp [hi] at this
 | some i=>simp [hi] at this; exact⟨i,rfl,this⟩
theorem run_indexAt_slice {T e sz by_:Nat} {z:Value} (h:Slc P T e sz by_ z) {b off len cap:Nat} {k:IntKind} {n:Int} (h0:0≤n) (hn:n.toNat < len) :
  (Instr.indexAt T (.slice (some ⟨b,off,none⟩) len cap) (.int k n)).run P w=.ok (.pointer (some ⟨b,off+n.toNat*sz,none⟩)) w:=by
 obtain⟨i,hi,hs,_⟩:=h.info
 have hlt:n < (len:Int):=by omega
 simp [Instr.indexAt,asIntOf,run_underlying h.und,h0,hlt,run_size (P:=P) (T:=e) (n:=sz) (by simp [hi,hs]),Addr.add_lit]
theorem run_indexAt_array {T len esz:Nat} (h:Arr P T len esz) {b p:Nat} {k:IntKind} {n:Int} (h0:0≤n) (hn:n.toNat < len) :
  (Instr.indexAt T (.pointer (some ⟨b,p,none⟩)) (.int k n)).run P w=.ok (.pointer (some ⟨b,p+n.toNat*esz,none⟩)) w:=by
 unfold Arr at h
 cases hu:P.underlying T with
 | none=>simp [hu] at h
 | some d=>
  cases d <;> simp [hu] at h
  rename_i l e
  obtain⟨rfl,he⟩:=h
  have hlt:n < (l:Int):=by omega
  simp [Instr.indexAt,asIntOf,run_underlying hu,Instr.sureAddr,h0,hlt,run_size (P:=P) (T:=e) (n:=esz) (by simpa using he),Addr.add_lit]
theorem run_len_slice {T e sz by_:Nat} {z:Value} (h:Slc P T e sz by_ z) {a:Option Addr} {len cap:Nat} {ty:Nat} :
  (Builtin.len_ #[T] ty #[.slice a len cap]).run P w=.ok (.int .i64 len) w:=by
 simp [Builtin.len_,run_underlying h.und,goInt]
end runs
section wp
variable {P:Program} {o:Oper} {a:Act} {w:World} {next:Act→World→Prop} {Q:Exit→Act→World→Prop}
theorem wp_value {v:Value} {w':World} (h:(execOp a.eval o).run P w=.ok (.value v) w') (hn:next (a.put o.dst v) w'):o.wp P a w next Q:=by
 unfold Oper.wp; rw [h]; exact hn
theorem wp_unit {w':World} (h:(execOp a.eval o).run P w=.ok .skip w') (hn:next (a.put o.dst Go.undef) w'):o.wp P a w next Q:=by
 unfold Oper.wp; rw [h]; exact hn
end wp
def bin2:BinOp→IntKind→Int→Int→Option Value
 | .add,k,a,b=>some (.int k (k.wrap (a+b)))
 | .sub,k,a,b=>some (.int k (k.wrap (a - b)))
 | .mul,k,a,b=>some (.int k (k.wrap (a*b)))
 | .eql,_,a,b=>some (.bool (a==b))
 | .neq,_,a,b=>some (.bool (a != b))
 | .lss,_,a,b=>some (.bool (decide (a < b)))
 | .leq,_,a,b=>some (.bool (decide (a≤b)))
 | .gtr,_,a,b=>some (.bool (decide (a > b)))
 | .geq,_,a,b=>some (.bool (decide (a≥b)))
 | _,_,_,_=>none
theorem run_bin2 {P:Program} {w:World} {op:BinOp} {T:TypeId} {x y:Operand} {k:IntKind} {n m:Int} {v:Value} (h:bin2 op k n m=some v) :
  (do eqGuard op T x y (.int k n) (.int k m); binOp op T (.int k n) (.int k m):Sem Value).run P w=.ok v w:=by
 cases op <;> simp [bin2] at h <;> subst h <;>
  simp [eqGuard,binOp,Op.intArith,Op.intCmp]
theorem run_div {P:Program} {w:World} {op:BinOp} {T:TypeId} {x y:Operand} {k:IntKind} {n m:Int} (hm:m≠0) (hop:op=.quo∨op=.rem) :
  (do eqGuard op T x y (.int k n) (.int k m); binOp op T (.int k n) (.int k m):Sem Value).run P w=.ok (.int k (if op=.quo then k.wrap (n.tdiv m) else n.tmod m)) w:=by
 rcases hop with rfl | rfl <;> simp [eqGuard,binOp,Op.intDiv,hm]
end Go.Proofs.YthlchdnbokhclaaGreat.Ql
namespace Go.Proofs.YthlchdnbokhclaaGreat.Ql
open Go
def AV.cl:AV→List AV
 | .agg cs=>cs
 | v=>[v]
def AV.one:AV→Bool
 | .sc v=>v.oneCell'
 | .lst _ _ | .ipt _ _ | .hnd _ | .ptr _ _ | .eptr _ _ _ _ | .fn _ _ | .ifc _ _=>true
 | _=>false
def Sub (x y:AV):Prop:=∀ w ow κ u,R w ow κ x u→R w ow κ y u
theorem Sub.refl (x:AV):Sub x x:=fun _ _ _ _ h=>h
theorem Sub.undef (x:AV):Sub x .undef:=fun _ _ _ _ _=>by simp [R]
theorem Sub.nil (sz:Nat):Sub (.sc (.slice none 0 0)) (.lst sz []):=fun _ _ _ u h=>by
 simp only [R] at h; subst h; simp [R,RI]
def SubV:List AV→List AV→Prop
 | [],[]=>True
 | x::xs,y::ys=>Sub x y∧SubV xs ys
 | _,_=>False
theorem SubV.refl:∀ xs:List AV,SubV xs xs
 | []=>trivial
 | x::xs=>⟨Sub.refl x,SubV.refl xs⟩
theorem Rv_sub {w:World} {ow:Nat→Prop} {κ:Kap}:∀ {xs ys:List AV} {vs:List Value},SubV xs ys→Rv w ow κ xs vs→Rv w ow κ ys vs
 | [],[],_,_,h=>h
 | x::xs,y::ys,vs,hs,h=>by
  simp only [Rv] at h ⊢
  obtain⟨v,r,rfl,hv,hr⟩:=h
  exact⟨v,r,rfl,hs.1 _ _ _ _ hv,Rv_sub hs.2 hr⟩
 | [],_::_,_,h,_=>h.elim
 | _::_,[],_,h,_=>h.elim
theorem R_one {w:World} {ow:Nat→Prop} {κ:Kap} {x:AV} {u:Value} (h:R w ow κ x u) (h1:x.one=true):u.oneCell'=true:=by
 cases x <;> simp [AV.one] at h1
 ·simp only [R] at h; subst h; exact h1
 ·simp only [R,RI] at h; obtain⟨a,cap,rfl,_⟩:=h; rfl
 ·simp only [R,RI] at h; obtain⟨b,p,rfl,_⟩:=h; rfl
 ·simp only [R] at h; exact h.1
 ·simp only [R] at h; exact h.1
 ·simp only [R] at h; exact h.1
 ·simp only [R] at h; obtain⟨vs,rfl,_⟩:=h; rfl
 ·simp only [R] at h; obtain⟨y,rfl,_⟩:=h; rfl
theorem Rv_one {w:World} {ow:Nat→Prop} {κ:Kap}:∀ {xs:List AV} {us:List Value},Rv w ow κ xs us→xs.all AV.one=true→∀ u∈us,u.oneCell'=true
 | [],us,h,_,u,hu=>by simp only [Rv] at h; subst h; simp at hu
 | x::xs,us,h,h1,u,hu=>by
  simp only [Rv] at h; obtain⟨v,r,rfl,hv,hr⟩:=h
  simp at h1
  rcases List.mem_cons.1 hu with rfl | hu
  ·exact R_one hv h1.1
  ·exact Rv_one hr (by simpa using h1.2) u hu
theorem R_cl {w:World} {ow:Nat→Prop} {κ:Kap} {x:AV} {u:Value} (h:R w ow κ x u) (h1:x.cl.all AV.one=true):Rv w ow κ x.cl u.cells.toList:=by
 by_cases hx:∃ cs,x=.agg cs
 ·obtain⟨cs,rfl⟩:=hx
  simp only [R] at h; obtain⟨vs,rfl,hv⟩:=h
  simpa [AV.cl,Value.cells] using hv
 ·have hcl:x.cl=[x]:=by cases x <;> simp [AV.cl] at hx ⊢
  rw [hcl] at h1 ⊢
  have ho:u.oneCell'=true:=R_one h (by simpa using h1)
  have:u.cells=#[u]:=by cases u <;> simp_all [Value.cells,Value.oneCell']
  rw [this]
  simp only [Rv]
  exact⟨u,[],rfl,h,rfl⟩
theorem ofConst_eq {w:World} {ow:Nat→Prop} {κ:Kap} {X u:Value} (h:R w ow κ (ofConst X) u):u=X:=by
 have hl:∀ (l us:List Value),Rv w ow κ (l.map .sc) us→us=l:=by
  intro l
  induction l with
  | nil=>intro us h; simpa [Rv] using h
  | cons x xs ih=>
   intro us h
   simp only [List.map_cons,Rv] at h
   obtain⟨v,r,rfl,hv,hr⟩:=h
   simp only [R] at hv
   rw [hv,ih r hr]
 cases X <;> simp only [ofConst] at h <;> try (simp only [R] at h; exact h)
 ·simp only [R] at h; obtain⟨vs,rfl,hv⟩:=h
  have:=hl _ _ hv
  congr 1; exact Array.toList_inj.1 this
 ·simp only [R] at h; obtain⟨vs,rfl,hv⟩:=h
  have:=hl _ _ hv
  congr 1; exact Array.toList_inj.1 this
def apply (s:AS) (dst:Option Tmp) (v:AV) (wr:List (Nat × Option AO)):AS:=
 ⟨match dst with | some d=>(d,v)::s.tm | none=>s.tm,wr++s.ob⟩
section fin
variable {C:Ctx} {κ:Kap} {s:AS} {a:Act} {w:World} {dst:Option Tmp}
theorem G.putd (hg:G C κ s a w) (hd:∀ d,dst=some d→d < C.n) {v:AV} {u:Value} (hr:R w (OW C κ) κ v u):G C κ (apply s dst v []) (a.put dst u) w:=by
 cases dst with
 | none=>exact hg
 | some d=>exact hg.put (hd d rfl) hr
end fin
theorem RIc_vals {w:World} {ow:Nat→Prop} {b:Nat}:∀ {cs:List AV} {p:Nat},RIc w ow b cs p →
  ∃ vs:List Value,vs.length=cs.length∧(∀ j v,vs[j]?=some v→w.cell? ⟨b,p+j,none⟩=some v)∧RIv w ow cs vs∧∀ v∈vs,v.oneCell'=true
 | [],_,_=>⟨[],rfl,fun j v h=>by simp at h,by simp [RIv],by simp⟩
 | x::xs,p,h=>by
  simp only [RIc] at h
  obtain⟨⟨v,hc,hv,h1⟩,hr⟩:=h
  obtain⟨vs,hl,hcs,hvs,ho⟩:=RIc_vals hr
  refine⟨v::vs,by simp [hl],?_,by simp only [RIv]; exact⟨v,vs,rfl,hv,hvs⟩,by simpa using ⟨h1,ho⟩⟩
  intro j u hj
  cases j with
  | zero=>simp at hj; subst hj; simpa using hc
  | succ j=>have:=hcs j u (by simpa using hj); rwa [show p+1+j=p+(j+1) by omega] at this
theorem RIc_seg {w:World} {ow:Nat→Prop} {b:Nat} {cells cs:List AV} {p off n:Nat} (h:RIc w ow b cells p) (hs:(cells.drop off).take n=cs):RIc w ow b cs (p+off):=by
 subst hs
 refine RIc_of fun k x hk=>?_
 rw [List.getElem?_take] at hk
 split at hk
 ·rw [List.getElem?_drop] at hk
  have:=RIc_get h hk
  rwa [show p+off+k=p+(off+k) by omega]
 ·cases hk
theorem Rv_seg {w:World} {ow:Nat→Prop} {κ:Kap} {cells:List AV} {vs:List Value} (off n:Nat) (h:Rv w ow κ cells vs):Rv w ow κ ((cells.drop off).take n) ((vs.drop off).take n):=by
 have hl:=Rv_length h
 refine Rv_of (by simp [hl]) fun k x v hx hv=>?_
 rw [List.getElem?_take] at hx hv
 split at hx
 ·rename_i hk
  rw [if_pos hk] at hv
  rw [List.getElem?_drop] at hx hv
  obtain⟨v',e,hr⟩:=Rv_get h hx
  rw [hv] at e; cases e; exact hr
 ·cases hx
theorem flatten_get {α:Type} {sz:Nat}:∀ {rows:List (List α)} {i j:Nat} {r:List α},(∀ r∈rows,r.length=sz)→rows[i]?=some r→j < sz→rows.flatten[i*sz+j]?=r[j]?
 | [],_,_,_,_,hi,_=>by simp at hi
 | x::xs,0,j,r,hl,hi,hj=>by
  simp at hi; subst hi
  simp only [List.flatten_cons,Nat.zero_mul,Nat.zero_add]
  rw [List.getElem?_append_left (by rw [hl x (by simp)]; exact hj)]
 | x::xs,i+1,j,r,hl,hi,hj=>by
  simp only [List.flatten_cons]
  rw [List.getElem?_append_right (by rw [hl x (by simp),Nat.add_mul]; omega),hl x (by simp)]
  rw [show (i+1)*sz+j - sz=i*sz+j by rw [Nat.add_mul]; omega]
  exact flatten_get (fun r hr=>hl r (by simp [hr])) (by simpa using hi) hj
theorem flatten_len {α:Type} {sz:Nat}:∀ {rows:List (List α)},(∀ r∈rows,r.length=sz)→rows.flatten.length=rows.length*sz
 | [],_=>by simp
 | x::xs,hl=>by
  simp only [List.flatten_cons,List.length_append,List.length_cons]
  rw [flatten_len (fun r hr=>hl r (by simp [hr])),hl x (by simp),Nat.add_mul]; omega
theorem row_vals {w:World} {ow:Nat→Prop} {κ:Kap} {e sz:Nat} {rows:List (List AV)} {u:Value} {b:Nat} (hro:RO w ow κ (.arr e sz rows) (.arr u)) (hb:u.ownBlock=some b)
  {i:Nat} {r cs:List AV} (hi:rows[i]?=some r) {off n:Nat} (hs:(r.drop off).take n=cs) (hl:cs.length=n) :
  ∃ vs:List Value,vs.length=n∧(∀ j v,vs[j]?=some v→w.cell? ⟨b,i*sz+off+j,none⟩=some v)∧Rv w ow κ cs vs∧∀ v∈vs,v.oneCell'=true:=by
 obtain⟨u',vals,hu,hown,hv,hlen,h1⟩:=hro
 cases hu
 have hr:r.length=sz:=(hlen r (List.mem_of_getElem? hi)).1
 have hlen:=fun r hr=>(hlen r hr).1
 have hcs:(rows.flatten.drop (i*sz+off)).take n=cs:=by
  subst hs
  apply List.ext_getElem?
  intro k
  rw [List.getElem?_take,List.getElem?_take]
  split
  ·rw [List.getElem?_drop,List.getElem?_drop]
   by_cases hk:off+k < sz
   ·rw [show i*sz+off+k=i*sz+(off+k) by omega,flatten_get hlen hi hk]
   ·exfalso
    simp only [List.length_take,List.length_drop,hr] at hl
    omega
  ·rfl
 have hseg:=Rv_seg (i*sz+off) n hv
 rw [hcs] at hseg
 refine⟨_,(Rv_length hseg).trans hl,?_,hseg,fun v hv=>h1 v (List.mem_of_mem_drop (List.mem_of_mem_take hv))⟩
 intro j v hj
 rw [List.getElem?_take] at hj
 split at hj
 ·rw [List.getElem?_drop] at hj
  have:=hown.cells hb (i*sz+off+j) v hj
  rwa [Addr.add_lit,Nat.zero_add] at this
 ·cases hj
def aset (cells:List AV) (off:Nat) (cs:List AV):List AV:=cells.take off++cs++cells.drop (off+cs.length)
theorem Rv_aset {w:World} {ow:Nat→Prop} {κ:Kap} {cells cs:List AV} {vs us:List Value} (h:Rv w ow κ cells vs) (k:Rv w ow κ cs us) (off:Nat) :
  Rv w ow κ (aset cells off cs) (vs.take off++us++vs.drop (off+us.length)):=by
 unfold aset
 have h1:=Rv_seg 0 off h
 simp only [List.drop_zero] at h1
 have h2:Rv w ow κ (cells.drop (off+cs.length)) (vs.drop (off+us.length)):=by
  have:=Rv_seg (off+cs.length) cells.length h
  rw [List.take_of_length_le (by simp),List.take_of_length_le (by simp [Rv_length h])] at this
  rwa [Rv_length k]
 exact Rv_append (Rv_append h1 k) h2
def bfill (place:Nat→Option (Nat × Nat)) (cells:List AV):List (Nat × AV)→Option (List AV)
 | []=>some cells
 | (i,x)::rest=>
  match place i with
  | none=>none
  | some (off,size)=>if x.cl.length=size∧off+size≤cells.length∧x.cl.all AV.one=true then bfill place (aset cells off x.cl) rest else none
theorem foldl_set (off:Nat):∀ (us:List Value) (k:Nat) (cs:Array Value),off+k+us.length≤cs.size →
  ((us.zipIdx k).foldl (fun(cs:Array Value) (p:Value × Nat)=>cs.setIfInBounds (off+p.2) p.1) cs).toList=cs.toList.take (off+k)++us++cs.toList.drop (off+k+us.length)
 | [],k,cs,_=>by simp
 | u::us,k,cs,h=>by
  simp only [List.length_cons] at h
  simp only [List.zipIdx_cons,List.foldl_cons]
  rw [foldl_set off us (k+1) _ (by simp; omega)]
  simp only [Array.toList_setIfInBounds]
  apply List.ext_getElem?
  intro i
  have hsz:cs.toList.length=cs.size:=by simp
  simp only [List.getElem?_append,List.getElem?_take,List.getElem?_drop,List.length_append,List.length_take,List.length_set,List.getElem?_set,List.length_cons,List.getElem?_cons,hsz]
  have e1:min (off+(k+1)) cs.size=off+k+1:=by omega
  have e2:min (off+k) cs.size=off+k:=by omega
  rw [e1,e2]
  rcases Nat.lt_trichotomy i (off+k) with hi | hi | hi
  ·have c1:i < off+k+1+us.length:=by omega
   have c2:i < off+k+(us.length+1):=by omega
   have c3:i < off+k+1:=by omega
   have c4:¬ off+k=i:=by omega
   have c5:i < off+(k+1):=by omega
   simp [c1,c2,c3,c4,c5,hi]
  ·subst hi
   have c1:off+k < off+k+1+us.length:=by omega
   have c6:off+k < cs.size:=by omega
   have c5:off+k < off+(k+1):=by omega
   simp [c1,c6,c5]
  ·have c3:¬ i < off+k+1:=by omega
   have c7:¬ i < off+k:=by omega
   by_cases c1:i < off+k+1+us.length
   ·have c2:i < off+k+(us.length+1):=by omega
    have c8:¬ i - (off+k)=0:=by omega
    have c9:i - (off+k+1)=i - (off+k) - 1:=by omega
    simp [c1,c2,c3,c7,c8,c9]
   ·have c2:¬ i < off+k+(us.length+1):=by omega
    have c10:off+(k+1)+us.length+(i - (off+k+1+us.length))=off+k+(us.length+1)+(i - (off+k+(us.length+1))):=by omega
    have c11:¬ off+k=off+(k+1)+us.length+(i - (off+k+1+us.length)):=by omega
    rw [if_neg c1,if_neg c2,if_neg c11,c10]
theorem fill_ok {w:World} {ow:Nat→Prop} {κ:Kap} {place:Nat→Option (Nat × Nat)}:∀ {parts:List (Nat × AV)} {vs:List (Nat × Value)} {cells out:List AV} {cur:Array Value},
  parts.map (·.1)=vs.map (·.1)→Rv w ow κ (parts.map (·.2)) (vs.map (·.2))→Rv w ow κ cells cur.toList→bfill place cells parts=some out →
  ∃ cur',Instr.fill place cur vs=some cur'∧Rv w ow κ out cur'.toList
 | [],vs,cells,out,cur,hm,_,hc,hb=>by
  have:vs=[]:=by simpa using hm.symm
  subst this
  simp [bfill] at hb; subst hb
  exact⟨cur,rfl,hc⟩
 | (i,x)::rest,vs,cells,out,cur,hm,hv,hc,hb=>by
  cases vs with
  | nil=>simp at hm
  | cons p r=>
   obtain⟨j,u⟩:=p
   simp only [List.map_cons,List.cons.injEq] at hm
   obtain⟨rfl,hm⟩:=hm
   simp only [List.map_cons,Rv,List.cons.injEq] at hv
   obtain⟨_,_,⟨rfl,rfl⟩,hx,hr⟩:=hv
   simp only [bfill] at hb
   cases hp:place i with
   | none=>simp [hp] at hb
   | some q=>
    obtain⟨off,size⟩:=q
    simp only [hp] at hb
    split at hb
    ·rename_i hcond
     obtain⟨h1,h2,h3⟩:=hcond
     have hcl:=R_cl hx h3
     have hsz:u.cells.size=size:=by have:=Rv_length hcl; simpa [h1] using this
     have hcs:cur.size=cells.length:=by have:=Rv_length hc; simpa using this
     have hf:=foldl_set off u.cells.toList 0 cur (by simp [hsz]; omega)
     have hf':(u.cells.zipIdx.foldl (fun cs (p:Value × Nat)=>cs.setIfInBounds (off+p.2) p.1) cur).toList=cur.toList.take off++u.cells.toList++cur.toList.drop (off+u.cells.toList.length):=by
      rw [← Array.foldl_toList,Array.toList_zipIdx]
      simpa using hf
     have hR:=Rv_aset hc hcl off
     rw [← hf'] at hR
     obtain⟨cur',e,hR'⟩:=fill_ok hm hr hR hb
     refine⟨cur',?_,hR'⟩
     simp only [Instr.fill,hp]
     rw [if_neg (by simp [hsz]; omega)]
     exact e
    ·cases hb
end Go.Proofs.YthlchdnbokhclaaGreat.Ql
namespace Go.Proofs.YthlchdnbokhclaaGreat.Ql
open Go
def clr {α:Type} (rows:List α) (lo hi:Nat) (z:α):List α:=rows.take lo++List.replicate (min hi rows.length - lo) z++rows.drop (max lo hi)
def prV (p:Int × Int):Value × Value:=(.agg #[.int .i64 p.1,.int .i64 p.2],.bool true)
def Mpt (P:Program) (T:Nat):Prop:=∃ K E e,P.underlying T=some (.map K E)∧P.underlying K=some (.array 2 e)∧P.underlying e=some (.int .i64)∧(P.info? e).map (·.size)=some 1∧(P.info? E).map (·.zero)=some (some (.bool false))∧P.stoodInHeld K=false∧P.eqGuardType P.depth K=false
def Bnd (ρ:Operand→AV) (y:Option Operand) (l n:Nat):Prop:=match y with | some y=>∃ k,ρ y=.sc (.int k l) | none=>l=n
theorem Bnd.loc {ρ ρ':Operand→AV} {y:Option Operand} {l n:Nat} (h:Bnd ρ y l n) (H:∀ x,y=some x→ρ' x=ρ x):Bnd ρ' y l n:=by
 cases y with
 | none=>exact h
 | some x=>obtain⟨k,h⟩:=h; exact⟨k,by rw [H x rfl]; exact h⟩
inductive Ex (P:Program):Oper→(Operand→AV)→(Nat→Option AO)→List Nat→AV→List (Nat × Option AO)→Prop
 | sl_hnd {o ρ σ T x lo hi e sz by_ z id e' rows} {l h:Nat} (ho:o.op=.slice T x lo hi none) (ht:Slc P T e sz by_ z) (hx:ρ x=.hnd id) (hb:σ id=some (.arr e' sz rows))
   (hlo:Bnd ρ lo l 0) (hhi:Bnd ρ hi h rows.length) (h1:l≤h) (h2:h≤rows.length) :
   Ex P o ρ σ [id] (.vw id sz l h rows.length) []
 | sl_max {o ρ σ T x y1 y2 y3 e sz by_ z id e' rows k1 k2 k3} {l h m:Nat} (ho:o.op=.slice T x (some y1) (some y2) (some y3)) (ht:Slc P T e sz by_ z) (hx:ρ x=.hnd id) (hb:σ id=some (.arr e' sz rows))
   (hl:ρ y1=.sc (.int k1 l)) (hh:ρ y2=.sc (.int k2 h)) (hm:ρ y3=.sc (.int k3 m)) (h1:l≤h) (h2:h≤m) (h3:m≤rows.length):Ex P o ρ σ [id] .undef []
 | sl_vw {o ρ σ T x lo hi e sz by_ z id l0 h0 c e' rows} {l h:Nat} (ho:o.op=.slice T x lo hi none) (ht:Slc P T e sz by_ z) (hx:ρ x=.vw id sz l0 h0 c) (hb:σ id=some (.arr e' sz rows))
   (hlo:Bnd ρ lo l 0) (hhi:Bnd ρ hi h (h0 - l0)) (h1:l≤h) (h2:l0+h≤c) :
   Ex P o ρ σ [id] (.vw id sz (l0+l) (l0+h) c) []
 | len_vw {o ρ σ T x e sz by_ z id l h c e' rows} (ho:o.op=.call { callee:=.builtin .len,args:=#[x],argTypes:=#[T] }) (ht:Slc P T e sz by_ z) (hx:ρ x=.vw id sz l h c) (hb:σ id=some (.arr e' sz rows)) :
   Ex P o ρ σ [id] (.sc (.int .i64 (h - l:Nat))) []
 | ix_vw {o ρ σ T x i e sz by_ z id l h c e' rows k n} (ho:o.op=.indexAddr T x i) (ht:Slc P T e sz by_ z) (hx:ρ x=.vw id sz l h c) (hb:σ id=some (.arr e' sz rows)) (hi:ρ i=.sc (.int k n)) (h0:0≤n) (hr:n.toNat < h - l) :
   Ex P o ρ σ [id] (.eptr id sz (l+n.toNat) 0) []
 | clear_vw {o ρ σ T x e sz by_ z id l h c e' rows} (ho:o.op=.call { callee:=.builtin .clear,args:=#[x],argTypes:=#[T] }) (ht:Slc P T e sz by_ z) (hx:ρ x=.vw id sz l h c) (hb:σ id=some (.arr e' sz rows)) (h1:z.cells.toList.all Value.oneCell'=true) :
   Ex P o ρ σ [id] (.tup []) [(id,some (.arr e' sz (clr rows l h (z.cells.toList.map .sc))))]
 | app_vw {o ρ σ T x y e sz by_ z id h c l2 h2 c2 e' rows d} (ho:o.op=.call { callee:=.builtin .append,args:=#[x,y],argTypes:=#[T,T] }) (hd:o.dst=some d) (ht:Slc P T e sz by_ z) (hx:ρ x=.vw id sz 0 h c) (hy:ρ y=.vw id sz l2 h2 c2)
   (hb:σ id=some (.arr e' sz rows)) (h1:h≤rows.length) (h3:h2≤rows.length) (h4:h+(h2 - l2)≤c) (he:e=e') (hne:d≠id) :
   Ex P o ρ σ [id] (.vw d sz 0 (h+(h2 - l2)) c) [(d,some (.arr e' sz (rows.take h++(rows.drop l2).take (h2 - l2)))),(id,none)]
 | own_vw {o ρ σ x sz id h c e' rows d} (ho:o.op=.move x∨o.op=.assign x) (hd:o.dst=some d) (hx:ρ x=.vw id sz 0 h c) (hb:σ id=some (.arr e' sz rows)) (h1:h≤rows.length) (hne:d≠id) :
   Ex P o ρ σ [id] (.hnd d) [(d,some (.arr e' sz (rows.take h))),(id,none)]
 | copy_hl {o ρ σ T S x y e sz by_ z id e' rows news} (ho:o.op=.call { callee:=.builtin .copy,args:=#[x,y],argTypes:=#[T,S] }) (ht:Slc P T e sz by_ z) (hx:ρ x=.hnd id) (hb:σ id=some (.arr e' sz rows)) (hy:ρ y=.lst sz news)
   (h1:news.flatten.all AV.one=true) (hi:news.flatten.all AV.im=true):Ex P o ρ σ [id] (.sc (.int .i64 (min news.length rows.length:Nat))) [(id,some (.arr e' sz (news.take rows.length++rows.drop news.length)))]
 | copy_vv {o ρ σ T S x y e sz by_ z id l h c l2 h2 c2 e' rows} (ho:o.op=.call { callee:=.builtin .copy,args:=#[x,y],argTypes:=#[T,S] }) (ht:Slc P T e sz by_ z) (hx:ρ x=.vw id sz l h c) (hy:ρ y=.vw id sz l2 h2 c2) (hb:σ id=some (.arr e' sz rows))
   (h1:h≤rows.length) (h3:h2≤rows.length):Ex P o ρ σ [id] (.sc (.int .i64 (min (h2 - l2) (h - l):Nat))) [(id,some (.arr e' sz (rows.take l++(rows.drop l2).take (min (h2 - l2) (h - l))++rows.drop (l+min (h2 - l2) (h - l)))))]
 | strix {o ρ σ T bs i k n b} (ho:o.op=.index T (.const (.string bs)) i) (hT:P.underlying T=some .string) (hi:ρ i=.sc (.int k n)) (h0:0≤n) (hb:bs.data.toList[n.toNat]?=some b):Ex P o ρ σ [] (.sc (.int .u8 b.toNat)) []
 | nil_fz {o ρ σ x cells off} (ho:o.op=.nilCheck x) (hx:ρ x=.fz (.ipt cells off)):Ex P o ρ σ [] (.ipt cells off) []
 | mk_map {o ρ σ T d} (ho:o.op=.makeMap T none) (hd:o.dst=some d):Ex P o ρ σ [] (.hnd d) [(d,some (.mp []))]
 | lookup {o ρ σ T m k id} {xs:List (Int × Int)} {p:Int × Int} (ho:o.op=.lookup T m k false) (hT:Mpt P T) (hm:ρ m=.hnd id) (hb:σ id=some (.mp (xs.map prV))) (hk:ρ k=.agg [.sc (.int .i64 p.1),.sc (.int .i64 p.2)]) :
   Ex P o ρ σ [id] (.sc (.bool (xs.contains p))) []
 | put {o ρ σ T m k v id} {xs:List (Int × Int)} {p:Int × Int} (ho:o.op=.mapUpdate T m k v) (hT:Mpt P T) (hm:ρ m=.hnd id) (hb:σ id=some (.mp (xs.map prV))) (hk:ρ k=.agg [.sc (.int .i64 p.1),.sc (.int .i64 p.2)]) (hv:ρ v=.sc (.bool true)) :
   Ex P o ρ σ [id] .undef [(id,some (.mp ((if xs.contains p then xs else xs++[p]).map prV)))]
theorem Ex.loc {P:Program} {o:Oper} {ρ ρ':Operand→AV} {σ σ':Nat→Option AO} {rd:List Nat} {v:AV} {wr:List (Nat × Option AO)} (h:Ex P o ρ σ rd v wr) (H:∀ x∈o.op.operands,ρ' x=ρ x) (S:∀ i∈rd,σ' i=σ i):Ex P o ρ' σ' rd v wr:=by
 cases h
 case sl_hnd T x lo hi e sz by_ z id e' rows l h ho ht hx hb hlo hhi h1 h2=>
  exact .sl_hnd ho ht (by rw [H _ (by simp [ho,Op.operands])]; exact hx) (by rw [S _ (by simp)]; exact hb) (hlo.loc fun y hy=>H y (by subst hy; simp [ho,Op.operands])) (hhi.loc fun y hy=>H y (by subst hy; simp [ho,Op.operands])) h1 h2
 case sl_max ho ht hx hb hl hh hm h1 h2 h3=>
  exact .sl_max ho ht (by rw [H _ (by simp [ho,Op.operands])]; exact hx) (by rw [S _ (by simp)]; exact hb) (by rw [H _ (by simp [ho,Op.operands])]; exact hl) (by rw [H _ (by simp [ho,Op.operands])]; exact hh) (by rw [H _ (by simp [ho,Op.operands])]; exact hm) h1 h2 h3
 case sl_vw T x lo hi e sz by_ z id l0 h0 c e' rows l h ho ht hx hb hlo hhi h1 h2=>
  exact .sl_vw ho ht (by rw [H _ (by simp [ho,Op.operands])]; exact hx) (by rw [S _ (by simp)]; exact hb) (hlo.loc fun y hy=>H y (by subst hy; simp [ho,Op.operands])) (hhi.loc fun y hy=>H y (by subst hy; simp [ho,Op.operands])) h1 h2
 case len_vw ho ht hx hb=>exact .len_vw ho ht (by rw [H _ (by simp [ho,Op.operands,Call.operands])]; exact hx) (by rw [S _ (by simp)]; exact hb)
 case ix_vw ho ht hx hb hi h0 hr=>exact .ix_vw ho ht (by rw [H _ (by simp [ho,Op.operands])]; exact hx) (by rw [S _ (by simp)]; exact hb) (by rw [H _ (by simp [ho,Op.operands])]; exact hi) h0 hr
 case clear_vw ho ht hx hb h1=>exact .clear_vw ho ht (by rw [H _ (by simp [ho,Op.operands,Call.operands])]; exact hx) (by rw [S _ (by simp)]; exact hb) h1
 case app_vw ho hd ht hx hy hb h1 h3 h4 he hne=>exact .app_vw ho hd ht (by rw [H _ (by simp [ho,Op.operands,Call.operands])]; exact hx) (by rw [H _ (by simp [ho,Op.operands,Call.operands])]; exact hy) (by rw [S _ (by simp)]; exact hb) h1 h3 h4 he hne
 case own_vw ho hd hx hb h1 hne=>exact .own_vw ho hd (by rw [H _ (by rcases ho with ho | ho <;> simp [ho,Op.operands])]; exact hx) (by rw [S _ (by simp)]; exact hb) h1 hne
 case copy_hl ho ht hx hb hy h1 hi=>exact .copy_hl ho ht (by rw [H _ (by simp [ho,Op.operands,Call.operands])]; exact hx) (by rw [S _ (by simp)]; exact hb) (by rw [H _ (by simp [ho,Op.operands,Call.operands])]; exact hy) h1 hi
 case copy_vv ho ht hx hy hb h1 h3=>exact .copy_vv ho ht (by rw [H _ (by simp [ho,Op.operands,Call.operands])]; exact hx) (by rw [H _ (by simp [ho,Op.operands,Call.operands])]; exact hy) (by rw [S _ (by simp)]; exact hb) h1 h3
 case strix ho hT hi h0 hb=>exact .strix ho hT (by rw [H _ (by simp [ho,Op.operands])]; exact hi) h0 hb
 case nil_fz ho hx=>exact .nil_fz ho (by rw [H _ (by simp [ho,Op.operands])]; exact hx)
 case mk_map ho hd=>exact .mk_map ho hd
 case lookup ho hT hm hb hk=>exact .lookup ho hT (by rw [H _ (by simp [ho,Op.operands])]; exact hm) (by rw [S _ (by simp)]; exact hb) (by rw [H _ (by simp [ho,Op.operands])]; exact hk)
 case put ho hT hm hb hk hv=>exact .put ho hT (by rw [H _ (by simp [ho,Op.operands])]; exact hm) (by rw [S _ (by simp)]; exact hb) (by rw [H _ (by simp [ho,Op.operands])]; exact hk) (by rw [H _ (by simp [ho,Op.operands])]; exact hv)
end Go.Proofs.YthlchdnbokhclaaGreat.Ql
namespace Go.Proofs.YthlchdnbokhclaaGreat.Ql
open Go
inductive Ax (P:Program):Oper→(Operand→AV)→(Nat→Option AO)→List Nat→AV→List (Nat × Option AO)→Prop
 | ext {o ρ σ rd v wr} (h:Ex P o ρ σ rd v wr):Ax P o ρ σ rd v wr
 | move {o ρ σ x v} (ho:o.op=.move x∨o.op=.assign x) (hs:Sub (ρ x) v):Ax P o ρ σ [] v []
 | load_ipt {o ρ σ T x n ag cells off cs} (ho:o.op=.load T x) (hz:Siz P T n ag) (hx:ρ x=.ipt cells off) (hs:(cells.drop off).take n=cs) (hl:cs.length=n):Ax P o ρ σ [] (AV.pack ag cs) []
 | load_box {o ρ σ T x n ag id cells off cs} (ho:o.op=.load T x) (hz:Siz P T n ag) (hx:ρ x=.ptr id off) (hb:σ id=some (.box cells)) (hs:(cells.drop off).take n=cs) (hl:cs.length=n):Ax P o ρ σ [id] (AV.pack ag cs) []
 | load_arr {o ρ σ T x n ag id e sz i j rows r cs} (ho:o.op=.load T x) (hz:Siz P T n ag) (hx:ρ x=.eptr id sz i j) (hb:σ id=some (.arr e sz rows)) (hr:rows[i]?=some r) (hs:(r.drop j).take n=cs) (hl:cs.length=n):Ax P o ρ σ [id] (AV.pack ag cs) []
 | field_ipt {o ρ σ S x f fo cells off} (ho:o.op=.fieldAddr S x f) (hf:Fld P S f fo) (hx:ρ x=.ipt cells off):Ax P o ρ σ [] (.ipt cells (off+fo)) []
 | field_ptr {o ρ σ S x f fo id off ob} (ho:o.op=.fieldAddr S x f) (hf:Fld P S f fo) (hx:ρ x=.ptr id off) (hb:σ id=some ob):Ax P o ρ σ [id] (.ptr id (off+fo)) []
 | field_eptr {o ρ σ S x f fo id sz i j ob} (ho:o.op=.fieldAddr S x f) (hf:Fld P S f fo) (hx:ρ x=.eptr id sz i j) (hb:σ id=some ob):Ax P o ρ σ [id] (.eptr id sz i (j+fo)) []
 | index_lst {o ρ σ T x i e sz by_ z rows k n r} (ho:o.op=.indexAddr T x i) (ht:Slc P T e sz by_ z) (hx:ρ x=.lst sz rows) (hi:ρ i=.sc (.int k n)) (h0:0≤n) (hr:rows[n.toNat]?=some r):Ax P o ρ σ [] (.ipt r 0) []
 | index_hnd {o ρ σ T x i e sz by_ z id e' rows k n} (ho:o.op=.indexAddr T x i) (ht:Slc P T e sz by_ z) (hx:ρ x=.hnd id) (hb:σ id=some (.arr e' sz rows)) (hi:ρ i=.sc (.int k n)) (h0:0≤n) (hr:n.toNat < rows.length):Ax P o ρ σ [id] (.eptr id sz n.toNat 0) []
 | index_ipt {o ρ σ T x i len esz cells off k n} (ho:o.op=.indexAddr T x i) (ht:Arr P T len esz) (hx:ρ x=.ipt cells off) (hi:ρ i=.sc (.int k n)) (h0:0≤n) (hr:n.toNat < len):Ax P o ρ σ [] (.ipt cells (off+n.toNat*esz)) []
 | index_ptr {o ρ σ T x i len esz id off ob k n} (ho:o.op=.indexAddr T x i) (ht:Arr P T len esz) (hx:ρ x=.ptr id off) (hb:σ id=some ob) (hi:ρ i=.sc (.int k n)) (h0:0≤n) (hr:n.toNat < len):Ax P o ρ σ [id] (.ptr id (off+n.toNat*esz)) []
 | store_box {o ρ σ T x y n ag id cells off cs} (ho:o.op=.store T x y) (hz:Siz P T n ag) (hx:ρ x=.ptr id off) (hb:σ id=some (.box cells)) (hy:(ρ y).cl=cs) (hl:cs.length=n) (h1:cs.all AV.one=true) (hn:off+n≤cells.length):Ax P o ρ σ [id] .undef [(id,some (.box (aset cells off cs)))]
 | store_arr {o ρ σ T x y n ag id e sz i j rows r cs} (ho:o.op=.store T x y) (hz:Siz P T n ag) (hx:ρ x=.eptr id sz i j) (hb:σ id=some (.arr e sz rows)) (hr:rows[i]?=some r) (hy:(ρ y).cl=cs) (hl:cs.length=n) (h1:cs.all AV.one=true) (hi:cs.all AV.im=true) (hn:j+n≤sz):Ax P o ρ σ [id] .undef [(id,some (.arr e sz (rows.set i (aset r j cs))))]
 | alloc {o ρ σ T z id cs} (ho:o.op=.alloc T) (hd:o.dst=some id) (hz:Zer P T z) (h1:z.cells.toList.all Value.oneCell'=true) (hs:SubV (z.cells.toList.map .sc) cs):Ax P o ρ σ [] (.ptr id 0) [(id,some (.box cs))]
 | box_ipt {o ρ σ T x cs} (ho:o.op=.box T x) (hx:(ρ x).cl=cs) (h1:cs.all AV.one=true) (hi:cs.all AV.im=true):Ax P o ρ σ [] (.ipt cs 0) []
 | box_ptr {o ρ σ T x cs id} (ho:o.op=.box T x) (hd:o.dst=some id) (hx:(ρ x).cl=cs) (h1:cs.all AV.one=true):Ax P o ρ σ [] (.ptr id 0) [(id,some (.box cs))]
 | build {o ρ σ T z cs0 cs} {ps:List (Nat × Nat)} {parts:Array (Nat × Operand)} (ho:o.op=.build T parts) (hz:Zer P T z)
   (hp:∀ (w:World) (vs:List (Nat × Value)) (c:Array Value),Instr.fill (fun i=>ps[i]?) z.cells vs=some c→(Instr.build T vs.toArray).run P w=.ok (.agg c) w)
   (hb:bfill (fun i=>ps[i]?) (z.cells.toList.map .sc) (parts.toList.map fun p=>(p.1,ρ p.2))=some cs0) (hs:SubV cs0 cs):Ax P o ρ σ [] (.agg cs) []
 | slice_lit {o ρ σ T len e sz by_ z rows fl} {parts:Array (Nat × Operand)} (ho:o.op=.buildSlice T len parts) (ht:Slc P T e sz by_ z) (hn:len*sz≤16777216)
   (hb:bfill (fun i=>some (i*sz,sz)) (List.replicate (len*sz) .undef) (parts.toList.map fun p=>(p.1,ρ p.2))=some fl) (hsub:SubV fl rows.flatten) (hl:rows.length=len) (hs:∀ r∈rows,r.length=sz)
   (h1:rows.flatten.all AV.one=true) (hi:rows.flatten.all AV.im=true):Ax P o ρ σ [] (.lst sz rows) []
 | slice_obj {o ρ σ T len e sz by_ z rows fl id} {parts:Array (Nat × Operand)} (ho:o.op=.buildSlice T len parts) (ht:Slc P T e sz by_ z) (hn:len*sz≤16777216)
   (hb:bfill (fun i=>some (i*sz,sz)) (List.replicate (len*sz) .undef) (parts.toList.map fun p=>(p.1,ρ p.2))=some fl) (hsub:SubV fl rows.flatten) (hl:rows.length=len) (hs:∀ r∈rows,r.length=sz)
   (h1:rows.flatten.all AV.one=true) (hi:rows.flatten.all AV.im=true):Ax P o ρ σ [] (.hnd id) [(id,some (.arr e sz rows))]
 | slice_new {o ρ σ T e sz by_ z id} (ho:o.op=.buildSlice T 0 #[]) (hd:o.dst=some id) (ht:Slc P T e sz by_ z):Ax P o ρ σ [] (.hnd id) [(id,some (.arr e sz []))]
 | extract {o ρ σ x i vs v} (ho:o.op=.extract x i) (hx:ρ x=.tup vs) (hv:vs[i]?=some v):Ax P o ρ σ [] v []
 | pick {o ρ σ c x y b v} (ho:o.op=.pick c x y) (hc:ρ c=.sc (.bool b)) (hv:(bif b then ρ x else ρ y)=v):Ax P o ρ σ [] v []
 | bin {o ρ σ op T x y U k n m v} (ho:o.op=.binOp op T x y U) (hx:ρ x=.sc (.int k n)) (hy:ρ y=.sc (.int k m)) (hv:bin2 op k n m=some v):Ax P o ρ σ [] (.sc v) []
 | div {o ρ σ op T x y U k n m} (ho:o.op=.binOp op T x y U) (hx:ρ x=.sc (.int k n)) (hy:ρ y=.sc (.int k m)) (hop:op=.quo∨op=.rem) (hm:m≠0):Ax P o ρ σ [] (.sc (.int k (if op=.quo then k.wrap (n.tdiv m) else n.tmod m))) []
 | binc {o ρ σ op T x y U X Y V} (ho:o.op=.binOp op T x y U) (hx:ρ x=ofConst X) (hy:ρ y=ofConst Y) (hv:∀ w:World,(do eqGuard op T x y X Y; binOp op T X Y:Sem Value).run P w=.ok V w):Ax P o ρ σ [] (ofConst V) []
 | nilcmp {o ρ σ T x U e sz rows} (ho:o.op=.binOp .eql T x (.const (.slice none 0 0)) U) (hT:P.underlying T=some (.slice e)) (hx:ρ x=.lst sz rows) (hne:rows≠[]):Ax P o ρ σ [] (.sc (.bool false)) []
 | un {o ρ σ op T x X V} (ho:o.op=.unOp op T x) (hx:ρ x=.sc X) (hv:∀ w:World,(Op.unary op X).run P w=.ok V w):Ax P o ρ σ [] (.sc V) []
 | conv {o ρ σ S T x X V} (ho:o.op=.convert S T x) (hx:ρ x=.sc X) (hv:∀ w:World,(convert S T X).run P w=.ok V w):Ax P o ρ σ [] (.sc V) []
 | len_lst {o ρ σ T x e sz by_ z rows sz'} (ho:o.op=.call { callee:=.builtin .len,args:=#[x],argTypes:=#[T] }) (ht:Slc P T e sz by_ z) (hx:ρ x=.lst sz' rows):Ax P o ρ σ [] (.sc (.int .i64 rows.length)) []
 | len_hnd {o ρ σ T x e sz by_ z id e' sz' rows} (ho:o.op=.call { callee:=.builtin .len,args:=#[x],argTypes:=#[T] }) (ht:Slc P T e sz by_ z) (hx:ρ x=.hnd id) (hb:σ id=some (.arr e' sz' rows)):Ax P o ρ σ [id] (.sc (.int .i64 rows.length)) []
 | min {o ρ σ x y ts k n m} (ho:o.op=.call { callee:=.builtin .min,args:=#[x,y],argTypes:=ts }) (hx:ρ x=.sc (.int k n)) (hy:ρ y=.sc (.int k m)):Ax P o ρ σ [] (.sc (.int k (if m < n then m else n))) []
 | max {o ρ σ x y ts k n m} (ho:o.op=.call { callee:=.builtin .max,args:=#[x,y],argTypes:=ts }) (hx:ρ x=.sc (.int k n)) (hy:ρ y=.sc (.int k m)):Ax P o ρ σ [] (.sc (.int k (if m > n then m else n))) []
 | nil_ipt {o ρ σ x cells off} (ho:o.op=.nilCheck x) (hx:ρ x=.ipt cells off):Ax P o ρ σ [] (.ipt cells off) []
 | nil_ptr {o ρ σ x id off ob} (ho:o.op=.nilCheck x) (hx:ρ x=.ptr id off) (hb:σ id=some ob):Ax P o ρ σ [id] (.ptr id off) []
 | func {o ρ σ f cs vs} (ho:o.op=.makeFunc (.func f) #[] cs) (hv:cs.toList.map ρ=vs):Ax P o ρ σ [] (.fn f vs) []
 | iface {o ρ σ T x d} (ho:o.op=.makeInterface T x) (hd:P.underlying T=some d) (hn:(match d with | .interface _=>false | _=>true)=true):Ax P o ρ σ [] (.ifc T (ρ x)) []
 | sub {o ρ σ T x lo hi e sz by_ z rows} {l h:Nat} (ho:o.op=.slice T x lo hi none) (ht:Slc P T e sz by_ z) (hx:ρ x=.lst sz rows)
   (hlo:match lo with | some y=>∃ k,ρ y=.sc (.int k l) | none=>l=0) (hhi:match hi with | some y=>∃ k,ρ y=.sc (.int k h) | none=>h=rows.length) (h1:l≤h) (h2:h≤rows.length) :
   Ax P o ρ σ [] (.lst sz ((rows.drop l).take (h - l))) []
 | make {o ρ σ T x y e sz by_ z k k' n id} (ho:o.op=.makeSlice T x y) (hd:o.dst=some id) (ht:Slc P T e sz by_ z) (hx:ρ x=.sc (.int k (Int.ofNat n))) (hy:ρ y=.sc (.int k' (Int.ofNat n))) (hb:by_*n≤281474976710656) (h63:n≤maxLen)
   (h1:z.cells.toList.all Value.oneCell'=true):Ax P o ρ σ [] (.hnd id) [(id,some (.arr e sz (List.replicate n (z.cells.toList.map .sc))))]
 | append {o ρ σ T x y e sz by_ z id d rows news} (ho:o.op=.call { callee:=.builtin .append,args:=#[x,y],argTypes:=#[T,T] }) (hd:o.dst=some d) (ht:Slc P T e sz by_ z)
   (hx:ρ x=.hnd id) (hb:σ id=some (.arr e sz rows)) (hy:ρ y=.lst sz news) (h1:news.flatten.all AV.one=true) (hi:news.flatten.all AV.im=true) (hn:(rows.length+news.length)*by_≤140737488355328) (h63:rows.length+news.length≤maxLen) (hne:d≠id) :
   Ax P o ρ σ [id] (.hnd d) [(d,some (.arr e sz (rows++news))),(id,none)]
 | append_nil {o ρ σ T x y e sz by_ z d news} (ho:o.op=.call { callee:=.builtin .append,args:=#[x,y],argTypes:=#[T,T] }) (hd:o.dst=some d) (ht:Slc P T e sz by_ z)
   (hx:ρ x=.sc (.slice none 0 0)) (hy:ρ y=.lst sz news) (h1:news.flatten.all AV.one=true) (hi:news.flatten.all AV.im=true) (hn:news.length*by_≤140737488355328) (h63:news.length≤maxLen) :
   Ax P o ρ σ [] (.hnd d) [(d,some (.arr e sz news))]
 | nil_new {o ρ σ x d} (e sz:Nat) (ho:o.op=.move x∨o.op=.assign x) (hx:ρ x=.sc (.slice none 0 0)):Ax P o ρ σ [] (.hnd d) [(d,some (.arr e sz []))]
end Go.Proofs.YthlchdnbokhclaaGreat.Ql
namespace Go.Proofs.YthlchdnbokhclaaGreat.Ql
open Go
section
variable {P:Program} {C:Ctx} {κ:Kap} {s:AS} {a:Act} {w:World} {o:Oper}
abbrev Fin (C:Ctx) (s:AS) (o:Oper) (v:AV) (wr:List (Nat × Option AO)) (next:Act→World→Prop):Prop:=∀ a' w',γ C (apply s o.dst v wr) a' w'→next a' w'
theorem quiet {next:Act→World→Prop} {Q:Exit→Act→World→Prop} {v:AV} {u:Value} (hg:G C κ s a w) (hd:∀ d,o.dst=some d→d < C.n) (hn:Fin C s o v [] next)
  (hrun:(execOp a.eval o).run P w=.ok (.value u) w) (hr:R w (OW C κ) κ v u):o.wp P a w next Q:=
 wp_value hrun (hn _ _ ⟨κ,hg.putd hd hr⟩)
theorem quiet_new {next:Act→World→Prop} {Q:Exit→Act→World→Prop} {v:AV} {u:Value} {ob:Obj} (hg:G C κ s a w) (hd:∀ d,o.dst=some d→d < C.n) (hn:Fin C s o v [] next)
  (hrun:(execOp a.eval o).run P w=.ok (.value u) (w.alloc ob)) (hr:R (w.alloc ob) (OW C κ) κ v u):o.wp P a w next Q:=
 wp_value hrun (hn _ _ ⟨κ,(hg.alloc ob).putd hd hr⟩)
theorem R_ipt {w:World} {ow:Nat→Prop} {κ:Kap} {cells:List AV} {off:Nat} {u:Value} (h:R w ow κ (.ipt cells off) u) :
  ∃ b p,u=.pointer (some ⟨b,p+off,none⟩)∧b < w.heap.size∧¬ ow b∧RIc w ow b cells p:=by simpa [R,RI] using h
theorem G.obj (hg:G C κ s a w) {id:Nat} {ob:AO} (h:lo s.ob id=some ob):∃ k,κ id=some k∧RO w (OW C κ) κ ob k:=hg.ob id ob h
theorem not_owned_new (hg:G C κ s a w):¬ OW C κ w.heap.size:=fun h=>by have:=hg.fresh_lt _ h; omega
theorem RI_all {w:World} {ow:Nat→Prop} {κ:Kap}:∀ {cs:List AV} {vs:List Value},Rv w ow κ cs vs→cs.all AV.im=true→RIv w ow cs vs
 | [],vs,h,_=>by simp only [Rv] at h; simp [RIv,h]
 | x::xs,vs,h,hi=>by
  simp only [Rv] at h; obtain⟨v,r,rfl,hv,hr⟩:=h
  simp at hi
  simp only [RIv]
  exact⟨v,r,rfl,RI_of_R hi.1 hv,RI_all hr (by simpa using hi.2)⟩
theorem RIc_new {ow:Nat→Prop} {κ:Kap} {cs:List AV} {cur:Array Value} {e:Nat} (hR:Rv w ow κ cs cur.toList) (hi:cs.all AV.im=true) (h1:∀ v∈cur.toList,v.oneCell'=true) :
  RIc (w.alloc (.cells cur e)) ow w.heap.size cs 0:=by
 have hv:=RIv_mono (keeps_alloc w (.cells cur e) ow) _ _ (RI_all hR hi)
 refine RIc_of fun k x hk=>?_
 obtain⟨v,hv1,hv2⟩:=RIv_get hv hk
 refine⟨v,?_,hv2,h1 v (List.mem_of_getElem? hv1)⟩
 rw [Nat.zero_add,cell_of_row _ _ k cur e (0,0) (heap_alloc_new w _)]
 simpa using hv1
theorem chunk_RIr {w:World} {ow:Nat→Prop} {b sz:Nat}:∀ {rows:List (List AV)} {p:Nat},(∀ r∈rows,r.length=sz)→RIc w ow b rows.flatten p→RIr w ow sz b rows p
 | [],_,_,_=>by simp [RIr]
 | r::rs,p,hl,h=>by
  simp only [RIr]
  have hr:=hl r (by simp)
  refine⟨hr,RIc_of fun k x hk=>?_,chunk_RIr (fun r hr=>hl r (by simp [hr])) (RIc_of fun k x hk=>?_)⟩
  ·have hk':=(List.getElem?_eq_some_iff.1 hk).1
   exact RIc_get h (by simp only [List.flatten_cons]; rw [List.getElem?_append_left hk']; exact hk)
  ·have:=RIc_get (k:=sz+k) h (by simp only [List.flatten_cons]; rw [List.getElem?_append_right (by omega),hr]; simpa using hk)
   rwa [show p+sz+k=p+(sz+k) by omega]
theorem flatten_set {sz:Nat}:∀ {rows:List (List AV)} {i j:Nat} {r cs:List AV},(∀ r∈rows,r.length=sz)→rows[i]?=some r→j+cs.length≤sz →
  (rows.set i (aset r j cs)).flatten=aset rows.flatten (i*sz+j) cs
 | [],_,_,_,_,_,hi,_=>by simp at hi
 | x::xs,0,j,r,cs,hl,hi,hj=>by
  simp at hi; subst hi
  have hx:=hl x (by simp)
  simp only [List.set_cons_zero,List.flatten_cons,aset,Nat.zero_mul,Nat.zero_add]
  rw [List.take_append_of_le_length (by omega),List.drop_append_of_le_length (by omega)]
  simp [List.append_assoc]
 | x::xs,i+1,j,r,cs,hl,hi,hj=>by
  have hx:=hl x (by simp)
  have ih:=flatten_set (i:=i) (j:=j) (r:=r) (cs:=cs) (rows:=xs) (fun q hq=>hl q (List.mem_cons_of_mem _ hq)) (by simpa using hi) hj
  simp only [List.set_cons_succ,List.flatten_cons,ih]
  simp only [aset]
  have e1:(i+1)*sz+j=x.length+(i*sz+j):=by rw [Nat.add_mul,hx]; omega
  rw [e1,List.take_append,List.take_of_length_le (by omega:x.length≤x.length+(i*sz+j)),List.drop_append,List.drop_eq_nil_of_le (by omega:x.length≤x.length+(i*sz+j)+cs.length)]
  simp [List.append_assoc,Nat.add_assoc]
theorem aset_length {cells cs:List AV} {off:Nat} (h:off+cs.length≤cells.length):(aset cells off cs).length=cells.length:=by
 simp [aset]; omega
theorem setRow_size (w:World) (b:Nat) (c:Array Value):(w.setRow b c).heap.size=w.heap.size:=by simp [World.setRow]
theorem ev_men {ob0:List (Nat × Option AO)} {s:AS} {id:Nat} (hf:s.fresh ob0 id) (x:Operand):menL id (Ql.ev s.tm x).cl=false:=by
 have key:∀ v:AV,v.men id=false→menL id v.cl=false:=by
  intro v hv
  cases v <;> simp_all [AV.cl,menL,AV.men]
 apply key
 cases x with
 | tmp t=>exact hf.t t
 | const v=>
  have hl:∀ l:List Value,menL id (l.map .sc)=false:=by
   intro l; induction l with
   | nil=>rfl
   | cons x xs ih=>simp [menL,AV.men,ih]
  cases v <;> simp [Ql.ev,ofConst,AV.men,hl]
 | func f=>simp [Ql.ev,AV.men,menL]
 | global g=>simp [Ql.ev,AV.men]
theorem Rv_new (hg:G C κ s a w) {id:Nat} (hf:s.fresh C.ob0 id) {ob:Obj} {k:KO} (hk:k.blk=some w.heap.size) {cs:List AV} {vs:List Value} (hm:menL id cs=false) (h:Rv w (OW C κ) κ cs vs) :
  Rv (w.alloc ob) (OW C (κ.set id (some k))) (κ.set id (some k)) cs vs:=by
 refine Rv_men ⟨by simp,fun b hb hn=>⟨?_,heap_alloc_old w ob b hb⟩⟩ cs vs (fun i l e=>?_) h
 ·rintro(hx | ⟨i,l,hi,hbl⟩)
  ·exact hn (.inl hx)
  ·simp only [Kap.set] at hi
   split at hi
   ·cases hi; rw [hk] at hbl; cases hbl; omega
   ·exact hn (.inr ⟨i,l,hi,hbl⟩)
 ·simp only [Kap.set] at e
  split at e
  ·rename_i e'; subst e'; exact .inr hm
  ·exact .inl e
theorem R_lst {w:World} {ow:Nat→Prop} {κ:Kap} {sz:Nat} {rows:List (List AV)} {u:Value} (h:R w ow κ (.lst sz rows) u) :
  ∃ a cap,u=.slice a rows.length cap∧rows.length≤cap∧(rows=[]∨∃ b off,a=some ⟨b,off,none⟩∧b < w.heap.size∧¬ ow b∧RIr w ow sz b rows off):=by simpa [R,RI] using h
theorem RIr_flat {w:World} {ow:Nat→Prop} {b sz:Nat}:∀ {rows:List (List AV)} {p:Nat},RIr w ow sz b rows p→(∀ r∈rows,r.length=sz)∧RIc w ow b rows.flatten p
 | [],_,_=>by simp [RIc]
 | r::rs,p,h=>by
  simp only [RIr] at h
  obtain⟨h1,h2,h3⟩:=h
  obtain⟨i1,i2⟩:=RIr_flat h3
  refine⟨by intro q hq; rcases List.mem_cons.1 hq with rfl | hq; exact h1; exact i1 q hq,?_⟩
  simp only [List.flatten_cons]
  refine RIc_of fun k x hk=>?_
  by_cases hlt:k < r.length
  ·rw [List.getElem?_append_left hlt] at hk
   exact RIc_get h2 hk
  ·rw [List.getElem?_append_right (by omega)] at hk
   have:=RIc_get i2 hk
   rwa [h1,show p+sz+(k - sz)=p+k by omega] at this
theorem run_app {T e sz by_:Nat} {z:Value} (ht:Slc P T e sz by_ z) {ty:Nat} {u:Value} {n:Nat} {xs:List Value} (hown:w.ownsRow 0 e sz u n xs)
  {ad:Option Addr} {m c:Nat} {news:List Value} (hl:news.length=m*sz) (hnews:∀ a,ad=some a→∀ j v,news[j]?=some v→w.cell? (a.add j)=some v) (hnone:ad=none→m=0)
  (h1:∀ v∈news,v.oneCell'=true) (h63:n+m≤maxLen) (hb:(n+m)*by_≤140737488355328) :
  ∃ v' w',(Builtin.append_ #[T,T] ty #[u,.slice ad m c]).run P w=.ok v' w'∧w'.ownsRow 0 e sz v' (n+m) (xs++news)∧w.grownBy w' u.ownBlock∧∀ b,v'.ownBlock=some b→u.ownBlock=some b∨w.heap.size≤b:=by
 obtain⟨i,hi,his,hib,hiz⟩:=ht.info
 have hsmall:n+m≤9223372036854775807:=by simp only [maxLen] at h63; omega
 cases ad with
 | none=>
  have hm:=hnone rfl
  subst hm
  have hn0:news=[]:=List.eq_nil_of_length_eq_zero (by simpa using hl)
  subst hn0
  refine⟨u,w,?_,by simpa using hown,⟨rfl,rfl,rfl,Nat.le_refl _,fun _ _ _=>rfl⟩,fun b hb'=>.inl hb'⟩
  rcases hown.2 with ⟨rfl,rfl⟩ | ⟨g,cap,cur,rfl,_,hg,hnc,_⟩
  ·simp [Builtin.append_,run_underlying ht.und,run_size (P:=P) (T:=e) (n:=sz) (by simp [hi,his]),Builtin.lenOf,Builtin.firstCells]
  ·simp [Builtin.append_,run_underlying ht.und,run_size (P:=P) (T:=e) (n:=sz) (by simp [hi,his]),Builtin.lenOf,Builtin.firstCells,hnc,storeCells]
 | some a=>
  have hnews:=hnews a rfl
  obtain⟨v',w',hr,ho,hg,hnil⟩:=run_append_own (P:=P) w 0 T ty e i z sz by_ ht.und hi hiz his hib ht.2.2.1 ht.2.2.2 u n xs hown a m c news hl hnews h1 h63 hb (Nat.zero_le _)
  refine⟨v',w',hr,ho,hg,?_⟩
  rcases hown.2 with ⟨rfl,rfl⟩ | ⟨g,cap,cur,rfl,_,hgg,hnc,hcm,hcs,htk⟩
  ·by_cases hm:m=0
   ·have:=hnil.2 ⟨rfl,hm⟩
    subst this
    intro b hb'; simp [Value.ownBlock] at hb'
   ·have hr2:=run_append_nil (P:=P) w T ty e i z ht.und hi hiz a m c news (by rw [his]; exact hl) hnews (by omega) (by omega) (by rw [hib]; simp only [Nat.zero_add] at hb; omega)
    rw [hr2] at hr; cases hr
    intro b hb'; simp [Value.ownBlock] at hb'; exact .inr (by omega)
  ·by_cases hroom:n+m≤cap
   ·have hr2:=run_append_room (P:=P) w T ty e i ht.und hi g n cap cur hgg a m c news (by rw [his]; exact hl) hnews h1 hroom (by rw [his,hl,hcs,← Nat.add_mul]; exact Nat.mul_le_mul_right _ hroom)
    rw [hr2] at hr; cases hr
    intro b hb'; exact .inl hb'
   ·have hr2:=run_append_grow (P:=P) w T ty e i z ht.und hi hiz ⟨g,0,none⟩ n cap xs (by rw [his]; exact hown.1) (hown.cells rfl) a m c news (by rw [his]; exact hl) hnews (by omega) (by omega) (by rw [hib]; exact growslice_fits (by omega) hb)
    rw [hr2] at hr; cases hr
    intro b hb'; simp [Value.ownBlock] at hb'; exact .inr (by omega)
theorem G.swap (h:G C κ s a w) {id d:Nat} {k0 k:KO} (hk0:κ id=some k0) (hfr:s.fresh C.ob0 d) (hne:d≠id) {w':World} {o:AO}
  (hsz:w.heap.size≤w'.heap.size) (hold:∀ b,b < w.heap.size→k0.blk≠some b→w'.heap[b]?=w.heap[b]?) (hf:w'.os=w.os∧w'.tape=w.tape∧w'.output=w.output)
  (hkb:∀ b,k.blk=some b→k0.blk=some b∨w.heap.size≤b)
  (hro:Keeps w (OW C κ) w' (OW C ((κ.set id none).set d (some k)))→RO w' (OW C ((κ.set id none).set d (some k))) ((κ.set id none).set d (some k)) o k) :
  G C ((κ.set id none).set d (some k)) { s with ob:=(d,some o)::(id,none)::s.ob } a w':=by
 have hcomp:∀ (i:Nat) (l:KO),((κ.set id none).set d (some k)) i=some l→(κ i=some l∧i≠id∧i≠d)∨(i=d∧l=k):=by
  intro i l e
  simp only [Kap.set] at e
  by_cases h1:i=d
  ·rw [if_pos h1] at e; cases e; exact .inr ⟨h1,rfl⟩
  ·rw [if_neg h1] at e
   by_cases h2:i=id
   ·rw [if_pos h2] at e; cases e
   ·rw [if_neg h2] at e; exact .inl ⟨e,h2,h1⟩
 have how:∀ b,OW C ((κ.set id none).set d (some k)) b→OW C κ b∨w.heap.size≤b:=by
  rintro b (hb | ⟨i,l,hi,hb⟩)
  ·exact .inl (.inl hb)
  ·rcases hcomp i l hi with ⟨e,_,_⟩ | ⟨e,el⟩
   ·exact .inl (.inr ⟨i,l,e,hb⟩)
   ·subst el
    rcases hkb b hb with e' | e'
    ·exact .inl (.inr ⟨id,k0,hk0,e'⟩)
    ·exact .inr e'
 have hk:Keeps w (OW C κ) w' (OW C ((κ.set id none).set d (some k))):=⟨hsz,fun b hb hnb=>⟨fun e=>by
  rcases how b e with e | e
  ·exact hnb e
  ·omega,hold b hb (fun e=>hnb (.inr ⟨id,k0,hk0,e⟩))⟩⟩
 have hc2:∀ (i:Nat) (l:KO),((κ.set id none).set d (some k)) i=some l→κ i=some l∨i=d:=fun i l e=>(hcomp i l e).imp (fun h=>h.1) (fun h=>h.1)
 exact {
  tm:=fun t=>R_men hk _ _ (fun i l e=>(hc2 i l e).imp (fun e=>e) (fun e=>by subst e; exact hfr.t t)) (h.tm t)
  ob:=fun i o' ho'=>by
   rw [lo_cons] at ho'
   by_cases h1:d=i
   ·rw [if_pos h1] at ho'; cases ho'
    exact⟨k,by simp [Kap.set,h1],hro hk⟩
   ·rw [if_neg h1,lo_cons] at ho'
    by_cases h2:id=i
    ·rw [if_pos h2] at ho'; cases ho'
    ·rw [if_neg h2] at ho'
     obtain⟨l,hl,hr⟩:=h.ob i o' ho'
     refine⟨l,by simp only [Kap.set]; rw [if_neg (fun x=>h1 x.symm),if_neg (fun x=>h2 x.symm)]; exact hl,RO_men hk (fun b hb=>hold b (RO_lt hr hb) (fun e=>h2 (h.inj id i k0 l b hk0 hl e hb))) (fun j m em=>(hc2 j m em).imp (fun e=>e) (fun e=>by subst e; exact hfr.o i o' ho')) hr⟩
  live:=fun i l e=>by
   rw [lo_cons]
   rcases hcomp i l e with ⟨e,h2,h1⟩ | ⟨e,_⟩
   ·rw [if_neg (fun x=>h1 x.symm),lo_cons,if_neg (fun x=>h2 x.symm)]; exact h.live i l e
   ·rw [if_pos e.symm]; exact⟨o,rfl⟩
  inj:=fun i j l m b hi hj hb hb'=>by
   have lt:∀ {i:Nat} {l:KO},κ i=some l→l.blk=some b→b < w.heap.size:=fun hi hb=>h.fresh_lt b (.inr ⟨_,_,hi,hb⟩)
   rcases hcomp i l hi with ⟨e1,n1,_⟩ | ⟨e1,rfl⟩ <;> rcases hcomp j m hj with ⟨e2,n2,_⟩ | ⟨e2,rfl⟩
   ·exact h.inj i j l m b e1 e2 hb hb'
   ·exfalso
    rcases hkb b hb' with e' | e'
    ·exact n1 (h.inj i id l k0 b e1 hk0 hb e')
    ·have:=lt e1 hb; omega
   ·exfalso
    rcases hkb b hb with e' | e'
    ·exact n2 (h.inj j id m k0 b e2 hk0 hb' e')
    ·have:=lt e2 hb'; omega
   ·rw [e1,e2]
  size:=h.size
  dfs:=h.dfs
  fr:=⟨hf.1.trans h.fr.os,hf.2.1.trans h.fr.tape,hf.2.2.trans h.fr.output,Nat.le_trans h.fr.size hsz,fun b hb hn=>by
   rw [hold b (Nat.lt_of_lt_of_le hb h.fr.size) (fun e=>hn ((h.old b ⟨id,k0,hk0,e⟩).1 hb))]; exact h.fr.block b hb hn⟩
  old:=fun b hb=>by
   obtain⟨i,l,hi,hbl⟩:=hb
   rcases hcomp i l hi with ⟨e,_,_⟩ | ⟨e,rfl⟩
   ·exact h.old b ⟨i,l,e,hbl⟩
   ·rcases hkb b hbl with e' | e'
    ·exact h.old b ⟨id,k0,hk0,e'⟩
    ·have h2:=h.fr.size
     exact⟨fun hlt=>by omega,fun hx=>by have:=C.hox b hx; omega⟩
  keep:=fun i l e=>by
   simp only [Kap.set]
   split
   ·rename_i e'; subst e'; obtain⟨o',ho'⟩:=C.hk0 i l e; rw [hfr.c] at ho'; cases ho'
   ·split
    ·exact .inl rfl
    ·exact h.keep i l e }
theorem repl_flat {α:Type} (l:List α):∀ (n q:Nat),q < n*l.length→(List.replicate n l).flatten[q]?=l[q % l.length]?
 | 0,q,h=>by simp at h
 | n+1,q,h=>by
  simp only [List.replicate_succ,List.flatten_cons]
  by_cases hq:q < l.length
  ·rw [List.getElem?_append_left hq,Nat.mod_eq_of_lt hq]
  ·rw [List.getElem?_append_right (by omega),repl_flat l n (q - l.length) (by rw [Nat.add_mul] at h; omega)]
   congr 1
   rw [Nat.mod_eq_sub_mod (a:=q) (by omega)]
theorem news_vals {ow:Nat→Prop} {κ:Kap} {sz:Nat} {news:List (List AV)} {y:Value} (h:R w ow κ (.lst sz news) y) (h1:news.flatten.all AV.one=true) :
  ∃ ad c us,y=.slice ad news.length c∧us.length=news.length*sz∧(∀ a,ad=some a→∀ j v,us[j]?=some v→w.cell? (a.add j)=some v)∧(ad=none→news.length=0) ∧
   (∀ v∈us,v.oneCell'=true)∧RIv w ow news.flatten us∧∀ r∈news,r.length=sz:=by
 obtain⟨ad,cap,hu,hcap,hr⟩:=R_lst h
 rcases hr with rfl | ⟨b,off,rfl,hb,ho,hrows⟩
 ·exact⟨ad,cap,[],hu,by simp,fun _ _ j v hj=>by simp at hj,fun _=>rfl,by simp,by simp [RIv],by simp⟩
 ·obtain⟨hl,hc⟩:=RIr_flat hrows
  obtain⟨vs,hvl,hvc,hvR,hv1⟩:=RIc_vals hc
  refine⟨_,cap,vs,hu,by rw [hvl,flatten_len hl],?_,fun e=>(by cases e),hv1,hvR,hl⟩
  intro a ha j v hj
  cases ha
  rw [Addr.add_lit]
  exact hvc j v hj
end
end Go.Proofs.YthlchdnbokhclaaGreat.Ql
namespace Go.Proofs.YthlchdnbokhclaaGreat.Ql
open Go
theorem take_wr {α:Type} {cur vals us:List α} {N p:Nat} (h:cur.take N=vals) (hN:N≤cur.length):(cur.take p++us++cur.drop (p+us.length)).take N=vals.take p++us.take (N - p)++vals.drop (p+us.length):=by
 subst h
 apply List.ext_getElem?
 intro i
 simp only [List.getElem?_take,List.getElem?_append,List.getElem?_drop,List.length_append,List.length_take,List.append_assoc]
 by_cases h1:i < N
 ·by_cases h2:i < p
  ·simp [h1,h2,show i < min p cur.length by omega,show i < min p (min N cur.length) by omega]
  ·by_cases h3:i - p < us.length
   ·by_cases h4:p≤cur.length
    ·have e1:min p cur.length=p:=by omega
     by_cases h5:p≤N
     ·have e2:min p (min N cur.length)=p:=by omega
      have e3:i - p < min (N - p) us.length:=by omega
      simp [h1,h2,e1,e2,h3,e3,show i - p < N - p by omega,show ¬ min (N - p) us.length≤i - p by omega]
     ·omega
    ·omega
   ·by_cases h4:p≤cur.length
    ·have e1:min p cur.length=p:=by omega
     have e2:min p (min N cur.length)=p:=by omega
     have e3:min (N - p) us.length=us.length:=by omega
     simp [h1,h2,e1,e2,e3,h3,show p+us.length+(i - p - us.length) < N by omega]
    ·omega
 ·simp only [h1,if_false]
  symm
  by_cases h2:i < min p (min N cur.length)
  ·omega
  ·rw [if_neg h2]
   split
   ·split
    ·omega
    ·rfl
   ·split
    ·omega
    ·rfl
theorem flat_len {α:Type} {sz:Nat}:∀ {rows:List (List α)},(∀ r∈rows,r.length=sz)→rows.flatten.length=rows.length*sz
 | [],_=>by simp
 | r::rs,h=>by
  have hr:=h r (List.mem_cons_self ..)
  have ih:=flat_len (rows:=rs) (sz:=sz) (fun q hq=>h q (List.mem_cons_of_mem _ hq))
  simp only [List.flatten_cons,List.length_append,List.length_cons,Nat.add_mul]
  omega
theorem flat_take {α:Type} {sz:Nat}:∀ {rows:List (List α)} {k:Nat},(∀ r∈rows,r.length=sz)→(rows.take k).flatten=rows.flatten.take (k*sz)
 | [],k,_=>by simp
 | r::rs,0,_=>by simp
 | r::rs,k+1,h=>by
  have hr:=h r (List.mem_cons_self ..)
  have ih:=flat_take (rows:=rs) (k:=k) (sz:=sz) (fun q hq=>h q (List.mem_cons_of_mem _ hq))
  have e1:r.take ((k+1)*sz)=r:=List.take_of_length_le (by rw [hr,Nat.add_mul]; omega)
  have e2:(k+1)*sz - r.length=k*sz:=by rw [hr,Nat.add_mul]; omega
  rw [List.take_succ_cons,List.flatten_cons,List.flatten_cons,List.take_append,e1,e2,ih]
theorem flat_drop {α:Type} {sz:Nat}:∀ {rows:List (List α)} {k:Nat},(∀ r∈rows,r.length=sz)→(rows.drop k).flatten=rows.flatten.drop (k*sz)
 | [],k,_=>by simp
 | r::rs,0,_=>by simp
 | r::rs,k+1,h=>by
  have hr:=h r (List.mem_cons_self ..)
  have ih:=flat_drop (rows:=rs) (k:=k) (sz:=sz) (fun q hq=>h q (List.mem_cons_of_mem _ hq))
  have e1:r.drop ((k+1)*sz)=[]:=List.drop_eq_nil_of_le (by rw [hr,Nat.add_mul]; omega)
  have e2:(k+1)*sz - r.length=k*sz:=by rw [hr,Nat.add_mul]; omega
  rw [List.drop_succ_cons,List.flatten_cons,List.drop_append,e1,e2,ih,List.nil_append]
section
variable {P:Program} {C:Ctx} {κ:Kap} {s:AS} {a:Act} {w:World} {o:Oper}
theorem Rv_take {ow:Nat→Prop} {xs:List AV} {vs:List Value} (h:Rv w ow κ xs vs) (k:Nat):Rv w ow κ (xs.take k) (vs.take k):=by
 have hl:=Rv_length h
 refine Rv_of (by simp [hl]) fun i x v hx hv=>?_
 rw [List.getElem?_take] at hx hv
 split at hx
 ·rename_i hi; rw [if_pos hi] at hv
  obtain⟨v',e,hr⟩:=Rv_get h hx
  rw [hv] at e; cases e; exact hr
 ·cases hx
theorem Rv_drop {ow:Nat→Prop} {xs:List AV} {vs:List Value} (h:Rv w ow κ xs vs) (k:Nat):Rv w ow κ (xs.drop k) (vs.drop k):=by
 have hl:=Rv_length h
 refine Rv_of (by simp [hl]) fun i x v hx hv=>?_
 rw [List.getElem?_drop] at hx hv
 obtain⟨v',e,hr⟩:=Rv_get h hx
 rw [hv] at e; cases e; exact hr
structure Own (w:World) (ow:Nat→Prop) (κ:Kap) (id e sz:Nat) (rows:List (List AV)) (g cap:Nat) (cur:Array Value):Prop where
 k:κ id=some (.arr (.slice (some ⟨g,0,none⟩) rows.length cap))
 hh:w.heap[g]?=some (.cells cur e (0,0))
 nc:rows.length≤cap
 cm:cap≤maxLen
 cs:cur.size=cap*sz
 rv:Rv w ow κ rows.flatten (cur.toList.take (rows.length*sz))
 rl:∀ r∈rows,r.length=sz∧r.all AV.im=true
 one:∀ v∈cur.toList.take (rows.length*sz),v.oneCell'=true
theorem G.own (hg:G C κ s a w) {id e sz:Nat} {rows:List (List AV)} (hb:lo s.ob id=some (.arr e sz rows)) :
  (κ id=some (.arr (.slice none 0 0))∧rows=[])∨∃ g cap cur,Own w (OW C κ) κ id e sz rows g cap cur:=by
 obtain⟨k,hk,u,vals,rfl,hown,hv,hl,h1⟩:=hg.obj hb
 rcases hown.2 with ⟨rfl,hn⟩ | ⟨g,cap,cur,rfl,_,hgg,hnc,hcm,hcs,htk⟩
 ·exact .inl ⟨hk,List.eq_nil_of_length_eq_zero hn⟩
 ·exact .inr ⟨g,cap,cur,hk,hgg,hnc,hcm,hcs,by rw [htk]; exact hv,hl,by rw [htk]; exact h1⟩
theorem Own.sz_le {ow:Nat→Prop} {id e sz g cap:Nat} {rows:List (List AV)} {cur:Array Value} (h:Own w ow κ id e sz rows g cap cur):rows.length*sz≤cur.toList.length:=by
 have h1:=h.cs
 have h2:cur.toList.length=cur.size:=Array.length_toList
 rw [h2,h1]; exact Nat.mul_le_mul_right _ h.nc
theorem Own.len {ow:Nat→Prop} {id e sz g cap:Nat} {rows:List (List AV)} {cur:Array Value} (h:Own w ow κ id e sz rows g cap cur):(cur.toList.take (rows.length*sz)).length=rows.length*sz:=by
 rw [List.length_take]; have:=h.sz_le; omega
theorem G.rewr (hg:G C κ s a w) {id e sz g cap:Nat} {rows rows':List (List AV)} {cur:Array Value} (h:Own w (OW C κ) κ id e sz rows g cap cur) {us:List Value} {p:Nat} (hp:p+us.length≤cap*sz)
  (hlen:rows'.length=rows.length) (hr:Rv w (OW C κ) κ rows'.flatten ((cur.toList.take (rows.length*sz)).take p++us.take (rows.length*sz - p)++(cur.toList.take (rows.length*sz)).drop (p+us.length)))
  (hl:∀ r∈rows',r.length=sz∧r.all AV.im=true) (h1:∀ v∈us,v.oneCell'=true) :
  G C κ { s with ob:=(id,some (.arr e sz rows'))::s.ob } a (w.setRow g (cur.toList.take p++us++cur.toList.drop (p+us.length)).toArray):=by
 have hcl:cur.toList.length=cap*sz:=by rw [Array.length_toList,h.cs]
 have htk:=take_wr (us:=us) (p:=p) (rfl:cur.toList.take (rows.length*sz)=_) h.sz_le
 refine hg.write h.k (o:=.arr e sz rows') (setRow_size _ _ _) (fun b' hb'=>setRow_other w g b' _ (fun e=>hb' (by simp [KO.blk,vblk,e]))) ⟨rfl,rfl,rfl⟩ ?_
 have hkp:Keeps w (OW C κ) (w.setRow g (cur.toList.take p++us++cur.toList.drop (p+us.length)).toArray) (OW C κ):=
  ⟨by rw [setRow_size]; exact Nat.le_refl _,fun c _ hno=>⟨hno,setRow_other w g c _ (fun e=>hno (.inr ⟨id,_,h.k,by simp [KO.blk,vblk,e]⟩))⟩⟩
 refine⟨_,_,rfl,⟨?_,.inr ⟨g,cap,_,by rw [hlen],Nat.zero_le _,setRow_heap w g cur _ e (0,0) h.hh,by rw [hlen]; exact h.nc,h.cm,?_,rfl⟩⟩,?_,hl,?_⟩
 ·rw [List.length_take,List.toList_toArray,List.length_append,List.length_append,List.length_take,List.length_drop,hcl,hlen]
  have:=h.sz_le
  omega
 ·simp only [List.size_toArray,List.length_append,List.length_take,List.length_drop,hcl]; omega
 ·rw [List.toList_toArray,hlen,htk]
  exact Rv_mono hkp (fun _ _ e=>e) _ _ hr
 ·intro v hv
  rw [List.toList_toArray,hlen,htk] at hv
  rcases List.mem_append.1 hv with hv | hv
  ·rcases List.mem_append.1 hv with hv | hv
   ·exact h.one v (List.mem_of_mem_take hv)
   ·exact h1 v (List.mem_of_mem_take hv)
  ·exact h.one v (List.mem_of_mem_drop hv)
theorem vw_own (hg:G C κ s a w) {x:Operand} {id sz lo hi c:Nat} (hx:Ql.ev s.tm x=.vw id sz lo hi c) {e:Nat} {rows:List (List AV)} (hb:Ql.lo s.ob id=some (.arr e sz rows)) :
  (a.eval x=.slice none 0 0∧κ id=some (.arr (.slice none 0 0))∧rows=[]∧lo=0∧hi=0∧c=0)∨∃ g cap cur ad,Own w (OW C κ) κ id e sz rows g cap cur∧lo≤hi∧hi≤c∧c≤cap∧a.eval x=.slice ad (hi - lo) (cap - lo)∧(lo < cap→ad=some ⟨g,lo*sz,none⟩)∧(lo=0→ad=some ⟨g,0,none⟩):=by
 have hR:=hg.ev x; rw [hx] at hR; simp only [R] at hR
 rcases hg.own hb with ⟨hk,hr⟩ | ⟨g,cap,cur,h⟩
 ·obtain⟨a',n,cap,hk',h1,h2,h3,ad,h4,h5,h6⟩:=hR.2 _ hk
  simp only [KO.arr.injEq,Value.slice.injEq] at hk'
  obtain⟨rfl,rfl,rfl⟩:=hk'
  have:lo=0:=by omega
  have:hi=0:=by omega
  subst_vars
  rw [h6 rfl] at h4
  exact .inl ⟨h4,hk,rfl,rfl,rfl,by omega⟩
 ·obtain⟨a',n,cap',hk',h1,h2,h3,ad,h4,h5,h6⟩:=hR.2 _ h.k
  simp only [KO.arr.injEq,Value.slice.injEq] at hk'
  obtain⟨rfl,rfl,rfl⟩:=hk'
  exact .inr ⟨g,cap,cur,ad,h,h1,h2,h3,h4,fun hl=>by rw [h5 hl]; simp [Addr.add_lit],h6⟩
theorem hnd_own (hg:G C κ s a w) {x:Operand} {id:Nat} (hx:Ql.ev s.tm x=.hnd id) {e sz:Nat} {rows:List (List AV)} (hb:Ql.lo s.ob id=some (.arr e sz rows)) :
  (a.eval x=.slice none 0 0∧κ id=some (.arr (.slice none 0 0))∧rows=[])∨∃ g cap cur,Own w (OW C κ) κ id e sz rows g cap cur∧a.eval x=.slice (some ⟨g,0,none⟩) rows.length cap:=by
 have hR:=hg.ev x; rw [hx] at hR; simp only [R] at hR
 rcases hg.own hb with ⟨hk,hr⟩ | ⟨g,cap,cur,h⟩
 ·have:=hR.2 _ hk
  simp only [KO.arr.injEq] at this
  exact .inl ⟨this.symm,hk,hr⟩
 ·have:=hR.2 _ h.k
  simp only [KO.arr.injEq] at this
  exact .inr ⟨g,cap,cur,h,this.symm⟩
theorem run_slice {T e sz by_:Nat} {z:Value} (ht:Slc P T e sz by_ z) {ad:Option Addr} {n cap l h:Nat} {lo hi:Option Value} (hlo:match lo with | some v=>∃ k,v=.int k l | none=>l=0) (hhi:match hi with | some v=>∃ k,v=.int k h | none=>h=n) (h1:l≤h) (h2:h≤cap) :
  (Instr.sliceAt T (.slice ad n cap) lo hi none).run P w=.ok (.slice (if cap=l then ad else ad.map (·.add (l*sz))) (h - l) (cap - l)) w:=by
 obtain⟨i,hi',hs,_⟩:=ht.info
 have e1:(0:Int)≤(l:Int)∧(l:Int)≤(h:Int):=⟨by omega,by omega⟩
 have e2:(0:Int)≤(h:Int)∧(h:Int)≤(cap:Int):=⟨by omega,by omega⟩
 cases lo with
 | none=>
  simp only at hlo; subst hlo
  cases hi with
  | none=>
   simp only at hhi; subst hhi
   simp [Instr.sliceAt,Instr.slice,run_underlying ht.und,Instr.sliceBounds,run_size (P:=P) (T:=e) (n:=sz) (by simp [hi',hs])]
  | some v=>
   obtain⟨k,rfl⟩:=hhi
   simp [Instr.sliceAt,Instr.slice,run_underlying ht.und,Instr.sliceBounds,Instr.sliceBound,asIntOf,h2,run_size (P:=P) (T:=e) (n:=sz) (by simp [hi',hs])]
 | some u=>
  obtain⟨k',rfl⟩:=hlo
  cases hi with
  | none=>
   simp only at hhi; subst hhi
   simp [Instr.sliceAt,Instr.slice,run_underlying ht.und,Instr.sliceBounds,Instr.sliceBound,asIntOf,h1,run_size (P:=P) (T:=e) (n:=sz) (by simp [hi',hs])]
  | some v=>
   obtain⟨k,rfl⟩:=hhi
   simp [Instr.sliceAt,Instr.slice,run_underlying ht.und,Instr.sliceBounds,Instr.sliceBound,asIntOf,h1,h2,run_size (P:=P) (T:=e) (n:=sz) (by simp [hi',hs])]
theorem ev_int (hg:G C κ s a w) {y:Operand} {k:IntKind} {n:Int} (h:Ql.ev s.tm y=.sc (.int k n)):a.eval y=.int k n:=by
 have:=hg.ev y; rw [h] at this; simpa only [R] using this
theorem bnd (hg:G C κ s a w) {y:Option Operand} {l n:Nat} (h:Bnd (Ql.ev s.tm) y l n):match y.map a.eval with | some v=>∃ k,v=.int k l | none=>l=n:=by
 cases y with
 | none=>exact h
 | some y=>obtain⟨k,h⟩:=h; exact⟨k,ev_int hg h⟩
end
end Go.Proofs.YthlchdnbokhclaaGreat.Ql
namespace Go.Proofs.YthlchdnbokhclaaGreat.Ql
open Go
section
variable {P:Program} {C:Ctx} {κ:Kap} {s:AS} {a:Act} {w:World} {o:Oper}
theorem run_zero {T:Nat} {z:Value} (h:(P.info? T).map (·.zero)=some (some z)):(zeroValue T).run P w=.ok z w:=by
 cases hi:P.info? T with
 | none=>simp [hi] at h
 | some i=>simp [hi] at h; simp [zeroValue,typeInfo,hi,h]
theorem zeroCells_list {z:Value} {n:Nat} (hz:0 < z.cells.size):(Builtin.zeroCells z.cells n).toList=(List.replicate n z.cells.toList).flatten:=by
 apply List.ext_getElem?
 intro i
 simp only [Builtin.zeroCells,Array.toList_map,Array.toList_range,List.getElem?_map]
 by_cases h:i < n*z.cells.size
 ·rw [List.getElem?_range h]
  have:=repl_flat z.cells.toList n i (by simpa using h)
  rw [this]
  have hm:i % z.cells.size < z.cells.size:=Nat.mod_lt _ hz
  simp only [Option.map_some,Array.length_toList]
  rw [getElem!_pos z.cells _ hm]
  simp [hm]
 ·rw [List.getElem?_eq_none (by simpa using h)]
  symm
  simp only [Option.map_none]
  refine List.getElem?_eq_none ?_
  rw [flat_len (sz:=z.cells.size) (fun r hr=>by rw [(List.mem_replicate.1 hr).2]; simp)]
  simpa using h
theorem run_store_at {g p e:Nat} {cur:Array Value} {us:List Value} (hg:w.heap[g]?=some (.cells cur e (0,0))) (hl:p+us.length≤cur.size) (h1:∀ v∈us,v.oneCell'=true) :
  (storeCells ⟨g,p,none⟩ us).run P w=.ok () (w.setRow g (cur.toList.take p++us++cur.toList.drop (p+us.length)).toArray):=by
 have:=run_storeCells_at P g p e us 0 cur w hg (by simpa using hl) h1
 simpa using this
theorem Own.cells {ow:Nat→Prop} {id e sz g cap:Nat} {rows:List (List AV)} {cur:Array Value} (h:Own w ow κ id e sz rows g cap cur) {p m:Nat} (hm:p+m≤rows.length*sz) :
  ∃ us:List Value,us=(cur.toList.drop p).take m∧us.length=m∧(∀ j v,us[j]?=some v→w.cell? (Addr.add ⟨g,p,none⟩ j)=some v)∧(∀ v∈us,v.oneCell'=true)∧Rv w ow κ ((rows.flatten.drop p).take m) us:=by
 have hsz:=h.sz_le
 refine⟨_,rfl,?_,?_,?_,?_⟩
 ·rw [List.length_take,List.length_drop]; omega
 ·intro j v hj
  rw [List.getElem?_take] at hj
  split at hj
  ·rw [List.getElem?_drop] at hj
   rw [Addr.add_lit,cell_of_row w g (p+j) cur e (0,0) h.hh]
   simpa using hj
  ·cases hj
 ·intro v hv
  obtain⟨j,hj⟩:=List.mem_iff_getElem?.1 hv
  rw [List.getElem?_take] at hj
  split at hj
  ·rw [List.getElem?_drop] at hj
   refine h.one v (List.mem_of_getElem? (i:=p+j) ?_)
   rw [List.getElem?_take,if_pos (by omega)]; exact hj
  ·cases hj
 ·have h1:=Rv_take (Rv_drop h.rv p) m
  rw [List.drop_take] at h1
  rw [List.take_take] at h1
  rwa [show min m (rows.length*sz - p)=m by omega] at h1
theorem run_arr2 {K e:Nat} (h1:P.underlying K=some (.array 2 e)) (h2:P.underlying e=some (.int .i64)) (h3:(P.info? e).map (·.size)=some 1) (p q:Int × Int) :
  (Op.equal K (prV p).1 (prV q).1).run P w=.ok (p==q) w:=by
 unfold Op.equal prV
 rw [show Op.maxDepth=9998+1+1 from rfl,Op.equalIn]
 have hpart:∀ (cs:Array Value) (i:Nat) (v:Value),cs[i]?=some v→(part e cs i).run P w=.ok v w:=by
  intro cs i v hv
  unfold part
  simp only [Sem.run_bind,run_isAgg (P:=P) (T:=e) (ag:=false) (by simp [h2,isA]),Result.andThen_ok,Bool.false_eq_true,if_false,hv,Sem.run_pure]
 have heq:∀ x y:Int,(Op.equalIn (9998+1) e (.int .i64 x) (.int .i64 y)).run P w=.ok (x==y) w:=by
  intro x y
  rw [Op.equalIn]
  simp only [Sem.run_bind,run_underlying h2,Result.andThen_ok]
  simp
 simp only [Sem.run_bind,run_underlying h1,Result.andThen_ok,run_size h3]
 obtain⟨p1,p2⟩:=p
 obtain⟨q1,q2⟩:=q
 have e1:((p1,p2)==(q1,q2))=(p1==q1&&p2==q2):=rfl
 rw [e1]
 simp only [Std.Legacy.Range.forIn_eq_forIn_range',Std.Legacy.Range.size,Nat.sub_zero,Nat.add_sub_cancel,Nat.div_one,List.range'_succ,List.range'_zero,List.forIn_cons,List.forIn_nil,Sem.run_bind,Nat.zero_mul,Nat.one_mul,Nat.zero_add,Nat.reduceMul,Nat.reduceAdd,
  hpart #[.int .i64 p1,.int .i64 p2] 0 _ rfl,hpart #[.int .i64 q1,.int .i64 q2] 0 _ rfl,hpart #[.int .i64 p1,.int .i64 p2] 1 _ rfl,hpart #[.int .i64 q1,.int .i64 q2] 1 _ rfl,Result.andThen_ok,heq]
 cases h:(p1==q1) <;> cases h':(p2==q2) <;> simp [heq,hpart,h'] <;> simpa using h
theorem findKey_set {K e:Nat} (h1:P.underlying K=some (.array 2 e)) (h2:P.underlying e=some (.int .i64)) (h3:(P.info? e).map (·.size)=some 1) {p:Int × Int} :
  ∀ {xs:List (Int × Int)} {es:List MapEntry} {i:Nat},es.map (fun e=>(e.key,e.val))=xs.map prV →
   ∃ r,(Instr.findAsking K (prV p).1 es i).run P w=.ok r w∧((xs.contains p=false∧r=none)∨(xs.contains p=true∧∃ j q,xs[j]?=some q∧q=p∧r=some (i+j,.bool true)))
 | [],es,i,h=>by
  have:es=[]:=by simpa using h
  subst this
  exact⟨none,by simp [Instr.findAsking],.inl ⟨rfl,rfl⟩⟩
 | x::xs,[],i,h=>by simp at h
 | x::xs,en::es,i,h=>by
  simp only [List.map_cons,List.cons.injEq] at h
  obtain⟨hk,hv⟩:en.key=(prV x).1∧en.val=(prV x).2:=by have:=h.1; simp only [Prod.ext_iff] at this; exact this
  obtain⟨r,hr,hc⟩:=findKey_set h1 h2 h3 (p:=p) (i:=i+1) h.2
  cases hb:(p==x) with
  | true=>
   have he:x=p:=by simpa using (beq_iff_eq.1 hb).symm
   refine⟨some (i,en.val),by simp [Instr.findAsking,hk,run_arr2 h1 h2 h3,hb],.inr ⟨by simp [he],0,x,rfl,he,by simp [hv,prV]⟩⟩
  | false=>
   refine⟨r,by simp [Instr.findAsking,hk,run_arr2 h1 h2 h3,hb,hr],?_⟩
   rcases hc with ⟨c1,c2⟩ | ⟨c1,j,q,c2,c3,c4⟩
   ·refine .inl ⟨?_,c2⟩
    simp only [List.contains_cons,hb,c1,Bool.or_false]
   ·refine .inr ⟨by simp only [List.contains_cons,hb,c1,Bool.or_true],j+1,q,by simpa using c2,c3,by rw [c4]; simp; omega⟩
theorem findNow_arr {e:Nat} {k:Value}:∀ {es:List MapEntry} {i:Nat},Instr.findNow (.array 2 e) k es i=(if es=[] then some none else none)
 | [],_=>rfl
 | en::es,i=>by simp [Instr.findNow,Instr.sameNow]
theorem run_findKey {K e:Nat} (h1:P.underlying K=some (.array 2 e)) (h2:P.underlying e=some (.int .i64)) (h3:(P.info? e).map (·.size)=some 1) {p:Int × Int} {xs:List (Int × Int)} {es:List MapEntry} (h:es.map (fun e=>(e.key,e.val))=xs.map prV) :
  ∃ r,(Instr.findKey K (prV p).1 es).run P w=.ok r w∧((xs.contains p=false∧r=none)∨(xs.contains p=true∧∃ j q,xs[j]?=some q∧q=p∧r=some (j,.bool true))):=by
 obtain⟨r,hr,hc⟩:=findKey_set (w:=w) h1 h2 h3 (p:=p) (i:=0) h
 simp only [Nat.zero_add] at hc
 refine⟨r,?_,hc⟩
 unfold Instr.findKey
 simp only [Sem.run_bind,run_underlying h1,Result.andThen_ok,findNow_arr]
 by_cases he:es=[]
 ·subst he
  simp [Instr.findAsking] at hr
  simp [hr]
 ·simp [he,hr]
theorem run_checkKey {K e:Nat} (h1:P.underlying K=some (.array 2 e)) (h2:P.underlying e=some (.int .i64)) (h3:(P.info? e).map (·.size)=some 1) {p:Int × Int} {b:Bool} :
  (Instr.checkKey b 10000 K (prV p).1).run P w=.ok () w:=by
 rw [show (10000:Nat)=9999+1 from rfl,Instr.checkKey]
 have hpart:∀ (cs:Array Value) (i:Nat) (v:Value),cs[i]?=some v→(part e cs i).run P w=.ok v w:=by
  intro cs i v hv
  unfold part
  simp only [Sem.run_bind,run_isAgg (P:=P) (T:=e) (ag:=false) (by simp [h2,isA]),Result.andThen_ok,Bool.false_eq_true,if_false,hv,Sem.run_pure]
 have hck:∀ x:Int,(Instr.checkKey b 9999 e (.int .i64 x)).run P w=.ok () w:=by
  intro x
  rw [show (9999:Nat)=9998+1 from rfl,Instr.checkKey]
  simp only [Sem.run_bind,run_underlying h2,Result.andThen_ok]
  simp
 simp only [prV,Sem.run_bind,run_underlying h1,Result.andThen_ok]
 simp [Std.Legacy.Range.forIn_eq_forIn_range',Std.Legacy.Range.size,List.range'_succ,run_size h3,hck,hpart #[.int .i64 p.1,.int .i64 p.2] 0 _ rfl,hpart #[.int .i64 p.1,.int .i64 p.2] 1 _ rfl]
end
end Go.Proofs.YthlchdnbokhclaaGreat.Ql
namespace Go.Proofs.YthlchdnbokhclaaGreat.Ql
open Go
section
variable {P:Program} {C:Ctx} {κ:Kap} {s:AS} {a:Act} {w:World} {o:Oper}
theorem run_getObj_mp {r c:Nat} {es:Array MapEntry} (h:w.heap[r]?=some (.map es c)):(getObj r).run P w=.ok (.map es c) w:=by simp [getObj,Sem.run,h]
theorem run_setObj_mp {r c:Nat} {es:Array MapEntry} (o:Obj) (h:w.heap[r]?=some (.map es c)):(setObj r o).run P w=.ok () { w with heap:=w.heap.setIfInBounds r o }:=by simp [setObj,Sem.run,h]
theorem G.take_over (hg:G C κ s a w) {id d e sz g cap n m:Nat} {rows rows':List (List AV)} {cur cur':Array Value} (hne:d≠id) (hfr:s.fresh C.ob0 d) (h:Own w (OW C κ) κ id e sz rows g cap cur) {w':World}
  (hw:w'=w∧cur'=cur∨w'=w.setRow g cur') (hcs:cur'.size=cap*sz) (hm:m≤cap) (hrl:rows'.length=m) (hrv:Rv w (OW C κ) κ rows'.flatten (cur'.toList.take (m*sz)))
  (hl:∀ r∈rows',r.length=sz∧r.all AV.im=true) (h1:∀ v∈cur'.toList.take (m*sz),v.oneCell'=true) {wr:List (Nat × Option AO)} (hwr:wr=[(d,some (.arr e sz rows')),(id,none)]) (hn:n=n) :
  G C ((κ.set id none).set d (some (.arr (.slice (some ⟨g,0,none⟩) m cap)))) { s with ob:=wr++s.ob } a w':=by
 subst hwr
 have hsz:w'.heap.size=w.heap.size:=by
  rcases hw with ⟨rfl,_⟩ | rfl
  ·rfl
  ·exact setRow_size _ _ _
 have hold:∀ b,b≠g→w'.heap[b]?=w.heap[b]?:=by
  intro b hb
  rcases hw with ⟨rfl,_⟩ | rfl
  ·rfl
  ·exact setRow_other w g b _ hb
 have hgg:w'.heap[g]?=some (.cells cur' e (0,0)):=by
  rcases hw with ⟨rfl,rfl⟩ | rfl
  ·exact h.hh
  ·exact setRow_heap w g cur _ e (0,0) h.hh
 have hf:w'.os=w.os∧w'.tape=w.tape∧w'.output=w.output:=by
  rcases hw with ⟨rfl,_⟩ | rfl
  ·exact⟨rfl,rfl,rfl⟩
  ·exact⟨rfl,rfl,rfl⟩
 refine hg.swap h.k hfr hne (w':=w') (k:=.arr (.slice (some ⟨g,0,none⟩) m cap)) (o:=.arr e sz rows') (by omega) (fun b _ hn=>hold b (fun e=>hn (by subst e; rfl))) hf (fun b hb=>.inl (by simpa [KO.blk,vblk] using hb)) (fun hkp=>?_)
 refine⟨_,_,rfl,⟨?_,.inr ⟨g,cap,_,by rw [hrl],Nat.zero_le _,hgg,by omega,h.cm,hcs,rfl⟩⟩,?_,hl,?_⟩
 ·have hcl:cur'.toList.length=cur'.size:=Array.length_toList
  rw [hrl,List.length_take,hcl,hcs]
  have:=Nat.mul_le_mul_right sz hm
  omega
 ·rw [hrl]
  refine Rv_men hkp _ _ (fun i l e=>?_) hrv
  simp only [Kap.set] at e
  by_cases h1:i=d
  ·subst h1
   exact .inr (menL_im _ (flat_im hl))
  ·rw [if_neg h1] at e
   split at e
   ·cases e
   ·exact .inl e
 ·rw [hrl]; exact h1
set_option maxHeartbeats 2000000 in
theorem Ex.sound {rd:List Nat} {v:AV} {wr:List (Nat × Option AO)} (hax:Ex P o (Ql.ev s.tm) (lo s.ob) rd v wr) (hg:G C κ s a w) (hd:∀ d,o.dst=some d→d < C.n)
  (hf:∀ p∈wr,p.1∈rd∨s.fresh C.ob0 p.1) {next:Act→World→Prop} {Q:Exit→Act→World→Prop} (hn:Fin C s o v wr next):o.wp P a w next Q:=by
 cases hax with
 | sl_hnd ho ht hx hb hlo hhi h1 h2=>
  rename_i T x lo hi e sz by_ z id e' rows l h
  obtain⟨i,hi',hs,_,hz⟩:=ht.info
  rcases hnd_own (sz:=_) hg hx hb with ⟨hv,hk,hr⟩ | ⟨g,cap,cur,hO,hv⟩
  ·subst hr
   simp only [List.length_nil] at h2
   have:h=0:=by omega
   have:l=0:=by omega
   subst_vars
   refine quiet hg hd hn (u:=.slice none 0 0) ?_ ?_
   ·have:=run_slice (P:=P) (w:=w) (lo:=lo.map a.eval) (hi:=hi.map a.eval) ht (ad:=none) (n:=0) (cap:=0) (bnd hg hlo) (bnd hg hhi) (Nat.le_refl _) (Nat.le_refl _)
    simp only [ite_true,Nat.sub_self] at this
    simp [execOp,ho,hv,this]
   ·simp only [R]
    exact⟨rfl,fun k hk'=>by rw [hk] at hk'; cases hk'; exact⟨none,0,0,rfl,by simp,by simp,by simp,none,by simp⟩⟩
  ·refine quiet hg hd hn (u:=.slice (if cap=l then some ⟨g,0,none⟩ else (some ⟨g,0,none⟩:Option Addr).map (·.add (l*sz))) (h - l) (cap - l)) ?_ ?_
   ·have:=run_slice (P:=P) (w:=w) (lo:=lo.map a.eval) (hi:=hi.map a.eval) ht (ad:=some ⟨g,0,none⟩) (n:=rows.length) (cap:=cap) (bnd hg hlo) (bnd hg hhi) h1 (Nat.le_trans h2 hO.nc)
    simp [execOp,ho,hv,this]
   ·simp only [R]
    refine⟨rfl,fun k hk'=>?_⟩
    rw [hO.k] at hk'; cases hk'
    refine⟨_,_,cap,rfl,h1,h2,hO.nc,_,rfl,fun hl=>if_neg (by omega),fun hl=>?_⟩
    subst hl
    split <;> simp [Addr.add_lit]
 | sl_max ho ht hx hb hl hh hm h1 h2 h3=>
  rename_i T x y1 y2 y3 e sz by_ z id e' rows k1 k2 k3 l h m
  obtain⟨i,hi',hs,_,hz⟩:=ht.info
  have e1:=ev_int hg hl
  have e2:=ev_int hg hh
  have e3:=ev_int hg hm
  have go:∀ (ad:Option Addr) (n cap:Nat),m≤cap→a.eval x=.slice ad n cap→o.wp P a w next Q:=by
   intro ad n cap hc hv
   refine quiet hg hd hn (u:=.slice (if m=l then ad else ad.map (·.add (l*sz))) (h - l) (m - l)) ?_ (by simp [R])
   simp [execOp,ho,hv,e1,e2,e3,Instr.sliceAt,Instr.slice,run_underlying ht.und,Instr.sliceBounds,Instr.sliceBound,asIntOf,h1,h2,hc,run_size (P:=P) (T:=e) (n:=sz) (by simp [hi',hs])]
  rcases hnd_own (sz:=_) hg hx hb with ⟨hv,hk,hr⟩ | ⟨g,cap,cur,hO,hv⟩
  ·subst hr; exact go none 0 0 (by simpa using h3) hv
  ·exact go _ _ cap (Nat.le_trans h3 hO.nc) hv
 | sl_vw ho ht hx hb hlo hhi h1 h2=>
  rename_i T x lo hi e sz by_ z id l0 h0 c e' rows l h
  rcases vw_own hg hx hb with ⟨hv,hk,hr,rfl,rfl,rfl⟩ | ⟨g,cap,cur,ad,hO,a1,a2,a3,hv,d1,d2⟩
  ·have:h=0:=by omega
   have:l=0:=by omega
   subst_vars
   refine quiet hg hd hn (u:=.slice none 0 0) ?_ ?_
   ·have:=run_slice (P:=P) (w:=w) (lo:=lo.map a.eval) (hi:=hi.map a.eval) ht (ad:=none) (n:=0) (cap:=0) (bnd hg hlo) (bnd hg hhi) (Nat.le_refl _) (Nat.le_refl _)
    simp only [ite_true,Nat.sub_self] at this
    simp [execOp,ho,hv,this]
   ·simp only [R]
    exact⟨rfl,fun k hk'=>by rw [hk] at hk'; cases hk'; exact⟨none,0,0,rfl,by simp,by simp,by simp,none,by simp⟩⟩
  ·have hrun:=run_slice (P:=P) (w:=w) (lo:=lo.map a.eval) (hi:=hi.map a.eval) ht (ad:=ad) (n:=h0 - l0) (cap:=cap - l0) (bnd hg hlo) (bnd hg hhi) h1 (by omega)
   refine quiet hg hd hn (u:=.slice (if cap - l0=l then ad else ad.map (·.add (l*sz))) (h - l) (cap - l0 - l)) ?_ ?_
   ·simp [execOp,ho,hv,hrun]
   ·simp only [R]
    refine⟨rfl,fun k hk'=>?_⟩
    rw [hO.k] at hk'; cases hk'
    have e1:l0+h - (l0+l)=h - l:=by omega
    have e2:cap - l0 - l=cap - (l0+l):=by omega
    refine⟨_,_,cap,rfl,by omega,by omega,by omega,_,by rw [e1,e2],fun hl=>?_,fun hl=>?_⟩
    ·rw [if_neg (by omega),d1 (by omega)]; simp [Addr.add_lit,Nat.add_mul]
    ·have:l0=0:=by omega
     have:l=0:=by omega
     subst_vars
     rw [d2 rfl]
     split <;> simp [Addr.add_lit]
 | len_vw ho ht hx hb=>
  rename_i T x e sz by_ z id l h c e' rows
  rcases vw_own hg hx hb with ⟨hv,hk,hr,rfl,rfl,rfl⟩ | ⟨g,cap,cur,ad,hO,a1,a2,a3,hv,d1,d2⟩
  ·refine quiet hg hd hn (u:=.int .i64 0) ?_ (by simp [R])
   simp [execOp,ho,resolve,invoke,builtin,hv,run_len_slice ht]
  ·refine quiet hg hd hn (u:=.int .i64 (h - l:Nat)) ?_ (by simp [R])
   simp [execOp,ho,resolve,invoke,builtin,hv,run_len_slice ht]
 | ix_vw ho ht hx hb hi h0 hr=>
  rename_i T x i e sz by_ z id l h c e' rows k n
  have hI:=ev_int hg hi
  rcases vw_own hg hx hb with ⟨hv,hk,hr',rfl,rfl,rfl⟩ | ⟨g,cap,cur,ad,hO,a1,a2,a3,hv,d1,d2⟩
  ·omega
  ·have hcl:=d1 (by omega)
   refine quiet hg hd hn (u:=.pointer (some ⟨g,(l+n.toNat)*sz,none⟩)) ?_ ?_
   ·simp [execOp,ho,hv,hI,hcl,run_indexAt_slice ht h0 hr,Nat.add_mul]
   ·simp only [R]
    refine⟨rfl,fun k' hk'=>?_⟩
    rw [hO.k] at hk'; cases hk'
    exact⟨_,g,rfl,rfl,by simp⟩
 | clear_vw ho ht hx hb h1=>
  rename_i T x e sz by_ z id l h c e' rows
  have hsz:z.cells.size=sz:=ht.2.2.1
  have hsz0:0 < sz:=ht.2.2.2
  obtain⟨i,hi',his,hib,hiz⟩:=ht.info
  rcases vw_own hg hx hb with ⟨hv,hk,hr',rfl,rfl,rfl⟩ | ⟨g,cap,cur,ad,hO,a1,a2,a3,hv,d1,d2⟩
  ·subst hr'
   refine wp_value (v:=.tuple #[]) (w':=w) ?_ (hn _ _ ⟨κ,?_⟩)
   ·simp [execOp,ho,resolve,invoke,builtin,hv,Builtin.clear_,run_underlying ht.und]
   ·have hsame:G C κ { s with ob:=(id,some (.arr e' sz (clr [] 0 0 (z.cells.toList.map .sc))))::s.ob } a w:=by
     refine hg.write hk (o:=.arr e' sz (clr [] 0 0 (z.cells.toList.map .sc))) rfl (fun _ _=>rfl) ⟨rfl,rfl,rfl⟩ ⟨_,[],rfl,by simpa [clr] using World.ownsRow_nil w 0 e' sz,by simp [clr,Rv],by simp [clr],by simp⟩
    exact hsame.putd hd (by simp only [R]; exact⟨#[],rfl,by simp [Rv]⟩)
  ·by_cases hz:h - l=0
   ·have hclr:clr rows l h (z.cells.toList.map .sc)=rows:=by
     unfold clr
     rw [show min h rows.length - l=0 by omega,show max l h=l by omega]
     simp
    refine wp_value (v:=.tuple #[]) (w':=w) ?_ (hn _ _ ⟨κ,?_⟩)
    ·rw [hz] at hv
     cases ad <;> simp [execOp,ho,resolve,invoke,builtin,hv,Builtin.clear_,run_underlying ht.und]
    ·have hsame:G C κ { s with ob:=(id,some (.arr e' sz (clr rows l h (z.cells.toList.map .sc))))::s.ob } a w:=by
      rw [hclr]
      obtain⟨k,hk,hro⟩:=hg.obj hb
      exact hg.write hk (o:=.arr e' sz rows) rfl (fun _ _=>rfl) ⟨rfl,rfl,rfl⟩ hro
     exact hsame.putd hd (by simp only [R]; exact⟨#[],rfl,by simp [Rv]⟩)
   ·have had:=d1 (by omega)
    subst had
    have hzl:=zeroCells_list (z:=z) (n:=h - l) (by omega)
    have hul:((List.replicate (h - l) z.cells.toList).flatten).length=(h - l)*sz:=by
     rw [flat_len (sz:=sz) (fun r hr=>by rw [(List.mem_replicate.1 hr).2]; simpa using hsz)]; simp
    have hfit:l*sz+((List.replicate (h - l) z.cells.toList).flatten).length≤cap*sz:=by
     rw [hul,← Nat.add_mul]; exact Nat.mul_le_mul_right _ (by omega)
    have h1':∀ v∈(List.replicate (h - l) z.cells.toList).flatten,v.oneCell'=true:=by
     intro v hv
     obtain⟨r,hr,hv⟩:=List.mem_flatten.1 hv
     rw [(List.mem_replicate.1 hr).2] at hv
     exact List.all_eq_true.1 h1 v hv
    have hst:=run_store_at (P:=P) (w:=w) (p:=l*sz) hO.hh (by rw [hO.cs]; exact hfit) h1'
    refine wp_value (v:=.tuple #[]) ?_ (hn _ _ ⟨κ,(hg.rewr hO (rows':=clr rows l h (z.cells.toList.map .sc)) (us:=(List.replicate (h - l) z.cells.toList).flatten) (p:=l*sz) hfit ?_ ?_ ?_ h1').putd hd ?_⟩)
    ·have hne:∃ m,h - l=m+1:=⟨h - l - 1,by omega⟩
     obtain⟨m,hm⟩:=hne
     rw [hm] at hv hst hzl ⊢
     simp [execOp,ho,resolve,invoke,builtin,hv,Builtin.clear_,run_underlying ht.und,run_zero (P:=P) (T:=e) (z:=z) (w:=w) (by simp [hi',hiz]),hzl,hst]
    ·unfold clr
     simp only [List.length_append,List.length_take,List.length_replicate,List.length_drop]
     omega
    ·have hrl:=fun r hr=>(hO.rl r hr).1
     unfold clr
     simp only [List.flatten_append]
     rw [flat_take hrl,flat_drop hrl,hul]
     have e1:l*sz+(h - l)*sz=max l h*sz:=by rw [← Nat.add_mul]; congr 1; omega
     rw [e1]
     refine Rv_append (Rv_append (Rv_take hO.rv _) ?_) (Rv_drop hO.rv _)
     have e2:((List.replicate (h - l) z.cells.toList).flatten).take (rows.length*sz - l*sz)=(List.replicate (min h rows.length - l) z.cells.toList).flatten:=by
      rw [← Nat.sub_mul,← flat_take (sz:=sz) (fun r hr=>by rw [(List.mem_replicate.1 hr).2]; simpa using hsz),List.take_replicate]
      congr 2; omega
     rw [e2]
     generalize min h rows.length - l=m
     induction m with
     | zero=>simp [Rv]
     | succ m ih=>
      rw [List.replicate_succ,List.replicate_succ,List.flatten_cons,List.flatten_cons]
      refine Rv_append ?_ ih
      have:∀ us:List Value,Rv w (OW C κ) κ (us.map .sc) us:=by
       intro us
       induction us with
       | nil=>simp [Rv]
       | cons u us ih=>simp only [List.map_cons,Rv]; exact⟨u,us,rfl,by simp [R],ih⟩
      exact this _
    ·intro r hr
     unfold clr at hr
     rcases List.mem_append.1 hr with hr | hr
     ·rcases List.mem_append.1 hr with hr | hr
      ·exact hO.rl r (List.mem_of_mem_take hr)
      ·rw [(List.mem_replicate.1 hr).2]
       exact⟨by simpa using hsz,by simp [AV.im]⟩
     ·exact hO.rl r (List.mem_of_mem_drop hr)
    ·simp only [R]; exact⟨#[],rfl,by simp [Rv]⟩
 | app_vw ho hd' ht hx hy hb h1 h3 h4 he hne=>
  rename_i T x y e sz by_ z id h c l2 h2 c2 e' rows d
  subst he
  have hfr:s.fresh C.ob0 d:=(hf (d,_) (List.mem_cons_self ..)).resolve_left (by simpa using hne)
  obtain⟨i,hi',his,hib,hiz⟩:=ht.info
  rcases vw_own hg hx hb with ⟨hv,hk,hr',_,rfl,rfl⟩ | ⟨g,cap,cur,ad,hO,a1,a2,a3,hv,d1,d2⟩
  ·rcases vw_own hg hy hb with ⟨hv2,_,_,rfl,rfl,rfl⟩ | ⟨g,cap,cur,ad,hO,a1,a2,a3,hv2,d1,d2⟩
   ·subst hr'
    refine wp_value (v:=.slice none 0 0) (w':=w) ?_ (hn _ _ ⟨(κ.set id none).set d (some (.arr (.slice none 0 0))),?_⟩)
    ·simp [execOp,ho,resolve,invoke,builtin,hv,hv2,Builtin.append_,run_underlying ht.und,run_size (P:=P) (T:=e) (n:=sz) (by simp [hi',his]),Builtin.lenOf,Builtin.firstCells]
    ·have hgc:=hg.swap hk hfr hne (w':=w) (k:=.arr (.slice none 0 0)) (o:=.arr e sz (([]:List (List AV)).take 0++(([]:List (List AV)).drop 0).take (0 - 0))) (Nat.le_refl _) (fun _ _ _=>rfl) ⟨rfl,rfl,rfl⟩ (fun b hb=>.inl hb)
      (fun _=>⟨_,[],rfl,by simpa using World.ownsRow_nil w 0 e sz,by simp [Rv],by simp,by simp⟩)
     refine hgc.putd hd ?_
     simp only [R]
     exact⟨rfl,fun k hk=>by simp [Kap.set] at hk; subst hk; exact⟨none,0,0,rfl,by simp,by simp,by simp,none,by simp⟩⟩
   ·rw [hO.k] at hk; simp at hk
  ·have had:=d2 rfl
   subst had
   simp only [Nat.sub_zero] at hv
   rcases vw_own hg hy hb with ⟨_,hk,_⟩ | ⟨g',cap',cur',ad2,hO',b1,b2,b3,hv2,d3,d4⟩
   ·rw [hO.k] at hk; simp at hk
   ·have hkk:=hO'.k
    rw [hO.k] at hkk
    simp only [Option.some.injEq,KO.arr.injEq,Value.slice.injEq,Addr.mk.injEq,and_true,true_and] at hkk
    obtain⟨rfl,rfl⟩:=hkk
    have hh':=hO'.hh
    rw [hO.hh] at hh'
    simp only [Option.some.injEq,Obj.cells.injEq,and_true] at hh'
    subst hh'
    have hrl:=fun r hr=>(hO.rl r hr).1
    have hm1:l2*sz+(h2 - l2)*sz≤rows.length*sz:=by rw [← Nat.add_mul]; exact Nat.mul_le_mul_right _ (by omega)
    obtain⟨us,u0,u1,u2,u3,u4⟩:=hO.cells (p:=l2*sz) (m:=(h2 - l2)*sz) hm1
    have hcl:cur.toList.length=cap*sz:=by have:=hO.cs; rw [Array.length_toList]; exact this
    have hfit:h*sz+us.length≤cap*sz:=by rw [u1,← Nat.add_mul]; exact Nat.mul_le_mul_right _ (by omega)
    have hsz0:0 < sz:=ht.2.2.2
    have htk:=take_wr (us:=us) (p:=h*sz) (N:=(h+(h2 - l2))*sz) (rfl:cur.toList.take ((h+(h2 - l2))*sz)=_) (by rw [hcl]; exact Nat.mul_le_mul_right _ (by omega))
    have htk2:(cur.toList.take (h*sz)++us++cur.toList.drop (h*sz+us.length)).take ((h+(h2 - l2))*sz)=(cur.toList.take (rows.length*sz)).take (h*sz)++us:=by
     have f1:(cur.toList.take ((h+(h2 - l2))*sz)).take (h*sz)=(cur.toList.take (rows.length*sz)).take (h*sz):=by
      rw [List.take_take,List.take_take,Nat.min_eq_left (Nat.mul_le_mul_right _ (by omega)),Nat.min_eq_left (Nat.mul_le_mul_right _ h1)]
     have f2:us.take ((h+(h2 - l2))*sz - h*sz)=us:=List.take_of_length_le (by rw [u1,Nat.add_mul]; omega)
     have f3:(cur.toList.take ((h+(h2 - l2))*sz)).drop (h*sz+us.length)=[]:=List.drop_eq_nil_of_le (by rw [List.length_take,hcl,u1,Nat.add_mul]; omega)
     rw [htk,f1,f2,f3,List.append_nil]
    have hres:∃ w',(Builtin.append_ #[T,T] o.type #[.slice (some ⟨g,0,none⟩) h cap,.slice ad2 (h2 - l2) (cap - l2)]).run P w=.ok (.slice (some ⟨g,0,none⟩) (h+(h2 - l2)) cap) w' ∧
      (w'=w∧us=[]∨w'=w.setRow g (cur.toList.take (h*sz)++us++cur.toList.drop (h*sz+us.length)).toArray):=by
     by_cases hz:l2 < h2
     ·have:=d3 (by omega)
      subst this
      exact⟨_,run_append_room (P:=P) (w:=w) T o.type e i ht.und hi' g h cap cur hO.hh ⟨g,l2*sz,none⟩ (h2 - l2) (cap - l2) us (by rw [his]; exact u1) u2 u3 (by omega) (by rw [his]; have:=hO.cs; omega),by rw [his]; exact .inr rfl⟩
     ·have e0:h2 - l2=0:=by omega
      have hus:us=[]:=List.eq_nil_of_length_eq_zero (by rw [u1,e0]; simp)
      refine⟨w,?_,.inl ⟨rfl,hus⟩⟩
      rw [e0]
      have hle:h≤cap:=by omega
      cases ad2 <;> simp [Builtin.append_,run_underlying ht.und,run_size (P:=P) (T:=e) (n:=sz) (by simp [hi',his]),Builtin.lenOf,Builtin.firstCells,hle,storeCells]
      have:=run_loadCells_list (P:=P) w (by assumption) [] (by simp)
      simp at this
      simp [this,storeCells]
    obtain⟨w',hrun,hw'⟩:=hres
    have hrows:(rows.take h++(rows.drop l2).take (h2 - l2)).length=h+(h2 - l2):=by simp; omega
    have hnew:∀ cur':Array Value,cur'.toList.take ((h+(h2 - l2))*sz)=(cur.toList.take (rows.length*sz)).take (h*sz)++us →
      Rv w (OW C κ) κ (rows.take h++(rows.drop l2).take (h2 - l2)).flatten (cur'.toList.take ((h+(h2 - l2))*sz))∧∀ v∈cur'.toList.take ((h+(h2 - l2))*sz),v.oneCell'=true:=by
     intro cur' he
     rw [he]
     refine⟨?_,?_⟩
     ·rw [List.flatten_append,flat_take hrl,flat_take (sz:=sz) (fun r hr=>hrl r (List.mem_of_mem_drop hr)),flat_drop hrl]
      exact Rv_append (Rv_take hO.rv _) u4
     ·intro v hv
      rcases List.mem_append.1 hv with hv | hv
      ·exact hO.one v (List.mem_of_mem_take hv)
      ·exact u3 v hv
    have hl':∀ r∈rows.take h++(rows.drop l2).take (h2 - l2),r.length=sz∧r.all AV.im=true:=by
     intro r hr
     rcases List.mem_append.1 hr with hr | hr
     ·exact hO.rl r (List.mem_of_mem_take hr)
     ·exact hO.rl r (List.mem_of_mem_drop (List.mem_of_mem_take hr))
    have hfin:G C ((κ.set id none).set d (some (.arr (.slice (some ⟨g,0,none⟩) (h+(h2 - l2)) cap)))) { s with ob:=[(d,some (.arr e sz (rows.take h++(rows.drop l2).take (h2 - l2)))),(id,none)]++s.ob } a w':=by
     rcases hw' with ⟨rfl,hus⟩ | hw'
     ·have he:cur.toList.take ((h+(h2 - l2))*sz)=(cur.toList.take (rows.length*sz)).take (h*sz)++us:=by
       have:(h2 - l2)*sz=0:=by rw [← u1,hus]; rfl
       rw [hus,List.append_nil,List.take_take,Nat.min_eq_left (Nat.mul_le_mul_right _ h1),Nat.add_mul,this,Nat.add_zero]
      obtain⟨n1,n2⟩:=hnew cur he
      exact hg.take_over (n:=0) hne hfr hO (.inl ⟨rfl,rfl⟩) hO.cs (by omega) hrows n1 hl' n2 rfl rfl
     ·obtain⟨n1,n2⟩:=hnew (cur.toList.take (h*sz)++us++cur.toList.drop (h*sz+us.length)).toArray (by rw [List.toList_toArray]; exact htk2)
      refine hg.take_over (n:=0) hne hfr hO (.inr hw') ?_ (by omega) hrows n1 hl' n2 rfl rfl
      simp only [List.size_toArray,List.length_append,List.length_take,List.length_drop,hcl]; omega
    refine wp_value (v:=.slice (some ⟨g,0,none⟩) (h+(h2 - l2)) cap) (w':=w') ?_ (hn _ _ ⟨_,hfin.putd hd ?_⟩)
    ·simp [execOp,ho,resolve,invoke,builtin,hv,hv2,hrun]
    ·simp only [R]
     refine⟨rfl,fun k hk=>?_⟩
     simp [Kap.set] at hk
     subst hk
     exact⟨_,_,cap,rfl,by omega,h4,by omega,_,by simp,fun _=>by simp [Addr.add_lit],fun _=>rfl⟩
 | own_vw ho hd' hx hb h1 hne=>
  rename_i x sz id h c e' rows d
  have hfr:s.fresh C.ob0 d:=(hf (d,_) (List.mem_cons_self ..)).resolve_left (by simpa using hne)
  rcases vw_own hg hx hb with ⟨hv,hk,hr',_,rfl,rfl⟩ | ⟨g,cap,cur,ad,hO,a1,a2,a3,hv,d1,d2⟩
  ·subst hr'
   refine wp_value (v:=.slice none 0 0) (w':=w) ?_ (hn _ _ ⟨(κ.set id none).set d (some (.arr (.slice none 0 0))),?_⟩)
   ·rcases ho with ho | ho <;> simp [execOp,ho,hv]
   ·have hgc:=hg.swap hk hfr hne (w':=w) (k:=.arr (.slice none 0 0)) (o:=.arr e' sz ([].take 0)) (Nat.le_refl _) (fun _ _ _=>rfl) ⟨rfl,rfl,rfl⟩ (fun b hb=>.inl hb)
     (fun _=>⟨_,[],rfl,by simpa using World.ownsRow_nil w 0 e' sz,by simp [Rv],by simp,by simp⟩)
    refine hgc.putd hd ?_
    simp only [R]
    exact⟨rfl,fun k hk=>by simp [Kap.set] at hk; exact hk.symm⟩
  ·have had:=d2 rfl
   subst had
   simp only [Nat.sub_zero] at hv
   refine wp_value (v:=.slice (some ⟨g,0,none⟩) h cap) (w':=w) ?_ (hn _ _ ⟨(κ.set id none).set d (some (.arr (.slice (some ⟨g,0,none⟩) h cap))),?_⟩)
   ·rcases ho with ho | ho <;> simp [execOp,ho,hv]
   ·have hrl:=fun r hr=>(hO.rl r hr).1
    have htt:(cur.toList.take (rows.length*sz)).take (h*sz)=cur.toList.take (h*sz):=by
     rw [List.take_take,Nat.min_eq_left (Nat.mul_le_mul_right _ h1)]
    have hgc:=hg.take_over (n:=0) hne hfr hO (rows':=rows.take h) (m:=h) (.inl ⟨rfl,rfl⟩) hO.cs (by omega) (by simp; omega)
     (by rw [flat_take hrl,← htt]; exact Rv_take hO.rv _) (fun r hr=>hO.rl r (List.mem_of_mem_take hr)) (fun v hv=>hO.one v (List.mem_of_mem_take (by rw [htt]; exact hv))) rfl rfl
    refine hgc.putd hd ?_
    simp only [R]
    exact⟨rfl,fun k hk=>by simp [Kap.set] at hk; exact hk.symm⟩
 | copy_hl ho ht hx hb hy h1 hi=>
  rename_i T S x y e sz by_ z id e' rows news
  obtain⟨i,hi',his,hib,hiz⟩:=ht.info
  have hY:=hg.ev y; rw [hy] at hY
  obtain⟨ad,c,us,hyv,hul,hus,hnone,hu1,huR,hnl⟩:=news_vals hY h1
  rcases hnd_own (sz:=sz) hg hx hb with ⟨hv,hk,hr⟩ | ⟨g,cap,cur,hO,hv⟩
  ·subst hr
   refine wp_value (v:=.int .i64 0) (w':=w) ?_ (hn _ _ ⟨κ,?_⟩)
   ·have:=run_loadCells_list (P:=P) w
    cases ad with
    | none=>simp [execOp,ho,resolve,invoke,builtin,hv,hyv,Builtin.copy_,run_underlying ht.und,run_size (P:=P) (T:=e) (n:=sz) (by simp [hi',his]),Builtin.lenOf,Builtin.firstCells,goInt]
    | some ad=>
     have:=this ad [] (by simp)
     simp only [List.length_nil] at this
     simp [execOp,ho,resolve,invoke,builtin,hv,hyv,Builtin.copy_,run_underlying ht.und,run_size (P:=P) (T:=e) (n:=sz) (by simp [hi',his]),Builtin.lenOf,Builtin.firstCells,this,goInt]
   ·have hsame:G C κ { s with ob:=(id,some (.arr e' sz (news.take ([]:List (List AV)).length++([]:List (List AV)).drop news.length)))::s.ob } a w:=
     hg.write hk (o:=.arr e' sz _) rfl (fun _ _=>rfl) ⟨rfl,rfl,rfl⟩ ⟨_,[],rfl,by simpa using World.ownsRow_nil w 0 e' sz,by simp [Rv],by simp,by simp⟩
    exact hsame.putd hd (by simp [R])
  ·have hlen:(min news.length rows.length)*sz≤us.length:=by rw [hul]; exact Nat.mul_le_mul_right _ (by omega)
   have hul':(us.take ((min news.length rows.length)*sz)).length=(min news.length rows.length)*sz:=by rw [List.length_take]; omega
   have hfit:0+(us.take ((min news.length rows.length)*sz)).length≤cap*sz:=by rw [hul',Nat.zero_add]; exact Nat.mul_le_mul_right _ (by have:=hO.nc; omega)
   have h1':∀ v∈us.take ((min news.length rows.length)*sz),v.oneCell'=true:=fun v hv=>hu1 v (List.mem_of_mem_take hv)
   have hst:=run_store_at (P:=P) (w:=w) (p:=0) hO.hh (by rw [hO.cs]; exact hfit) h1'
   have hfc:(Builtin.firstCells sz (min news.length rows.length) (.slice ad news.length c)).run P w=.ok (us.take ((min news.length rows.length)*sz)).toArray w:=by
    cases ad with
    | none=>
     have h0:=hnone rfl
     have:us=[]:=List.eq_nil_of_length_eq_zero (by rw [hul,h0]; simp)
     subst this
     simp [Builtin.firstCells]
    | some ad=>exact run_firstCells_some w sz _ ad _ _ _ hul' (fun j v hj=>hus ad rfl j v (by
      rw [List.getElem?_take] at hj
      split at hj
      ·exact hj
      ·cases hj))
   have hnl':∀ r∈news,r.length=sz:=hnl
   refine wp_value (v:=.int .i64 (min news.length rows.length:Nat)) ?_ (hn _ _ ⟨κ,(hg.rewr hO (rows':=news.take rows.length++rows.drop news.length) (us:=us.take ((min news.length rows.length)*sz)) (p:=0) hfit ?_ ?_ ?_ h1').putd hd (by simp [R])⟩)
   ·have hmin:Nat.min news.length rows.length=min news.length rows.length:=rfl
    simp [execOp,ho,resolve,invoke,builtin,hv,hyv,Builtin.copy_,run_underlying ht.und,run_size (P:=P) (T:=e) (n:=sz) (by simp [hi',his]),Builtin.lenOf,hmin,hfc,hst,goInt]
   ·simp only [List.length_append,List.length_take,List.length_drop]; omega
   ·have hrl:=fun r hr=>(hO.rl r hr).1
    rw [List.flatten_append,flat_take hnl',flat_drop hrl,hul',Nat.zero_add,List.take_zero,List.nil_append,Nat.sub_zero]
    refine Rv_append ?_ ?_
    ·have e1:(us.take ((min news.length rows.length)*sz)).take (rows.length*sz)=us.take (rows.length*sz):=by
      rw [List.take_take]
      by_cases hc:news.length≤rows.length
      ·rw [List.take_of_length_le (i:=min (rows.length*sz) (min news.length rows.length*sz)),List.take_of_length_le (i:=rows.length*sz)]
       ·rw [hul]; exact Nat.mul_le_mul_right _ hc
       ·rw [hul,Nat.min_eq_left hc]
        have:=Nat.mul_le_mul_right sz hc
        omega
      ·have hmm:min news.length rows.length=rows.length:=Nat.min_eq_right (by omega)
       rw [hmm,Nat.min_self]
     rw [e1]
     exact Rv_take (Rv_of_RIv _ _ huR) _
    ·have e2:(cur.toList.take (rows.length*sz)).drop (min news.length rows.length*sz)=(cur.toList.take (rows.length*sz)).drop (news.length*sz):=by
      by_cases hc:news.length≤rows.length
      ·rw [Nat.min_eq_left hc]
      ·rw [List.drop_eq_nil_of_le,List.drop_eq_nil_of_le]
       ·have h1:=hO.len; rw [h1]; exact Nat.mul_le_mul_right _ (by omega)
       ·have h1:=hO.len; rw [h1]; exact Nat.mul_le_mul_right _ (by omega)
     rw [e2]
     exact Rv_drop hO.rv _
   ·intro r hr
    rcases List.mem_append.1 hr with hr | hr
    ·have hr:=List.mem_of_mem_take hr
     exact⟨hnl r hr,List.all_eq_true.2 fun x hx=>List.all_eq_true.1 hi x (List.mem_flatten.2 ⟨r,hr,hx⟩)⟩
    ·exact hO.rl r (List.mem_of_mem_drop hr)
 | copy_vv ho ht hx hy hb h1 h3=>
  rename_i T S x y e sz by_ z id l h c l2 h2 c2 e' rows
  obtain⟨i,hi',his,hib,hiz⟩:=ht.info
  generalize hm:min (h2 - l2) (h - l)=m at *
  rcases vw_own hg hx hb with ⟨hv,hk,hr',rfl,rfl,rfl⟩ | ⟨g,cap,cur,ad,hO,a1,a2,a3,hv,d1,d2⟩
  ·rcases vw_own hg hy hb with ⟨hv2,_,_,rfl,rfl,rfl⟩ | ⟨g,cap,cur,ad,hO,a1,a2,a3,hv2,d1,d2⟩
   ·subst hr'
    have:m=0:=by omega
    subst this
    refine wp_value (v:=.int .i64 0) (w':=w) ?_ (hn _ _ ⟨κ,?_⟩)
    ·simp [execOp,ho,resolve,invoke,builtin,hv,hv2,Builtin.copy_,run_underlying ht.und,run_size (P:=P) (T:=e) (n:=sz) (by simp [hi',his]),Builtin.lenOf,Builtin.firstCells,goInt]
    ·have hsame:G C κ { s with ob:=(id,some (.arr e' sz ((([]:List (List AV)).take 0++(([]:List (List AV)).drop 0).take 0++([]:List (List AV)).drop (0+0)))))::s.ob } a w:=
      hg.write hk (o:=.arr e' sz _) rfl (fun _ _=>rfl) ⟨rfl,rfl,rfl⟩ ⟨_,[],rfl,by simpa using World.ownsRow_nil w 0 e' sz,by simp [Rv],by simp,by simp⟩
     exact hsame.putd hd (by simp [R])
   ·rw [hO.k] at hk; simp at hk
  ·rcases vw_own hg hy hb with ⟨_,hk,_⟩ | ⟨g',cap',cur',ad2,hO',b1,b2,b3,hv2,d3,d4⟩
   ·rw [hO.k] at hk; simp at hk
   ·have hkk:=hO'.k
    rw [hO.k] at hkk
    simp only [Option.some.injEq,KO.arr.injEq,Value.slice.injEq,Addr.mk.injEq,and_true,true_and] at hkk
    obtain⟨rfl,rfl⟩:=hkk
    have hh':=hO'.hh
    rw [hO.hh] at hh'
    simp only [Option.some.injEq,Obj.cells.injEq,and_true] at hh'
    subst hh'
    have hrl:=fun r hr=>(hO.rl r hr).1
    have hm1:l2*sz+m*sz≤rows.length*sz:=by rw [← Nat.add_mul]; exact Nat.mul_le_mul_right _ (by omega)
    obtain⟨us,u0,u1,u2,u3,u4⟩:=hO.cells (p:=l2*sz) (m:=m*sz) hm1
    have hfit:l*sz+us.length≤cap*sz:=by rw [u1,← Nat.add_mul]; exact Nat.mul_le_mul_right _ (by omega)
    have hst:=run_store_at (P:=P) (w:=w) (p:=l*sz) hO.hh (by rw [hO.cs]; exact hfit) u3
    have hnc:=hO.nc
    have hrows:(rows.take l++(rows.drop l2).take m++rows.drop (l+m)).length=rows.length:=by simp only [List.length_append,List.length_take,List.length_drop]; omega
    have hG:=hg.rewr hO (rows':=rows.take l++(rows.drop l2).take m++rows.drop (l+m)) (us:=us) (p:=l*sz) hfit hrows
     (by
      rw [List.flatten_append,List.flatten_append,flat_take hrl,flat_take (sz:=sz) (fun r hr=>hrl r (List.mem_of_mem_drop hr)),flat_drop hrl,flat_drop hrl,u1]
      rw [List.take_of_length_le (l:=us) (by rw [u1,← Nat.sub_mul]; exact Nat.mul_le_mul_right _ (by omega)),← Nat.add_mul]
      exact Rv_append (Rv_append (Rv_take hO.rv _) u4) (Rv_drop hO.rv _))
     (by
      intro r hr
      rcases List.mem_append.1 hr with hr | hr
      ·rcases List.mem_append.1 hr with hr | hr
       ·exact hO.rl r (List.mem_of_mem_take hr)
       ·exact hO.rl r (List.mem_of_mem_drop (List.mem_of_mem_take hr))
      ·exact hO.rl r (List.mem_of_mem_drop hr)) u3
    by_cases hz:m=0
    ·subst hz
     have hus:us=[]:=List.eq_nil_of_length_eq_zero (by rw [u1]; simp)
     have hfc:(Builtin.firstCells sz 0 (.slice ad2 (h2 - l2) (cap - l2))).run P w=.ok #[] w:=by
      cases ad2 with
      | none=>simp [Builtin.firstCells]
      | some q=>exact run_firstCells_some w sz 0 q _ _ [] (by simp) (by simp)
     have hst0:∀ q,(storeCells q []).run P w=.ok () w:=fun q=>by simp [storeCells]
     have hsame:w.setRow g (cur.toList.take (l*sz)++us++cur.toList.drop (l*sz+us.length)).toArray=w:=by
      rw [hus,List.append_nil,List.length_nil,Nat.add_zero,List.take_append_drop,Array.toArray_toList]
      exact setRow_self w g cur _ _ hO.hh
     rw [hsame] at hG
     refine wp_value (v:=.int .i64 (0:Nat)) (w':=w) ?_ (hn _ _ ⟨κ,hG.putd hd (by simp [R])⟩)
     have hmin:Nat.min (h2 - l2) (h - l)=0:=hm
     cases ad <;> simp [execOp,ho,resolve,invoke,builtin,hv,hv2,Builtin.copy_,run_underlying ht.und,run_size (P:=P) (T:=e) (n:=sz) (by simp [hi',his]),Builtin.lenOf,hmin,hfc,hst0,goInt]
    ·have e1:=d1 (by omega)
     have e2:=d3 (by omega)
     subst e1; subst e2
     have hfc:(Builtin.firstCells sz m (.slice (some ⟨g,l2*sz,none⟩) (h2 - l2) (cap - l2))).run P w=.ok us.toArray w:=run_firstCells_some w sz m _ _ _ us u1 u2
     have hmin:Nat.min (h2 - l2) (h - l)=m:=hm
     refine wp_value (v:=.int .i64 (m:Nat)) ?_ (hn _ _ ⟨κ,hG.putd hd (by simp [R])⟩)
     simp [execOp,ho,resolve,invoke,builtin,hv,hv2,Builtin.copy_,run_underlying ht.und,run_size (P:=P) (T:=e) (n:=sz) (by simp [hi',his]),Builtin.lenOf,hmin,hfc,hst,goInt]
 | strix ho hT hi h0 hb=>
  rename_i T bs i k n b
  have hI:=ev_int hg hi
  refine quiet hg hd hn (u:=.int .u8 b.toNat) ?_ (by simp [R])
  have h2:bs[n.toNat]?=some b:=by
   have h3:=(List.getElem?_eq_some_iff.1 hb)
   obtain⟨h4,h5⟩:=h3
   have h6:n.toNat < bs.size:=by simpa using h4
   rw [getElem?_pos bs n.toNat h6,← h5]
   rfl
  have hc:a.eval (.const (.string bs))=.string bs:=rfl
  simp [execOp,ho,hI,hc,Instr.index,asIntOf,run_underlying hT,h0,h2]
 | nil_fz ho hx=>
  rename_i x cells off
  have hR:=hg.ev x; rw [hx] at hR
  simp only [R,RI] at hR
  obtain⟨b,p,hu,hb,ho',hc⟩:=hR
  refine quiet hg hd hn (u:=a.eval x) ?_ (by simp only [R,RI]; exact⟨b,p,hu,hb,ho',hc⟩)
  simp [execOp,ho,hu]
 | mk_map ho hd'=>
  rename_i T d
  have hfr:s.fresh C.ob0 d:=(hf (d,_) (List.mem_singleton.2 rfl)).resolve_left (by simp)
  refine wp_value (v:=.map (some w.heap.size)) (w':=w.alloc (.map #[] 0)) ?_ (hn _ _ ⟨κ.set d (some (.arr (.map (some w.heap.size)))),?_⟩)
  ·simp [execOp,ho,Instr.makeMap]
  ·have hgc:=hg.create hfr (w':=w.alloc (.map #[] 0)) (k:=.arr (.map (some w.heap.size))) (o:=.mp []) (by simp) (fun b hb=>heap_alloc_old w _ b hb) ⟨rfl,rfl,rfl⟩
    (fun b hb=>by simp [KO.blk,vblk] at hb; omega) ⟨_,#[],0,rfl,heap_alloc_new w _,rfl⟩
   refine hgc.putd hd ?_
   simp only [R]
   exact⟨rfl,fun k hk=>by simp [Kap.set] at hk; exact hk.symm⟩
 | lookup ho hT hm hb hk=>
  rename_i T m k id xs p
  obtain⟨K,E,e,t1,t2,t3,t4,t5,t6,t7⟩:=hT
  have hM:=hg.ev m; rw [hm] at hM; simp only [R] at hM
  have hK:=hg.ev k; rw [hk] at hK; simp only [R,Rv] at hK
  obtain⟨ko,hko,b,arr,cl,rfl,hh,he⟩:=hg.obj hb
  have hmv:=hM.2 _ hko
  simp only [KO.arr.injEq] at hmv
  obtain⟨vs,hkv,v1,r1,e1,rfl,v2,r2,e2,rfl,e3⟩:=hK
  have hvs:vs=#[.int .i64 p.1,.int .i64 p.2]:=by
   apply Array.toList_inj.1
   rw [e1,e2,e3]
  subst hvs
  obtain⟨r,hr,hc⟩:=run_findKey (w:=w) t2 t3 t4 (p:=p) (es:=arr.toList) he
  have hck:=run_checkKey (P:=P) (w:=w) t2 t3 t4 (p:=p) (b:=arr.isEmpty)
  refine quiet hg hd hn (u:=.bool (xs.contains p)) ?_ (by simp [R])
  simp only [prV] at hr hck
  rcases hc with ⟨c1,c2⟩ | ⟨c1,j,q,c2,c3,c4⟩
  ·subst c2
   simp [execOp,ho,← hmv,hkv,Instr.lookup,run_underlying t1,run_getObj_mp hh,hck,hr,run_zero t5]
   simpa using c1
  ·subst c4
   simp [execOp,ho,← hmv,hkv,Instr.lookup,run_underlying t1,run_getObj_mp hh,hck,hr]
   simpa using c1
 | put ho hT hm hb hk hv=>
  rename_i T m k v id xs p
  obtain⟨K,E,e,t1,t2,t3,t4,t5,t6,t7⟩:=hT
  have hM:=hg.ev m; rw [hm] at hM; simp only [R] at hM
  have hK:=hg.ev k; rw [hk] at hK; simp only [R,Rv] at hK
  have hV:=hg.ev v; rw [hv] at hV; simp only [R] at hV
  obtain⟨ko,hko,b,arr,cl,rfl,hh,he⟩:=hg.obj hb
  have hmv:=hM.2 _ hko
  simp only [KO.arr.injEq] at hmv
  obtain⟨vs,hkv,v1,r1,e1,rfl,v2,r2,e2,rfl,e3⟩:=hK
  have hvs:vs=#[.int .i64 p.1,.int .i64 p.2]:=by
   apply Array.toList_inj.1
   rw [e1,e2,e3]
  subst hvs
  obtain⟨r,hr,hc⟩:=run_findKey (w:=w) t2 t3 t4 (p:=p) (es:=arr.toList) he
  have hck:=run_checkKey (P:=P) (w:=w) t2 t3 t4 (p:=p) (b:=false)
  simp only [prV] at hr hck
  have hblk:b < w.heap.size:=(Array.getElem?_eq_some_iff.1 hh).1
  have fin:∀ (arr':Array MapEntry) (cl':Nat),arr'.toList.map (fun e=>(e.key,e.val))=(if xs.contains p then xs else xs++[p]).map prV →
    G C κ { s with ob:=(id,some (.mp ((if xs.contains p then xs else xs++[p]).map prV)))::s.ob } a { w with heap:=w.heap.setIfInBounds b (.map arr' cl') }:=by
   intro arr' cl' h
   refine hg.write hko (o:=.mp _) (by simp) (fun b' hb'=>?_) ⟨rfl,rfl,rfl⟩ ⟨b,arr',cl',rfl,?_,h⟩
   ·have:b≠b':=fun e=>hb' (by subst e; rfl)
    simp [Array.getElem?_setIfInBounds,this]
   ·simp [hblk]
  rcases hc with ⟨c1,c2⟩ | ⟨c1,j,q,c2,c3,c4⟩
  ·subst c2
   refine wp_unit (w':={ w with heap:=w.heap.setIfInBounds b (.map (arr.push { key:=.agg #[.int .i64 p.1,.int .i64 p.2],val:=.bool true,born:=cl }) (cl+1)) }) ?_ (hn _ _ ⟨κ,(fin _ _ ?_).putd hd (by simp [R])⟩)
   ·simp [execOp,ho,← hmv,hkv,hV,Instr.mapUpdate,run_underlying t1,run_getObj_mp hh,hck,hr,run_setObj_mp _ hh]
   ·rw [if_neg (by simpa using c1)]
    simp [he,prV]
  ·subst c4
   have hj:j < arr.size:=by
    have h1:=(List.getElem?_eq_some_iff.1 c2).1
    have h2:=congrArg List.length he
    simp at h2; omega
   have hkey:arr[j].key=.agg #[.int .i64 p.1,.int .i64 p.2]∧arr[j].val=.bool true:=by
    have h1:=congrArg (fun l=>l[j]?) he
    simp only [List.getElem?_map,c2,Option.map_some] at h1
    have h2:arr.toList[j]?=some arr[j]:=by simp [hj]
    rw [h2] at h1
    simp only [Option.map_some,Option.some.injEq,prV,Prod.mk.injEq,c3] at h1
    exact h1
   have hsb:Instr.sameBits 10000 (.agg #[.int .i64 p.1,.int .i64 p.2]) (.agg #[.int .i64 p.1,.int .i64 p.2])=true:=by
    rw [show (10000:Nat)=9998+1+1 from rfl]
    simp [Instr.sameBits]
   have hkeep:(Instr.keyThatStays (.agg #[.int .i64 p.1,.int .i64 p.2]) (.agg #[.int .i64 p.1,.int .i64 p.2])).run P w=.ok (.agg #[.int .i64 p.1,.int .i64 p.2]) w:=by
    unfold Instr.keyThatStays
    rw [if_pos hsb]
    simp
   refine wp_unit (w':={ w with heap:=w.heap.setIfInBounds b (.map (arr.modify j fun e=>{ e with key:=.agg #[.int .i64 p.1,.int .i64 p.2],val:=.bool true }) cl) }) ?_ (hn _ _ ⟨κ,(fin _ _ ?_).putd hd (by simp [R])⟩)
   ·simp [execOp,ho,← hmv,hkv,hV,Instr.mapUpdate,run_underlying t1,run_getObj_mp hh,hck,hr,hj,hkey.1,hkeep,run_setObj_mp _ hh]
   ·rw [if_pos c1,← he]
    apply List.ext_getElem?
    intro q
    simp only [List.getElem?_map,Array.getElem?_toList,Array.getElem?_modify]
    by_cases hq:j=q
    ·subst hq
     simp [hj,hkey]
    ·simp [hq]
end
end Go.Proofs.YthlchdnbokhclaaGreat.Ql

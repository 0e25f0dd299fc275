import Derived.Test.YthlchdnbokhclaaGreatQa2
import Derived.LoopN
set_option linter.all false
namespace Go.Proofs.YthlchdnbokhclaaGreat.Ql
open Go
def Lt {α β:Type} (x:α) (f:α→β):β:=f x
theorem lt {α β:Type} {x:α} {f:α→β} {r:β} (h:Lt x f=r):∃ y,y=x∧f y=r:=⟨_,rfl,h⟩
theorem b2 (b:Bool):b=true∨b=false:=by cases b <;> simp
section run
variable {P:Program} {n:Nat} {ob0:List (Nat × Option AO)} {ops:Array Oper} {o:Oper} {rest:List Oper} {d:List It} {tm:List (Nat × AV)} {ob:List (Nat × Option AO)} {K:List It→AS→Prop} {t:Nat} {rd:List Nat} {v:AV}
theorem Q1 (hw:want ops tm o=some true) (hd:o.dst=some t) (hn:Nat.blt t n=true) (hax:Ax P o (ev tm) (lo ob) rd v [])
  (h:RunD P n ob0 ops rest (⟨o,true,v,rd,[]⟩::d) ⟨(t,v)::tm,ob⟩ K):RunD P n ob0 ops (o::rest) d ⟨tm,ob⟩ K:=RunD.q (s:=⟨tm,ob⟩) hw hd hn hax h
theorem Qs {i:Nat} {x:Option AO} (hw:want ops tm o=some true) (hd:o.dst=none) (hax:Ax P o (ev tm) (lo ob) [i] v [(i,x)])
  (h:RunD P n ob0 ops rest (⟨o,true,v,[i],[(i,x)]⟩::d) ⟨tm,(i,x)::ob⟩ K):RunD P n ob0 ops (o::rest) d ⟨tm,ob⟩ K:=RunD.st (s:=⟨tm,ob⟩) hw hd hax (by simp) h
theorem Qn {i:Nat} {x:Option AO} (hw:want ops tm o=some true) (hd:o.dst=some t) (hn:Nat.blt t n=true) (hax:Ax P o (ev tm) (lo ob) rd v [(i,x)])
  (hr:rd.contains i=false) (h1:menT i tm=false) (h2:lo ob i=none) (h3:menO i ob=false) (h4:lo ob0 i=none)
  (h:RunD P n ob0 ops rest (⟨o,true,v,rd,[(i,x)]⟩::d) ⟨(t,v)::tm,(i,x)::ob⟩ K):RunD P n ob0 ops (o::rest) d ⟨tm,ob⟩ K:=
 RunD.ax (s:=⟨tm,ob⟩) hw hd hn hax (fresh1 (i:=i) (by simp at hr; simp [hr]) h1 h2 h3 h4) h
theorem Qa {i j:Nat} {x:Option AO} (hw:want ops tm o=some true) (hd:o.dst=some t) (hn:Nat.blt t n=true) (hax:Ax P o (ev tm) (lo ob) [i] v [(j,x),(i,none)])
  (hr:Nat.beq j i=false) (h1:menT j tm=false) (h2:lo ob j=none) (h3:menO j ob=false) (h4:lo ob0 j=none)
  (h:RunD P n ob0 ops rest (⟨o,true,v,[i],[(j,x),(i,none)]⟩::d) ⟨(t,v)::tm,(j,x)::(i,none)::ob⟩ K):RunD P n ob0 ops (o::rest) d ⟨tm,ob⟩ K:=
 RunD.ax (s:=⟨tm,ob⟩) hw hd hn hax (fresh1 (i:=j) (by have:=Nat.ne_of_beq_eq_false hr; simp [this]) h1 h2 h3 h4) h
theorem Qx (hw:want ops tm o=some false) (hd:o.dst=some t) (hn:Nat.blt t n=true) (h:RunD P n ob0 ops rest (⟨o,false,.tup [],[],[]⟩::d) ⟨(t,.tup [])::tm,ob⟩ K):RunD P n ob0 ops (o::rest) d ⟨tm,ob⟩ K:=
 RunD.no (s:=⟨tm,ob⟩) hw hd hn h
theorem Qc (hw:want ops tm o=some true) (hd:o.dst=some t) (hn:Nat.blt t n=true) {g:FuncId} {args:List AV} {r:AV} (hc:Cal P o (ev tm) g args) (hok:CallOK P g args [] r []) (hr:r.only []=true)
  (h:RunD P n ob0 ops rest (⟨o,true,r,[],[]⟩::d) ⟨(t,r)::tm,ob⟩ K):RunD P n ob0 ops (o::rest) d ⟨tm,ob⟩ K:=RunD.c (s:=⟨tm,ob⟩) hw hd hn hc hok hr h
end run
section lists
variable {σ:Nat→Option AO} {ks:List Nat} {js:List (Nat × Nat)}
def NzV (σ:Nat→Option AO) (ks:List Nat) (js:List (Nat × Nat)):List AV→List AV→Prop
 | [],[]=>True
 | x::xs,y::ys=>Nz σ ks js x y∧NzV σ ks js xs ys
 | _,_=>False
theorem NzV.len:∀ {xs ys:List AV},NzV σ ks js xs ys→xs.length=ys.length
 | [],[],_=>rfl
 | _::_,_::_,h=>by simp [NzV.len h.2]
 | [],_::_,h=>h.elim
 | _::_,[],h=>h.elim
theorem NzV.get:∀ {xs ys:List AV},NzV σ ks js xs ys→∀ (i:Nat) (x y:AV),xs[i]?=some x→ys[i]?=some y→Nz σ ks js x y
 | [],_,_,_,_,_,hx,_=>by simp at hx
 | _::_,[],h,_,_,_,_,_=>h.elim
 | _::_,_::_,h,0,x,y,hx,hy=>by simp at hx hy; subst hx hy; exact h.1
 | _::_,_::_,h,i+1,x,y,hx,hy=>NzV.get h.2 i x y (by simpa using hx) (by simpa using hy)
theorem Nz.aggV {cs cs':List AV} (h:NzV σ ks js cs cs'):Nz σ ks js (.agg cs) (.agg cs'):=.agg h.len h.get
theorem Nz.tupV {cs cs':List AV} (h:NzV σ ks js cs cs'):Nz σ ks js (.tup cs) (.tup cs'):=.tup h.len h.get
theorem Nz.fnV {f:Nat} {cs cs':List AV} (h:NzV σ ks js cs cs'):Nz σ ks js (.fn f cs) (.fn f cs'):=.fn h.len h.get
theorem NzO.boxV {cs cs':List AV} (h:NzV σ ks js cs cs'):NzO σ ks js (.box cs) (.box cs'):=.box h.len h.get
theorem Nz.rfl' {x:AV} (hy:x.only []=true):Nz σ ks js x x:=.imm (Sub.refl _) hy
def DrV (σ:Nat→Option AO) (ks:List Nat):List AV→List AV→Prop
 | [],[]=>True
 | x::xs,y::ys=>Dr σ ks x y∧DrV σ ks xs ys
 | _,_=>False
theorem DrV.len:∀ {xs ys:List AV},DrV σ ks xs ys→xs.length=ys.length
 | [],[],_=>rfl
 | _::_,_::_,h=>by simp [DrV.len h.2]
 | [],_::_,h=>h.elim
 | _::_,[],h=>h.elim
theorem DrV.get:∀ {xs ys:List AV},DrV σ ks xs ys→∀ (i:Nat) (x y:AV),xs[i]?=some x→ys[i]?=some y→Dr σ ks x y
 | [],_,_,_,_,_,hx,_=>by simp at hx
 | _::_,[],h,_,_,_,_,_=>h.elim
 | _::_,_::_,h,0,x,y,hx,hy=>by simp at hx hy; subst hx hy; exact h.1
 | _::_,_::_,h,i+1,x,y,hx,hy=>DrV.get h.2 i x y (by simpa using hx) (by simpa using hy)
theorem Dr.aggV {cs cs':List AV} (h:DrV σ ks cs cs'):Dr σ ks (.agg cs) (.agg cs'):=.agg h.len h.get
theorem Dr.fnV {f:Nat} {cs cs':List AV} (h:DrV σ ks cs cs'):Dr σ ks (.fn f cs) (.fn f cs'):=.fn h.len h.get
theorem Dr.ptrV {id off:Nat} {cells cells':List AV} (hk:id∈ks) (h:σ id=some (.box cells)) (hc:DrV σ ks cells cells'):Dr σ ks (.ptr id off) (.ipt cells' off):=.ptr hk h hc.len hc.get
theorem DrV.im:∀ {xs:List AV},xs.all AV.im=true→DrV σ ks xs xs
 | [],_=>trivial
 | x::xs,h=>by simp at h; exact⟨.imm h.1,DrV.im (by simpa using h.2)⟩
theorem Dr.im {xs:List AV} (h:xs.all AV.im=true):Dr σ ks (.agg xs) (.agg xs):=.aggV (.im h)
end lists
section run2
variable {P:Program} {n:Nat} {ob0:List (Nat × Option AO)} {ops:Array Oper} {o:Oper} {rest:List Oper} {d:List It} {tm:List (Nat × AV)} {ob:List (Nat × Option AO)} {K:List It→AS→Prop} {t:Nat}
theorem Ql (ks:List Nat) (hw:want ops tm o=some true) (hd:o.dst=some t) (hn:Nat.blt t n=true) {g:FuncId} {args args':List AV} {r:AV} (hc:Cal P o (ev tm) g args) (hl:DrV (lo ob) ks args args') (hok:CallOK P g args' [] r [])
  (hr:r.only []=true) (hs:r.solid=true)
  (h:RunD P n ob0 ops rest (⟨o,true,r,ks,[]⟩::d) ⟨(t,r)::tm,ob⟩ K):RunD P n ob0 ops (o::rest) d ⟨tm,ob⟩ K:=
 RunD.cl (s:=⟨tm,ob⟩) hw hd hn (.lend (obs':=[]) hc hl.len hl.get hok hr rfl hs rfl rfl) (by simp [sm]) h
end run2
def rngL' {α V ρ:Type} (ex:Int→V→Option ρ) (bd:(Int→V→Option ρ)→α→Int→V→Option ρ):List α→Int→V→Option ρ
 | [],i,v=>ex i v
 | x::ys,i,v=>bd (rngL' ex bd ys) x i v
def rngL {α V ρ:Type} (xs:List α) (v:V) (ex:Int→V→Option ρ) (bd:(Int→V→Option ρ)→α→Int→V→Option ρ):Option ρ:=
 if xs.length≤9223372036854775807 then rngL' ex bd xs 0 v else none
def rngN' {V ρ:Type} (ex:Int→V→Option ρ) (bd:(Int→V→Option ρ)→Int→V→Option ρ):Nat→Int→V→Option ρ
 | 0,i,v=>ex i v
 | m+1,i,v=>bd (rngN' ex bd m) i v
def rngN {V ρ:Type} (i e:Int) (v:V) (ex:Int→V→Option ρ) (bd:(Int→V→Option ρ)→Int→V→Option ρ):Option ρ:=
 if -4611686018427387904≤i∧e≤9223372036854775807 then rngN' ex bd (e - i).toNat i v else none
def whl {V ρ:Type} (bd:(V→Option ρ)→V→Option ρ):Nat→V→Option ρ
 | 0,_=>none
 | k+1,v=>bd (whl bd k) v
theorem W_succ {i:Int} (h0:-4611686018427387904≤i) (h1:i < 9223372036854775807):W (i+1)=i+1:=by
 unfold W IntKind.wrap
 simp [IntKind.bits,IntKind.signed]
 omega
theorem lt_f {i e:Int} (h:e≤i) (hb:decide (i < e)=true):False:=by simp at hb; omega
theorem lt_t {i e:Int} (h:i < e) (hb:decide (i < e)=false):False:=by simp at hb; omega
section loops
variable {P:Program} {n:Nat} {ob0:List (Nat × Option AO)} {s:AS} {Q:Exit→AS→Prop} {id:Nat} {c:Code}
theorem Tri.join1 {c:Code} (s1:AS) (hrest:Q .normal s1) (h:Tri P n ob0 c s fun e s'=>match e with | .normal=>Ent n ob0 s' s1 | e=>Q e s'):Tri P n ob0 c s Q:=
 Tri.post h fun e x hx=>by
  cases e with
  | normal=>exact⟨s1,hx,hrest⟩
  | _=>exact⟨x,Ent.refl x,hx⟩
theorem Tri.joinv {c:Code} {V:Type} (v:V) (S:V→AS) (hrest:Q .normal (S v)) (h:Tri P n ob0 c s fun e s'=>match e with | .normal=>∃ i,some i=some v∧Ent n ob0 s' (S i) | e=>Q e s'):Tri P n ob0 c s Q:=
 Tri.join S (fun i=>some i=some v) (fun i hi=>by cases hi; exact hrest) h
def Rd {V I:Type} (n:Nat) (ob0:List (Nat × Option AO)) (Q:Exit→AS→Prop) (id:Nat) (N:V→Prop) (S:V→AS) (H:I→Prop) (T:I→AS) (e:Exit) (s':AS):Prop:=
 match e with
 | .normal=>∃ v,N v∧Ent n ob0 s' (S v)
 | .exit id'=>if id'=id then ∃ x,H x∧Ent n ob0 s' (T x) else Q (.exit id') s'
 | e=>Q e s'
theorem Tri.whlB {V I:Type} (J:Nat→V→Prop) (S:V→AS) (H:I→Prop) (T:I→AS) (k:Nat) (v:V) (h:J k v) (h0:Ent n ob0 s (S v)) (hrest:∀ x,H x→Q .normal (T x))
  (round:∀ k v,J k v→Tri P n ob0 c (S v) fun e s'=>match e with | .normal=>∃ k' < k,∃ v',J k' v'∧Ent n ob0 s' (S v') | .exit id'=>(if id'=id then ∃ x,H x∧Ent n ob0 s' (T x) else Q (.exit id') s') | e=>Q e s') :
  Tri P n ob0 (.block id (.loop c)) s Q:=by
 refine Tri.block (Tri.ent h0 (Tri.loop1 id T H (fun k s=>∃ v,J k v∧s=S v) k ⟨v,h,rfl⟩ ?_ ?_))
 ·intro x hx; simp only [if_true]; exact hrest x hx
 ·rintro k _ ⟨v,hJ,rfl⟩
  refine(round k v hJ).mono fun e x hx=>?_
  cases e with
  | normal=>obtain⟨k',hk,v',hJ',he⟩:=hx; exact⟨k',hk,S v',he,v',hJ',rfl⟩
  | exit id'=>
   dsimp only at hx ⊢
   split
   ·rename_i e; rw [if_pos e] at hx; exact hx
   ·rename_i e; rw [if_neg e] at hx; simpa [e] using hx
  | _=>exact hx
theorem Tri.rngL {α V I ρ:Type} {xs:List α} {v:V} {ex:Int→V→Option ρ} {bd:(Int→V→Option ρ)→α→Int→V→Option ρ} {r:ρ} (h:rngL xs v ex bd=some r) (S:Int × V→AS) (H:I→Prop) (T:I→AS)
  (h0:Ent n ob0 s (S (0,v))) (hrest:∀ x,H x→Q .normal (T x))
  (done:∀ (i:Int) (v:V),(xs.length:Int)≤i→ex i v=some r→Tri P n ob0 c (S (i,v)) (Rd (V:=Int × V) n ob0 Q id (fun _=>False) S H T))
  (round:∀ (nx:Int→V→Option ρ) (x:α) (i:Int) (v:V),0≤i→i < xs.length→W (i+1)=i+1→ix xs i=some x→bd nx x i v=some r →
   Tri P n ob0 c (S (i,v)) (Rd (V:=Int × V) n ob0 Q id (fun p=>p.1=i+1∧nx (i+1) p.2=some r) S H T)):Tri P n ob0 (.block id (.loop c)) s Q:=by
 unfold Ql.rngL at h
 split at h
 case isFalse=>cases h
 rename_i hlen
 refine Tri.whlB (V:=Int × V) (fun k p=>∃ ys,k=ys.length∧0≤p.1∧p.1+ys.length=xs.length∧ys=xs.drop p.1.toNat∧rngL' ex bd ys p.1 p.2=some r) S H T xs.length (0,v) ⟨xs,rfl,by omega,by simp,by simp,h⟩ h0 hrest ?_
 rintro k ⟨i,v⟩ ⟨ys,rfl,hi0,hil,hys,hr⟩
 dsimp only at hi0 hil hys hr ⊢
 cases ys with
 | nil=>
  simp only [List.length_nil] at hil
  refine(done i v (by omega) hr).mono fun e x hx=>?_
  cases e with
  | normal=>obtain⟨_,hf,_⟩:=hx; exact hf.elim
  | _=>exact hx
 | cons x ys=>
  simp only [List.length_cons] at hil ⊢
  have hlt:i.toNat < xs.length:=by omega
  rw [List.drop_eq_getElem_cons hlt] at hys
  simp only [List.cons.injEq] at hys
  refine(round (rngL' ex bd ys) x i v hi0 (by omega) (W_succ (by omega) (by omega)) ?_ hr).mono fun e s' hx=>?_
  ·unfold ix; rw [if_pos hi0,List.getElem?_eq_getElem hlt,hys.1]
  ·cases e with
   | normal=>
    obtain⟨⟨i',v'⟩,⟨h1,hn⟩,he⟩:=hx
    dsimp only at h1; subst h1
    exact⟨ys.length,by omega,(i+1,v'),⟨ys,rfl,by dsimp only; omega,by dsimp only; omega,by rw [hys.2,show (i+1).toNat=i.toNat+1 by omega],hn⟩,he⟩
   | _=>exact hx
theorem Tri.rngN {V I ρ:Type} {i0 en:Int} {v:V} {ex:Int→V→Option ρ} {bd:(Int→V→Option ρ)→Int→V→Option ρ} {r:ρ} (h:rngN i0 en v ex bd=some r) (S:Int × V→AS) (H:I→Prop) (T:I→AS)
  (h0:Ent n ob0 s (S (i0,v))) (hrest:∀ x,H x→Q .normal (T x))
  (done:∀ (i:Int) (v:V),en≤i→i0≤i→ex i v=some r→Tri P n ob0 c (S (i,v)) (Rd (V:=Int × V) n ob0 Q id (fun _=>False) S H T))
  (round:∀ (nx:Int→V→Option ρ) (i:Int) (v:V),i0≤i→i < en→W (i+1)=i+1→bd nx i v=some r →
   Tri P n ob0 c (S (i,v)) (Rd (V:=Int × V) n ob0 Q id (fun p=>p.1=i+1∧nx (i+1) p.2=some r) S H T)):Tri P n ob0 (.block id (.loop c)) s Q:=by
 unfold Ql.rngN at h
 split at h
 case isFalse=>cases h
 rename_i hlen
 refine Tri.whlB (V:=Int × V) (fun k p=>i0≤p.1∧k=(en - p.1).toNat∧rngN' ex bd k p.1 p.2=some r) S H T _ (i0,v) ⟨by simp,rfl,h⟩ h0 hrest ?_
 rintro k ⟨i,v⟩ ⟨hi0,hk,hr⟩
 dsimp only at hi0 hk hr ⊢
 cases k with
 | zero=>
  refine(done i v (by omega) hi0 hr).mono fun e x hx=>?_
  cases e with
  | normal=>obtain⟨_,hf,_⟩:=hx; exact hf.elim
  | _=>exact hx
 | succ k=>
  refine(round (rngN' ex bd k) i v hi0 (by omega) (W_succ (by omega) (by omega)) hr).mono fun e s' hx=>?_
  cases e with
  | normal=>
   obtain⟨⟨i',v'⟩,⟨h1,hn⟩,he⟩:=hx
   dsimp only at h1; subst h1
   exact⟨k,by omega,(i+1,v'),⟨by dsimp only; omega,by dsimp only; omega,hn⟩,he⟩
  | _=>exact hx
theorem Tri.whl {V I ρ:Type} {k:Nat} {v:V} {bd:(V→Option ρ)→V→Option ρ} {r:ρ} (h:whl bd k v=some r) (S:V→AS) (H:I→Prop) (T:I→AS)
  (h0:Ent n ob0 s (S v)) (hrest:∀ x,H x→Q .normal (T x))
  (round:∀ (nx:V→Option ρ) v,bd nx v=some r→Tri P n ob0 c (S v) (Rd n ob0 Q id (fun v=>nx v=some r) S H T)):Tri P n ob0 (.block id (.loop c)) s Q:=by
 refine Tri.whlB (V:=V) (fun k v=>Ql.whl bd k v=some r) S H T k v h h0 hrest ?_
 intro k v hr
 cases k with
 | zero=>cases hr
 | succ k=>
  refine(round (Ql.whl bd k) v hr).mono fun e s' hx=>?_
  cases e with
  | normal=>obtain⟨v',hn,he⟩:=hx; exact⟨k,by omega,v',hn,he⟩
  | _=>exact hx
end loops
end Go.Proofs.YthlchdnbokhclaaGreat.Ql
namespace Go.Proofs.YthlchdnbokhclaaGreat.Ql
open Go
section loops
variable {P:Program} {n:Nat} {ob0:List (Nat × Option AO)} {s:AS} {Q:Exit→AS→Prop} {id:Nat} {c:Code}
theorem Tri.rngLv {α V ρ:Type} {xs:List α} {v:V} {ex:Int→V→Option ρ} {bd:(Int→V→Option ρ)→α→Int→V→Option ρ} {r:ρ} (h:Ql.rngL xs v ex bd=some r) (S:Int × V→AS) (T:ρ→AS)
  (h0:Ent n ob0 s (S (0,v))) (hrest:Q .normal (T r))
  (done:∀ (i:Int) (v:V),(xs.length:Int)≤i→ex i v=some r→Tri P n ob0 c (S (i,v)) (Rd (V:=Int × V) n ob0 Q id (fun _=>False) S (fun y=>some y=some r) T))
  (round:∀ (nx:Int→V→Option ρ) (x:α) (i:Int) (v:V),0≤i→i < xs.length→W (i+1)=i+1→ix xs i=some x→bd nx x i v=some r →
   Tri P n ob0 c (S (i,v)) (Rd (V:=Int × V) n ob0 Q id (fun p=>p.1=i+1∧nx (i+1) p.2=some r) S (fun y=>some y=some r) T)):Tri P n ob0 (.block id (.loop c)) s Q:=
 Tri.rngL h S (fun y=>some y=some r) T h0 (fun x hx=>by cases hx; exact hrest) done round
theorem Tri.rngNv {V ρ:Type} {i0 en:Int} {v:V} {ex:Int→V→Option ρ} {bd:(Int→V→Option ρ)→Int→V→Option ρ} {r:ρ} (h:Ql.rngN i0 en v ex bd=some r) (S:Int × V→AS) (T:ρ→AS)
  (h0:Ent n ob0 s (S (i0,v))) (hrest:Q .normal (T r))
  (done:∀ (i:Int) (v:V),en≤i→i0≤i→ex i v=some r→Tri P n ob0 c (S (i,v)) (Rd (V:=Int × V) n ob0 Q id (fun _=>False) S (fun y=>some y=some r) T))
  (round:∀ (nx:Int→V→Option ρ) (i:Int) (v:V),i0≤i→i < en→W (i+1)=i+1→bd nx i v=some r →
   Tri P n ob0 c (S (i,v)) (Rd (V:=Int × V) n ob0 Q id (fun p=>p.1=i+1∧nx (i+1) p.2=some r) S (fun y=>some y=some r) T)):Tri P n ob0 (.block id (.loop c)) s Q:=
 Tri.rngN h S (fun y=>some y=some r) T h0 (fun x hx=>by cases hx; exact hrest) done round
theorem Tri.whlv {V ρ:Type} {k:Nat} {v:V} {bd:(V→Option ρ)→V→Option ρ} {r:ρ} (h:Ql.whl bd k v=some r) (S:V→AS) (T:ρ→AS)
  (h0:Ent n ob0 s (S v)) (hrest:Q .normal (T r))
  (round:∀ (nx:V→Option ρ) (v:V),bd nx v=some r→Tri P n ob0 c (S v) (Rd n ob0 Q id (fun v=>nx v=some r) S (fun y=>some y=some r) T)):Tri P n ob0 (.block id (.loop c)) s Q:=
 Tri.whl h S (fun y=>some y=some r) T h0 (fun x hx=>by cases hx; exact hrest) round
end loops
def nzd (m:Int):Option Unit:=if m=0 then none else some ()
section
variable {P:Program} {o:Oper} {ρ:Operand→AV} {σ:Nat→Option AO}
theorem Ax.neg {T:Nat} {x:Operand} {n:Int} (ho:o.op=.unOp .neg T x) (hx:ρ x=Ai n):Ax P o ρ σ [] (Ai (W (-n))) []:=Ax.un ho hx (fun w=>by simp [Op.unary,Op.intArith,Int.zero_sub])
theorem Ax.not {T:Nat} {x:Operand} {b:Bool} (ho:o.op=.unOp .not T x) (hx:ρ x=Ab b):Ax P o ρ σ [] (Ab (!b)) []:=Ax.un ho hx (fun _=>rfl)
theorem run_eqb {w:World} {T:Nat} {a b:Bool} (hT:P.underlying T=some .bool):(Op.equal T (.bool a) (.bool b)).run P w=.ok (a==b) w:=by
 unfold Op.equal
 rw [show Op.maxDepth=9999+1 from rfl,Op.equalIn]
 simp only [Sem.run_bind,run_underlying hT,Result.andThen_ok]
 rfl
theorem Ax.bool_eql {T:Nat} {x y:Operand} {U:Nat} {a b:Bool} (hT:P.underlying T=some .bool) (ho:o.op=.binOp .eql T x y U) (hx:ρ x=Ab a) (hy:ρ y=Ab b):Ax P o ρ σ [] (Ab (a==b)) []:=
 Ax.binc (X:=.bool a) (Y:=.bool b) (V:=.bool (a==b)) ho hx hy (fun w=>by simp [eqGuard,binOp,run_eqb hT])
theorem Ax.bool_neq {T:Nat} {x y:Operand} {U:Nat} {a b:Bool} (hT:P.underlying T=some .bool) (ho:o.op=.binOp .neq T x y U) (hx:ρ x=Ab a) (hy:ρ y=Ab b):Ax P o ρ σ [] (Ab (a != b)) []:=
 Ax.binc (X:=.bool a) (Y:=.bool b) (V:=.bool (a != b)) ho hx hy (fun w=>by simp [eqGuard,binOp,run_eqb hT,bne])
theorem Ax.sb01 {α:Type} {T e sz by_:Nat} {z:Value} {x y':Operand} {k':IntKind} {h:Int} {cl:α→List AV} {xs zs:List α} (ho:o.op=.slice T x none (some y') none) (ht:Slc P T e sz by_ z) (hx:ρ x=.lst sz (xs.map cl)) (hh:ρ y'=.sc (.int k' h))
  (hs:Ql.sub xs 0 h=some zs):Ax P o ρ σ [] (.lst sz (zs.map cl)) []:=by
 obtain⟨h0,h1,h2,rfl⟩:=sub_spec hs
 obtain⟨h,rfl⟩:=Int.eq_ofNat_of_zero_le h1
 rw [List.map_take,List.map_drop]
 exact Ax.sub (l:=0) (h:=h) ho ht hx rfl ⟨k',hh⟩ (by omega) (by simpa using h2)
end
end Go.Proofs.YthlchdnbokhclaaGreat.Ql
namespace Go.Proofs.YthlchdnbokhclaaGreat.Ql
open Go
def obsIn (σ:Nat→Option AO):List (Nat × AO)→Prop
 | []=>True
 | p::r=>σ p.1=some p.2∧obsIn σ r
theorem obsIn_spec {σ:Nat→Option AO}:∀ {obs:List (Nat × AO)},obsIn σ obs→∀ id o,lo (sm obs) id=some o→σ id=some o
 | [],_,_,_,h=>by simp [sm,lo] at h
 | p::r,h,id,o,ho=>by
  rw [show sm (p::r)=(p.1,some p.2)::sm r from rfl,lo_cons] at ho
  split at ho
  ·rename_i e; cases ho; subst e; exact h.1
  ·exact obsIn_spec h.2 id o ho
def freshB (ob0:List (Nat × Option AO)) (tm:List (Nat × AV)) (ob:List (Nat × Option AO)) (k:Nat):Bool:=
 !menT k tm&&(match lo ob k with | none=>true | some _=>false)&&!menO k ob&&(match lo ob0 k with | none=>true | some _=>false)
theorem freshB_spec {ob0:List (Nat × Option AO)} {tm:List (Nat × AV)} {ob:List (Nat × Option AO)} {k:Nat} (h:freshB ob0 tm ob k=true):AS.fresh ob0 ⟨tm,ob⟩ k:=by
 simp only [freshB,Bool.and_eq_true,Bool.not_eq_true'] at h
 obtain⟨⟨⟨a1,a2⟩,a3⟩,a4⟩:=h
 refine AS.fresh_of a1 ?_ a3 ?_
 ·show lo ob k=none
  cases e:lo ob k with
  | none=>rfl
  | some o=>rw [e] at a2; cases a2
 ·cases e:lo ob0 k with
  | none=>rfl
  | some o=>rw [e] at a4; cases a4
section run
variable {P:Program} {n:Nat} {ob0:List (Nat × Option AO)} {ops:Array Oper} {o:Oper} {rest:List Oper} {d:List It} {tm:List (Nat × AV)} {ob:List (Nat × Option AO)} {K:List It→AS→Prop} {t:Nat}
theorem Qo (obs obs':List (Nat × AO)) (ks:List Nat) (hw:want ops tm o=some true) (hd:o.dst=some t) (hn:Nat.blt t n=true) {g:FuncId} {args:List AV} {r:AV} (hc:Cal P o (ev tm) g args) (hok:CallOK P g args obs r obs')
  (hσ:obsIn (lo ob) obs) (hr:r.only (keys obs'++keys obs)=true) (ho:obs'.all (fun p=>p.2.only (keys obs'++keys obs))=true)
  (hk:(keys obs').filter (fun k=>!(keys obs).contains k)=ks) (hf:ks.all (freshB ob0 tm ob)=true) {ob':List (Nat × Option AO)} (hob:sm obs'++rmv obs++ob=ob')
  (h:RunD P n ob0 ops rest (⟨o,true,r,keys obs,sm obs'++rmv obs⟩::d) ⟨(t,r)::tm,ob'⟩ K):RunD P n ob0 ops (o::rest) d ⟨tm,ob⟩ K:=by
 subst hob
 refine RunD.cl (s:=⟨tm,ob⟩) hw hd hn (.call hc hok (obsIn_spec hσ) hr ho) (fun k hk'=>freshB_spec (List.all_eq_true.1 hf k ?_)) h
 have h1:=List.mem_filter.1 hk'
 obtain⟨h2,h3⟩:=h1
 rw [List.map_append,List.mem_append] at h2
 have e1:(sm obs').map (·.1)=keys obs':=by simp [sm,keys,List.map_map,Function.comp_def]
 have e2:(rmv obs).map (·.1)=keys obs:=by simp [rmv,keys,List.map_map,Function.comp_def]
 rw [e1,e2] at h2
 rw [← hk]
 refine List.mem_filter.2 ⟨h2.resolve_right fun h=>?_,h3⟩
 simp [h] at h3
end run
theorem Ax.so {P:Program} {o:Oper} {ρ:Operand→AV} {σ:Nat→Option AO} {α:Type} {T len e sz by_ id:Nat} {z:Value} {parts:Array (Nat × Operand)} {cl:α→List AV} {xs:List α} {fl:List AV} (ho:o.op=.buildSlice T len parts) (hd:o.dst=some id) (ht:Slc P T e sz by_ z) (hn:Nat.ble (len*sz) 16777216=true)
  (hb:bfill (fun i=>some (i*sz,sz)) (List.replicate (len*sz) .undef) (parts.toList.map fun p=>(p.1,ρ p.2))=some fl) (hsub:SubV fl (xs.map cl).flatten) (hl:(xs.map cl).length=len) (hs:∀ x,(cl x).length=sz) (h1:∀ x,(cl x).all AV.one=true) (hi:∀ x,(cl x).all AV.im=true) :
  Ax P o ρ σ [] (.hnd id) [(id,some (.arr e sz (xs.map cl)))]:=
 Ax.slice_obj ho ht (Nat.le_of_ble_eq_true hn) hb hsub hl (by intro r hr; obtain⟨x,_,rfl⟩:=List.mem_map.1 hr; exact hs x) (one_flat h1 xs) (im_flat hi xs)
theorem Ax.so2 {P:Program} {o:Oper} {ρ:Operand→AV} {σ:Nat→Option AO} {α:Type} {T len e sz by_ id:Nat} {z:Value} {parts:Array (Nat × Operand)} {cl:α→List AV} {xs:List α} {fl:List AV} (ho:o.op=.buildSlice T len parts) (ht:Slc P T e sz by_ z) (hn:Nat.ble (len*sz) 16777216=true)
  (hb:bfill (fun i=>some (i*sz,sz)) (List.replicate (len*sz) .undef) (parts.toList.map fun p=>(p.1,ρ p.2))=some fl) (hsub:SubV fl (xs.map cl).flatten) (hl:(xs.map cl).length=len) (hs:∀ x,(cl x).length=sz) (h1:∀ x,(cl x).all AV.one=true) (hi:∀ x,(cl x).all AV.im=true) :
  Ax P o ρ σ [] (.hnd id) [(id,some (.arr e sz (xs.map cl)))]:=
 Ax.slice_obj ho ht (Nat.le_of_ble_eq_true hn) hb hsub hl (by intro r hr; obtain⟨x,_,rfl⟩:=List.mem_map.1 hr; exact hs x) (one_flat h1 xs) (im_flat hi xs)
theorem RetQ.eq2 {P:Program} {ob0:List (Nat × Option AO)} {e:Exit} {s:AS} {β:Type} {rs:Array ResultVar} {x r:β} (enc:β→AV) (eo:β→List (Nat × AO)) (h:x=r) (hq:RetQ P ob0 rs (enc x) (eo x) e s):RetQ P ob0 rs (enc r) (eo r) e s:=h ▸ hq
theorem Rv_set {w:World} {ow:Nat→Prop} {κ:Kap}:∀ {cells:List AV} {vs:List Value} {off:Nat} {y:AV},Rv w ow κ cells vs→(∀ v,vs[off]?=some v→R w ow κ y v)→Rv w ow κ (cells.set off y) vs
 | [],_,_,_,h,_=>h
 | x::xs,vs,0,y,h,hy=>by
  simp only [Rv,List.set_cons_zero] at h ⊢
  obtain⟨v,r,rfl,hv,hr⟩:=h
  exact⟨v,r,rfl,hy v rfl,hr⟩
 | x::xs,vs,off+1,y,h,hy=>by
  simp only [Rv,List.set_cons_succ] at h ⊢
  obtain⟨v,r,rfl,hv,hr⟩:=h
  exact⟨v,r,rfl,hv,Rv_set hr fun u hu=>hy u (by simpa using hu)⟩
theorem Ent.ghost {n:Nat} {ob0:List (Nat × Option AO)} {tm:List (Nat × AV)} {ob:List (Nat × Option AO)} (b off id e sz:Nat) {cells cells':List AV} (hb:lo ob b=some (.box cells)) (hc:cells[off]?=some (.sc (.slice none 0 0)))
  (hs:cells.set off (.hnd id)=cells') (hf:freshB ob0 tm ob id=true):Ent n ob0 ⟨tm,ob⟩ ⟨tm,(b,some (.box cells'))::(id,some (.arr e sz []))::ob⟩:=by
 rintro C rfl rfl a w ⟨κ,hg⟩
 subst hs
 have hfr:=freshB_spec hf
 refine⟨κ.set id (some (.arr (.slice none 0 0))),?_⟩
 have hc1:=hg.create hfr (w':=w) (k:=.arr (.slice none 0 0)) (o:=.arr e sz []) (Nat.le_refl _) (fun _ _=>rfl) ⟨rfl,rfl,rfl⟩ (fun b hb=>by simp [KO.blk,vblk] at hb)
  ⟨_,[],rfl,World.ownsRow_nil w 0 e sz,by simp [Rv],by simp,by simp⟩
 have hne:¬ id=b:=by
  intro h; subst h
  have:=hfr.n
  simp only at this
  rw [hb] at this; cases this
 have hκ:(κ.set id (some (.arr (.slice none 0 0)))) id=some (.arr (.slice none 0 0)):=by simp [Kap.set]
 refine {
  tm:=hc1.tm
  ob:=fun i o ho=>?_
  live:=fun i k hk=>?_
  inj:=hc1.inj
  size:=hc1.size
  dfs:=hc1.dfs
  fr:=hc1.fr
  old:=hc1.old
  keep:=hc1.keep }
 ·rw [lo_cons] at ho
  split at ho
  ·rename_i e'
   subst e'
   cases ho
   obtain⟨k,hk,hro⟩:=hc1.ob b (.box cells) (by rw [lo_cons,if_neg hne]; exact hb)
   obtain⟨bb,cur,e2,rfl,hh,hv,h1⟩:=hro
   refine⟨_,hk,bb,cur,e2,rfl,hh,Rv_set hv fun v hv'=>?_,h1⟩
   obtain⟨v2,hv2,hr2⟩:=Rv_get hv hc
   rw [hv2] at hv'; cases hv'
   simp only [R] at hr2
   subst hr2
   simp only [R]
   exact⟨rfl,fun k hk=>by rw [hκ] at hk; cases hk; rfl⟩
  ·exact hc1.ob i o ho
 ·obtain⟨o,ho⟩:=hc1.live i k hk
  by_cases h:b=i
  ·subst h; exact⟨_,by rw [lo_cons,if_pos rfl]⟩
  ·exact⟨o,by rw [lo_cons,if_neg h]; exact ho⟩
end Go.Proofs.YthlchdnbokhclaaGreat.Ql
namespace Go.Proofs.YthlchdnbokhclaaGreat.Ql
open Go
def eq1:Value→Value→Bool
 | .int _ a,.int _ b=>a==b
 | .bool a,.bool b=>a==b
 | _,_=>false
def eqc:List Value→List Value→Bool
 | [],[]=>true
 | x::xs,y::ys=>eq1 x y&&eqc xs ys
 | _,_=>false
def fsOK (P:Program):Nat→List Field→List Value→List Value→Bool
 | _,[],[],[]=>true
 | off, f :: fs, x :: xs, y :: ys => (f.name != "_") && (f.offset == off) && (match P.underlying f.type, x, y with
   | some (.int _),.int k _,.int k' _=>k==k'
   | some .bool,.bool _,.bool _=>true
   | _,_,_=>false)&&fsOK P (off+1) fs xs ys
 | _,_,_,_=>false
section
variable {P:Program} {w:World}
theorem run_eq1 {T:Nat} {x y:Value} {d:Nat} (h:(match P.underlying T,x,y with
   | some (.int _),.int k _,.int k' _=>k==k'
   | some .bool,.bool _,.bool _=>true
   | _,_,_=>false)=true):(Op.equalIn (d+1) T x y).run P w=.ok (eqc [x] [y]) w:=by
 rw [Op.equalIn]
 cases hu:P.underlying T with
 | none=>simp [hu] at h
 | some u=>
  rw [hu] at h
  simp only [Sem.run_bind,run_underlying hu,Result.andThen_ok]
  simp only [eqc,Bool.and_true]
  cases u with
  | bool=>cases x with
   | bool a=>cases y with
    | bool b=>simp [eq1]
    | _=>simp at h
   | _=>simp at h
  | int k0=>cases x with
   | int k a=>cases y with
    | int k' b=>simp at h; subst h; simp [eq1]
    | _=>simp at h
   | _=>simp at h
  | _=>simp at h
theorem run_part1 {T:Nat} {x:Value} {cs:Array Value} {off:Nat} (hag:∃ u,P.underlying T=some u∧isA u=false) (hx:cs[off]?=some x):(part T cs off).run P w=.ok x w:=by
 obtain⟨u,hu,ha⟩:=hag
 unfold part
 simp only [Sem.run_bind,run_isAgg (P:=P) (T:=T) (ag:=false) (by simp [hu,ha]),Result.andThen_ok,Bool.false_eq_true,if_false,hx,Sem.run_pure]
theorem scalar_of {T:Nat} {x y:Value} (h:(match P.underlying T,x,y with
   | some (.int _),.int k _,.int k' _=>k==k'
   | some .bool,.bool _,.bool _=>true
   | _,_,_=>false)=true):∃ u,P.underlying T=some u∧isA u=false:=by
 cases hu:P.underlying T with
 | none=>simp [hu] at h
 | some u=>
  refine⟨u,rfl,?_⟩
  rw [hu] at h
  cases u <;> first | rfl | simp at h
theorem run_eq_fields {d:Nat}:∀ (fs:List Field) (off:Nat) (xs ys:List Value) (X Y:Array Value),fsOK P off fs xs ys=true→(∀ i,xs[i]?=X[off+i]?)→(∀ i,ys[i]?=Y[off+i]?) →
  ∃ r:Option Bool × Unit,(forIn (m:=Sem) fs ((none,()):Option Bool × Unit) fun f (_:Option Bool × Unit)=>do
   if f.name ≠ "_" then
    let a ← part f.type X f.offset
    let b ← part f.type Y f.offset
    let e ← Op.equalIn (d+1) f.type a b
    if (!e)=true then pure (ForInStep.done (some false,())) else pure (ForInStep.yield (none,()))
   else pure (ForInStep.yield (none,()))).run P w=.ok r w∧r.1=(if eqc xs ys then none else some false)
 | [],off,xs,ys,X,Y,h,_,_=>by
  match xs,ys,h with
  | [],[],_=>exact⟨(none,()),by simp,by simp [eqc]⟩
 | f::fs,off,xs,ys,X,Y,h,hX,hY=>by
  match xs,ys,h with
  | x::xs,y::ys,h=>
   simp only [fsOK,Bool.and_eq_true,bne_iff_ne,ne_eq,beq_iff_eq] at h
   obtain⟨⟨⟨hn,ho⟩,hk⟩,hr⟩:=h
   have hs:=scalar_of hk
   have hx:X[f.offset]?=some x:=by rw [ho]; simpa using (hX 0).symm
   have hy:Y[f.offset]?=some y:=by rw [ho]; simpa using (hY 0).symm
   have h1:=run_eq1 (w:=w) (d:=d) hk
   obtain⟨r,hr1,hr2⟩:=run_eq_fields (d:=d) fs (off+1) xs ys X Y hr (fun i=>by have:=hX (i+1); rw [show off+1+i=off+(i+1) by omega]; simpa using this) (fun i=>by have:=hY (i+1); rw [show off+1+i=off+(i+1) by omega]; simpa using this)
   have he:eqc (x::xs) (y::ys)=(eqc [x] [y]&&eqc xs ys):=by simp [eqc]
   cases hb:eqc [x] [y] with
   | false=>
    refine⟨(some false,()),?_,by simp [he,hb]⟩
    rw [hb] at h1
    simp [List.forIn_cons,hn,run_part1 hs hx,run_part1 hs hy,h1]
   | true=>
    refine⟨r,?_,by simp [he,hb,hr2]⟩
    rw [hb] at h1
    simp only [List.forIn_cons,ne_eq,hn,not_false_eq_true,if_true,Sem.run_bind,run_part1 hs hx,run_part1 hs hy,h1,Result.andThen_ok,Bool.not_true,Bool.false_eq_true,if_false,Sem.run_pure]
    exact hr1
def fsP (P:Program) (T:Nat) (xs ys:List Value):Bool:=
 match P.underlying T with
 | some (.struct fs)=>!P.stoodInHeld T&&!P.eqGuardType P.depth T&&fsOK P 0 fs.toList xs ys
 | _=>false
theorem run_eqs {T:Nat} {xs ys:List Value} (h:fsP P T xs ys=true):(Op.equal T (.agg xs.toArray) (.agg ys.toArray)).run P w=.ok (eqc xs ys) w:=by
 unfold fsP at h
 cases hu:P.underlying T with
 | none=>simp [hu] at h
 | some u=>
  rw [hu] at h
  cases u with
  | struct fs=>
   simp only [Bool.and_eq_true,Bool.not_eq_true'] at h
   obtain⟨⟨h1,_⟩,h3⟩:=h
   obtain⟨r,hr,hr1⟩:=run_eq_fields (w:=w) (d:=9998) fs.toList 0 xs ys xs.toArray ys.toArray h3 (by intro i; simp) (by intro i; simp)
   unfold Op.equal
   rw [show Op.maxDepth=9999+1 from rfl,Op.equalIn]
   simp only [Sem.run_bind,run_underlying hu,Result.andThen_ok,run_program,h1,Bool.false_eq_true,if_false,Sem.run_pure]
   rw [← Array.forIn_toList]
   simp only [Bool.not_eq_true'] at hr ⊢
   rw [show (9999:Nat)=9998+1 from rfl]
   erw [hr]
   simp only [Result.andThen_ok,hr1]
   cases eqc xs ys <;> simp
  | _=>simp at h
variable {o:Oper} {ρ:Operand→AV} {σ:Nat→Option AO}
theorem Ax.eqs {T U:Nat} {x y:Operand} {xs ys:List Value} (hf:fsP P T xs ys=true) (ho:o.op=.binOp .eql T x y U) (hx:ρ x=.agg (xs.map .sc)) (hy:ρ y=.agg (ys.map .sc)) {b:Bool} (hb:eqc xs ys=b):Ax P o ρ σ [] (Ab b) []:=by
 subst hb
 refine Ax.binc (X:=.agg xs.toArray) (Y:=.agg ys.toArray) (V:=.bool (eqc xs ys)) ho (by rw [hx]; rfl) (by rw [hy]; rfl) (fun w=>?_)
 have hg:P.eqGuardType P.depth T=false:=by
  unfold fsP at hf
  split at hf
  ·simp only [Bool.and_eq_true,Bool.not_eq_true'] at hf; exact hf.1.2
  ·cases hf
 simp [eqGuard,binOp,run_eqs hf,hg]
theorem Ax.nes {T U:Nat} {x y:Operand} {xs ys:List Value} (hf:fsP P T xs ys=true) (ho:o.op=.binOp .neq T x y U) (hx:ρ x=.agg (xs.map .sc)) (hy:ρ y=.agg (ys.map .sc)) {b:Bool} (hb:eqc xs ys=b):Ax P o ρ σ [] (Ab (!b)) []:=by
 subst hb
 refine Ax.binc (X:=.agg xs.toArray) (Y:=.agg ys.toArray) (V:=.bool (!eqc xs ys)) ho (by rw [hx]; rfl) (by rw [hy]; rfl) (fun w=>?_)
 have hg:P.eqGuardType P.depth T=false:=by
  unfold fsP at hf
  split at hf
  ·simp only [Bool.and_eq_true,Bool.not_eq_true'] at hf; exact hf.1.2
  ·cases hf
 simp [eqGuard,binOp,run_eqs hf,hg]
end
end Go.Proofs.YthlchdnbokhclaaGreat.Ql
namespace Go.Proofs.YthlchdnbokhclaaGreat.Ql
open Go
def Pla (P:Program) (T n es:Nat) (ps:List (Nat × Nat)):Prop:=
 ∃ e,P.underlying T=some (.array n e)∧(P.info? e).map (·.size)=some es∧ps.length=n∧ps=(List.range n).map fun i=>(i*es,es)
theorem fill_mono {p q:Nat→Option (Nat × Nat)} (h:∀ i x,p i=some x→q i=some x):∀ (vs:List (Nat × Value)) (cur c:Array Value),Instr.fill p cur vs=some c→Instr.fill q cur vs=some c
 | [],_,_,hc=>by simpa [Instr.fill] using hc
 | (i,v)::r,cur,c,hc=>by
  simp only [Instr.fill] at hc ⊢
  cases hp:p i with
  | none=>simp [hp] at hc
  | some x=>
   obtain⟨off,sz⟩:=x
   rw [h i _ hp]
   rw [hp] at hc
   simp only at hc ⊢
   split at hc
   ·cases hc
   ·rename_i hn
    rw [if_neg hn]
    exact fill_mono h r _ c hc
theorem blda {P:Program} {T n es:Nat} {ps:List (Nat × Nat)} {z:Value} (hp:Pla P T n es ps) (hz:Zer P T z) (w:World) (vs:List (Nat × Value)) (c:Array Value) (h:Instr.fill (fun i=>ps[i]?) z.cells vs=some c):(Instr.build T vs.toArray).run P w=.ok (.agg c) w:=by
 obtain⟨e,hu,he,hl,hps⟩:=hp
 unfold Zer at hz
 cases hi:P.info? T with
 | none=>simp [hi] at hz
 | some it=>
  simp [hi] at hz
  have h2:=fill_mono (q:=fun i=>some (i*es,es)) (fun i x hx=>by
   subst hps
   simp only [List.getElem?_map] at hx
   cases hr:(List.range n)[i]? with
   | none=>simp [hr] at hx
   | some j=>
    have:=List.getElem?_range (show i < n from by have:=(List.getElem?_eq_some_iff.1 hr).1; simpa using this)
    rw [this] at hr; cases hr
    simpa [this] using hx) vs _ c h
  simp only [Instr.build,zeroValue,typeInfo,Sem.run_bind,run_program,Result.andThen_ok,hi,hz,Sem.run_pure,run_underlying hu,run_size he,h2]
end Go.Proofs.YthlchdnbokhclaaGreat.Ql
namespace Go.Proofs.YthlchdnbokhclaaGreat.Ql
open Go
section
variable {P:Program} {o:Oper} {ρ:Operand→AV} {σ:Nat→Option AO}
theorem Ax.nilc {T e:Nat} {x:Operand} {U:Nat} {a:Option Addr} {cap:Nat} (ho:o.op=.binOp .eql T x (.const (.slice none 0 0)) U) (hT:P.underlying T=some (.slice e)) (hx:ρ x=.sc (.slice a 0 cap)) (hc:ρ (.const (.slice none 0 0))=.sc (.slice none 0 0)):Ax P o ρ σ [] (Ab a.isNone) []:=by
 refine Ax.binc (X:=.slice a 0 cap) (Y:=.slice none 0 0) (V:=.bool a.isNone) ho hx hc (fun w=>?_)
 have h2:(Op.equal T (.slice a 0 cap) (.slice none 0 0)).run P w=.ok a.isNone w:=by
  unfold Op.equal
  rw [show Op.maxDepth=9999+1 from rfl,Op.equalIn]
  simp only [Sem.run_bind,run_underlying hT,Result.andThen_ok]
  cases a <;> rfl
 simp [eqGuard,binOp,h2]
end
theorem fn_men {g:Nat} {caps:List AV} (h:(AV.fn g caps).only []=true) (i:Nat):menL i caps=false:=by
 have:=only_men (j:=i) (ks:=[]) (by simp) _ h
 simpa [AV.men] using this
theorem Sub.lstE (sz:Nat) (a:Option Addr) (cap:Nat):Sub (.sc (.slice a 0 cap)) (.lst sz []):=fun _ _ _ u h=>by
 simp only [R] at h; subst h; simp [R,RI]
theorem CallOK.lst0 {P:Program} {f:FuncId} {sz:Nat} {rest:List AV} {obs obs':List (Nat × AO)} {r:AV} (h:∀ a cap,CallOK P f (.sc (.slice a 0 cap)::rest) obs r obs'):CallOK P f (.lst sz []::rest) obs r obs':=by
 intro ox w κ cargs hox hO hA
 simp only [Rv,R,RI] at hA
 obtain⟨v,vs,hv,⟨a,cap,rfl,_⟩,hr⟩:=hA
 exact h a cap ox w κ cargs hox hO (by simp only [Rv,R]; exact⟨_,_,hv,rfl,hr⟩)
end Go.Proofs.YthlchdnbokhclaaGreat.Ql
namespace Go.Proofs.YthlchdnbokhclaaGreat.Ql
open Go
def Mth (P:Program) (T:Nat) (name:String) (g:Nat) (pr:Bool):Prop:=
 (match P.info? T with | some i=>(i.methods.find? (·.name==name)).map (fun m=>(m.path.toList.isEmpty,m.func)) | none=>none)=some (true,some (g,pr))
theorem meth_of {P:Program} {T:Nat} {name:String} {g:Nat} {pr:Bool} (h:Mth P T name g pr) (hv:(match P.underlying T with | some (.pointer _)=>pr | some _=>!pr | none=>false)=true):MethOK P T name g:=by
 intro w v hp
 unfold Mth at h
 cases hi:P.info? T with
 | none=>simp [hi] at h
 | some i=>
  rw [hi] at h
  simp only at h
  cases hm:i.methods.find? (·.name==name) with
  | none=>rw [hm] at h; simp at h
  | some m=>
   rw [hm] at h
   simp only [Option.map_some,Option.some.injEq,Prod.mk.injEq] at h
   obtain⟨h1,h2⟩:=h
   have hpath:m.path.toList=[]:=by simpa using h1
   obtain⟨k,hk⟩:∃ k,P.types.size+Made.depth=k+1:=⟨P.types.size+99,rfl⟩
   rw [hk,method]
   simp only [typeInfo,Sem.run_bind,run_program,Result.andThen_ok,hi,Sem.run_pure,hm,hpath,h2,follow]
   cases hu:P.underlying T with
   | none=>rw [hu] at hv; cases hv
   | some u=>
    rw [hu] at hv
    unfold receiverAt
    simp only [Sem.run_bind,run_underlying hu,Result.andThen_ok]
    cases u with
    | pointer e=>simp only at hv; subst hv; simp [Place.get]
    | _=>simp only [Bool.not_eq_true'] at hv; subst hv; simp [Place.get]
theorem Ax.ifc' {P:Program} {o:Oper} {ρ:Operand→AV} {σ:Nat→Option AO} {T:Nat} {x:Operand} {v:AV} (ho:o.op=.makeInterface T x) (hd:(match P.underlying T with | some (.interface _)=>false | some _=>true | none=>false)=true) (hx:ρ x=v):Ax P o ρ σ [] (.ifc T v) []:=by
 subst hx
 cases hu:P.underlying T with
 | none=>rw [hu] at hd; cases hd
 | some d=>
  rw [hu] at hd
  refine Ax.iface ho hu ?_
  cases d <;> first | rfl | cases hd
theorem cali {P:Program} {o:Oper} {ρ:Operand→AV} {x:Operand} {name:String} {ts:Array TypeId} {t:TypeId} {y:AV} {g:FuncId} (ho:o.op=.call { callee:=.invoke x name,args:=#[],argTypes:=ts }) (hx:ρ x=.ifc t y) (hg:FnOK P g) (hm:MethOK P t name g) (hy:y.recv=true):Cal P o ρ g [y]:=.invoke ho hx hg hm hy
end Go.Proofs.YthlchdnbokhclaaGreat.Ql
namespace Go.Proofs.YthlchdnbokhclaaGreat.Ql
open Go
theorem freshB_mk {ob0 ob:List (Nat × Option AO)} {tm:List (Nat × AV)} {k:Nat} (h1:menT k tm=false) (h2:lo ob k=none) (h3:menO k ob=false) (h4:lo ob0 k=none):freshB ob0 tm ob k=true:=by
 unfold freshB; simp only [h1,h2,h3,h4]; rfl
theorem Sub.fz {t:Nat} {x:AV} (h:x.only []=true):Sub (.ifc t x) (.ifc t (.fz x)):=fun w ow κ u hu=>by
 simp only [R] at hu ⊢
 obtain⟨v,rfl,hv⟩:=hu
 exact⟨v,rfl,by simp only [RI]; exact RI_of_only _ _ h hv⟩
theorem CallOK.fz1 {P:Program} {f:FuncId} {x:AV} {rest:List AV} {obs obs':List (Nat × AO)} {r:AV} (h:CallOK P f (x::rest) obs r obs'):CallOK P f (.fz x::rest) obs r obs':=by
 intro ox w κ cargs hox hO hA
 refine h ox w κ cargs hox hO ?_
 simp only [Rv] at hA ⊢
 obtain⟨v,vs,hv,h1,h2⟩:=hA
 refine⟨v,vs,hv,?_,h2⟩
 simp only [R,RI] at h1
 exact R_of_RI _ _ h1
def bnds (l h n:Int):Option Unit:=if 0≤l∧l≤h∧h≤n then some () else none
theorem bnds_spec {l h n:Int} {u:Unit} (hh:bnds l h n=some u):0≤l∧l≤h∧h≤n:=by
 unfold bnds at hh
 split at hh
 ·assumption
 ·cases hh
def BndI (ρ:Operand→AV) (y:Option Operand) (l n:Int):Prop:=match y with | some y=>∃ k,ρ y=.sc (.int k l) | none=>l=n
theorem BndI.bnd {ρ:Operand→AV} {y:Option Operand} {l n:Int} {m:Nat} (h:BndI ρ y l n) (h0:0≤l) (hn:n=m):Bnd ρ y l.toNat m:=by
 cases y with
 | none=>simp only [BndI] at h; simp only [Bnd]; omega
 | some y=>obtain⟨k,h⟩:=h; exact⟨k,by rw [h,Int.toNat_of_nonneg h0]⟩
def clrI {α:Type} (xs:List α) (lo hi:Int) (z:α):List α:=clr xs lo.toNat hi.toNat z
theorem clr_map {α β:Type} (f:α→β) (xs:List α) (lo hi:Nat) (z:α):(clr xs lo hi z).map f=clr (xs.map f) lo hi (f z):=by
 simp [clr,List.map_take,List.map_drop]
def vapp {α:Type} (xs:List α) (h l2 h2:Int) (c:Nat):Option (List α):=
 if 0≤h∧h≤xs.length∧0≤l2∧l2≤h2∧h2≤xs.length∧h+(h2 - l2)≤c then some (xs.take h.toNat++(xs.drop l2.toNat).take (h2.toNat - l2.toNat)) else none
def vown {α:Type} (xs:List α) (h:Int):Option (List α):=if 0≤h∧h≤xs.length then some (xs.take h.toNat) else none
def vcp {α:Type} (xs:List α) (l h l2 h2:Int):Option (List α):=
 if h≤xs.length∧h2≤xs.length then some (xs.take l.toNat++(xs.drop l2.toNat).take (min (h2.toNat - l2.toNat) (h.toNat - l.toNat))++xs.drop (l.toNat+min (h2.toNat - l2.toNat) (h.toNat - l.toNat))) else none
def vix (lo hi n:Int):Option Unit:=if 0≤lo∧0≤n∧n < hi - lo then some () else none
abbrev Uw (n:Int):Int:=IntKind.wrap .u64 n
def andU (x y:Int):Int:=Uw ((BitVec.ofInt 64 x &&& BitVec.ofInt 64 y).toNat)
def shrU (x:Int) (n:Nat):Int:=x.fdiv (2 ^ n)
def len8tab:List Int:=(List.range 256).map fun n=>if n=0 then 0 else ((Nat.log2 n+1:Nat):Int)
section
variable {P:Program} {o:Oper} {ρ:Operand→AV} {σ:Nat→Option AO} {α:Type} {cl:α→List AV} {xs:List α}
theorem Ax.vh {T e sz by_ id e':Nat} {z:Value} {x:Operand} {lo hi:Option Operand} {l h:Int} {u:Unit} (ho:o.op=.slice T x lo hi none) (ht:Slc P T e sz by_ z) (hx:ρ x=.hnd id) (hb:σ id=some (.arr e' sz (xs.map cl)))
  (hlo:BndI ρ lo l 0) (hhi:BndI ρ hi h xs.length) (hs:bnds l h xs.length=some u):Ax P o ρ σ [id] (.vw id sz l.toNat h.toNat xs.length) []:=by
 obtain⟨h0,h1,h2⟩:=bnds_spec hs
 have:=Ex.sl_hnd (P:=P) (l:=l.toNat) (h:=h.toNat) ho ht hx hb (hlo.bnd h0 rfl) (hhi.bnd (by omega) (by simp)) (by omega) (by simp; omega)
 rw [List.length_map] at this
 exact .ext this
theorem Ax.vm {T e sz by_ id e':Nat} {z:Value} {x y1 y2 y3:Operand} {k1 k2 k3:IntKind} {l h m:Int} {u u':Unit} (ho:o.op=.slice T x (some y1) (some y2) (some y3)) (ht:Slc P T e sz by_ z) (hx:ρ x=.hnd id) (hb:σ id=some (.arr e' sz (xs.map cl)))
  (hl:ρ y1=.sc (.int k1 l)) (hh:ρ y2=.sc (.int k2 h)) (hm:ρ y3=.sc (.int k3 m)) (hs:bnds l h m=some u) (hs':bnds l m xs.length=some u'):Ax P o ρ σ [id] .undef []:=by
 obtain⟨h0,h1,h2⟩:=bnds_spec hs
 obtain⟨_,_,h3⟩:=bnds_spec hs'
 exact .ext (.sl_max (l:=l.toNat) (h:=h.toNat) (m:=m.toNat) (k1:=k1) (k2:=k2) (k3:=k3) ho ht hx hb (by rw [hl,Int.toNat_of_nonneg h0]) (by rw [hh,Int.toNat_of_nonneg (by omega)]) (by rw [hm,Int.toNat_of_nonneg (by omega)]) (by omega) (by omega) (by simp; omega))
theorem Ax.vv {T e sz by_ id e' c:Nat} {z:Value} {x:Operand} {lo hi:Option Operand} {h0 l h:Int} {u:Unit} (ho:o.op=.slice T x lo hi none) (ht:Slc P T e sz by_ z) (hx:ρ x=.vw id sz (Int.toNat 0) h0.toNat c) (hb:σ id=some (.arr e' sz (xs.map cl)))
  (hlo:BndI ρ lo l 0) (hhi:BndI ρ hi h h0) (hh0:0≤h0) (hs:bnds l h c=some u):Ax P o ρ σ [id] (.vw id sz l.toNat h.toNat c) []:=by
 obtain⟨a0,h1,h2⟩:=bnds_spec hs
 have:=Ex.sl_vw (P:=P) (l:=l.toNat) (h:=h.toNat) ho ht hx hb (hlo.bnd a0 rfl) (hhi.bnd (by omega) (by simp; omega)) (by omega) (by simp; omega)
 simp only [Int.toNat_zero,Nat.zero_add] at this
 exact .ext this
theorem Ax.vlen {T e sz by_ id e' c l h:Nat} {z:Value} {x:Operand} (ho:o.op=.call { callee:=.builtin .len,args:=#[x],argTypes:=#[T] }) (ht:Slc P T e sz by_ z) (hx:ρ x=.vw id sz l h c) (hb:σ id=some (.arr e' sz (xs.map cl))) :
  Ax P o ρ σ [id] (Ai (h - l:Nat)) []:=.ext (.len_vw ho ht hx hb)
theorem Ax.vi {T e sz by_ id e' c:Nat} {z:Value} {x i:Operand} {lo hi n:Int} {k:IntKind} {u:Unit} (ho:o.op=.indexAddr T x i) (ht:Slc P T e sz by_ z) (hx:ρ x=.vw id sz lo.toNat hi.toNat c) (hb:σ id=some (.arr e' sz (xs.map cl))) (hi':ρ i=.sc (.int k n))
  (hs:vix lo hi n=some u):Ax P o ρ σ [id] (.eptr id sz (Int.toNat (lo+n)) 0) []:=by
 unfold vix at hs
 split at hs
 ·rename_i hc
  have:=Ex.ix_vw (P:=P) ho ht hx hb hi' hc.2.1 (by omega)
  rw [show lo.toNat+n.toNat=(lo+n).toNat by omega] at this
  exact .ext this
 ·cases hs
theorem Ax.vclr {T e sz by_ id e' c:Nat} {z:Value} {x:Operand} {lo hi:Int} {zv:α} (ho:o.op=.call { callee:=.builtin .clear,args:=#[x],argTypes:=#[T] }) (ht:Slc P T e sz by_ z) (hx:ρ x=.vw id sz lo.toNat hi.toNat c) (hb:σ id=some (.arr e' sz (xs.map cl)))
  (h1:z.cells.toList.all Value.oneCell'=true) (hz:z.cells.toList.map .sc=cl zv):Ax P o ρ σ [id] (.tup []) [(id,some (.arr e' sz ((clrI xs lo hi zv).map cl)))]:=by
 unfold clrI
 rw [clr_map,← hz]
 exact .ext (.clear_vw ho ht hx hb h1)
theorem Ax.vap {T e sz by_ id c c2 d:Nat} {z:Value} {x y:Operand} {h l2 h2:Int} {zs:List α} (ho:o.op=.call { callee:=.builtin .append,args:=#[x,y],argTypes:=#[T,T] }) (hd:o.dst=some d) (ht:Slc P T e sz by_ z) (hx:ρ x=.vw id sz (Int.toNat 0) h.toNat c) (hy:ρ y=.vw id sz l2.toNat h2.toNat c2)
  (hb:σ id=some (.arr e sz (xs.map cl))) (hs:vapp xs h l2 h2 c=some zs) (hne:Nat.beq d id=false):Ax P o ρ σ [id] (.vw d sz (Int.toNat 0) (Int.toNat (zs.length:Int)) c) [(d,some (.arr e sz (zs.map cl))),(id,none)]:=by
 unfold vapp at hs
 split at hs
 ·rename_i hc
  obtain⟨c1,c2',c3,c4,c5,c6⟩:=hc
  simp only [Option.some.injEq] at hs
  subst hs
  have hx':ρ x=.vw id sz 0 h.toNat c:=hx
  have:=Ex.app_vw (P:=P) ho hd ht hx' hy hb (by simp; omega) (by simp; omega) (by omega) rfl (Nat.ne_of_beq_eq_false hne)
  have e1:(xs.take h.toNat++(xs.drop l2.toNat).take (h2.toNat - l2.toNat)).length=h.toNat+(h2.toNat - l2.toNat):=by simp; omega
  rw [e1]
  simp only [List.map_append,List.map_take,List.map_drop]
  exact .ext this
 ·cases hs
theorem Ax.vo {x:Operand} {id sz c e' d:Nat} {h:Int} {zs:List α} (ho:o.op=.move x∨o.op=.assign x) (hd:o.dst=some d) (hx:ρ x=.vw id sz (Int.toNat 0) h.toNat c) (hb:σ id=some (.arr e' sz (xs.map cl))) (hs:vown xs h=some zs) (hne:Nat.beq d id=false) :
  Ax P o ρ σ [id] (.hnd d) [(d,some (.arr e' sz (zs.map cl))),(id,none)]:=by
 unfold vown at hs
 split at hs
 ·rename_i hc
  simp only [Option.some.injEq] at hs
  subst hs
  rw [List.map_take]
  exact .ext (.own_vw ho hd hx hb (by simp; omega) (Nat.ne_of_beq_eq_false hne))
 ·cases hs
theorem Ax.cph {T S e sz by_ id e':Nat} {z:Value} {x y:Operand} {news:List α} (ho:o.op=.call { callee:=.builtin .copy,args:=#[x,y],argTypes:=#[T,S] }) (ht:Slc P T e sz by_ z) (hx:ρ x=.hnd id) (hb:σ id=some (.arr e' sz (xs.map cl))) (hy:ρ y=.lst sz (news.map cl))
  (h1:∀ x,(cl x).all AV.one=true) (hi:∀ x,(cl x).all AV.im=true):Ax P o ρ σ [id] (Ai (Min.min news.length xs.length:Nat)) [(id,some (.arr e' sz ((news.take xs.length++xs.drop news.length).map cl)))]:=by
 have:=Ex.copy_hl (P:=P) ho ht hx hb hy (one_flat h1 news) (im_flat hi news)
 simp only [List.length_map] at this
 rw [List.map_append,List.map_take,List.map_drop]
 exact .ext this
theorem Ax.cpv {T S e sz by_ id e' c c2:Nat} {z:Value} {x y:Operand} {l h l2 h2:Int} {zs:List α} (ho:o.op=.call { callee:=.builtin .copy,args:=#[x,y],argTypes:=#[T,S] }) (ht:Slc P T e sz by_ z) (hx:ρ x=.vw id sz l.toNat h.toNat c) (hy:ρ y=.vw id sz l2.toNat h2.toNat c2)
  (hb:σ id=some (.arr e' sz (xs.map cl))) (hs:vcp xs l h l2 h2=some zs):Ax P o ρ σ [id] (Ai (Min.min (h2.toNat - l2.toNat) (h.toNat - l.toNat):Nat)) [(id,some (.arr e' sz (zs.map cl)))]:=by
 unfold vcp at hs
 split at hs
 ·rename_i hc
  simp only [Option.some.injEq] at hs
  subst hs
  simp only [List.map_append,List.map_take,List.map_drop]
  exact .ext (.copy_vv ho ht hx hy hb (by simp; omega) (by simp; omega))
 ·cases hs
theorem Ax.mkm {T d:Nat} (ho:o.op=.makeMap T none) (hd:o.dst=some d):Ax P o ρ σ [] (.hnd d) [(d,some (.mp (([]:List (Int × Int)).map prV)))]:=.ext (.mk_map ho hd)
theorem Ax.lkm {T id:Nat} {m k:Operand} {ps:List (Int × Int)} {a b:Int} (ho:o.op=.lookup T m k false) (hT:Mpt P T) (hm:ρ m=.hnd id) (hb:σ id=some (.mp (ps.map prV))) (hk:ρ k=.agg [Ai a,Ai b]):Ax P o ρ σ [id] (Ab (ps.contains (a,b))) []:=
 .ext (.lookup (p:=(a,b)) ho hT hm hb hk)
theorem Ax.ptm {T id:Nat} {m k v:Operand} {ps:List (Int × Int)} {a b:Int} (ho:o.op=.mapUpdate T m k v) (hT:Mpt P T) (hm:ρ m=.hnd id) (hb:σ id=some (.mp (ps.map prV))) (hk:ρ k=.agg [Ai a,Ai b]) (hv:ρ v=Ab true) :
  Ax P o ρ σ [id] .undef [(id,some (.mp ((if ps.contains (a,b) then ps else ps++[(a,b)]).map prV)))]:=.ext (.put (p:=(a,b)) ho hT hm hb hk hv)
theorem Ax.conv_int {S T:Nat} {x:Operand} {k k' k0:IntKind} {n:Int} (ho:o.op=.convert S T x) (hx:ρ x=.sc (.int k n)) (hS:P.underlying S=some (.int k0)) (hT:P.underlying T=some (.int k')):Ax P o ρ σ [] (.sc (.int k' (k'.wrap n))) []:=
 Ax.conv ho hx (fun w=>by simp [convert,run_underlying hS,run_underlying hT,Conv.intToInt])
theorem Ax.shr {T U:Nat} {x y:Operand} {k:IntKind} {n:Int} {m:Nat} (ho:o.op=.binOp .shr T x y U) (hx:ρ x=.sc (.int .u64 n)) (hy:ρ y=.sc (.int k m)) (hm:m≤64):Ax P o ρ σ [] (.sc (.int .u64 (shrU n m))) []:=
 Ax.binc (X:=.int .u64 n) (Y:=.int k m) (V:=.int .u64 (shrU n m)) ho hx hy (fun w=>by
  have h1:¬ (m:Int) < 0:=by omega
  have h2:Min.min m (IntKind.bits .u64)=m:=Nat.min_eq_left hm
  simp [eqGuard,binOp,Op.shift,h1,h2,shrU])
theorem Ax.andu {T U:Nat} {x y:Operand} {n m:Int} (ho:o.op=.binOp .and T x y U) (hx:ρ x=.sc (.int .u64 n)) (hy:ρ y=.sc (.int .u64 m)):Ax P o ρ σ [] (.sc (.int .u64 (andU n m))) []:=
 Ax.binc (X:=.int .u64 n) (Y:=.int .u64 m) (V:=.int .u64 (andU n m)) ho hx hy (fun w=>by simp [eqGuard,binOp,Op.intBits]; rfl)
end
theorem Ax.strix {P:Program} {o:Oper} {ρ:Operand→AV} {σ:Nat→Option AO} {T:Nat} {bs:ByteArray} {i:Operand} {k:IntKind} {n y:Int} {tab:List Int} (ho:o.op=.index T (.const (.string bs)) i) (hT:P.underlying T=some .string)
  (ht:bs.data.toList.map (fun b=>(b.toNat:Int))=tab) (hi:ρ i=.sc (.int k n)) (hy:Ql.ix tab n=some y):Ax P o ρ σ [] (.sc (.int .u8 y)) []:=by
 obtain⟨h0,h1⟩:=ix_spec hy
 subst ht
 rw [List.getElem?_map] at h1
 cases hb:bs.data.toList[n.toNat]? with
 | none=>rw [hb] at h1; simp at h1
 | some b=>
  rw [hb] at h1
  simp only [Option.map_some,Option.some.injEq] at h1
  subst h1
  exact .ext (.strix ho hT hi h0 hb)
section run
variable {P:Program} {n:Nat} {ob0:List (Nat × Option AO)} {ops:Array Oper} {o:Oper} {rest:List Oper} {d:List It} {tm:List (Nat × AV)} {ob:List (Nat × Option AO)} {K:List It→AS→Prop} {t:Nat} {v:AV}
theorem Qw {i:Nat} {x:Option AO} (hw:want ops tm o=some true) (hd:o.dst=some t) (hn:Nat.blt t n=true) (hax:Ax P o (ev tm) (lo ob) [i] v [(i,x)])
  (h:RunD P n ob0 ops rest (⟨o,true,v,[i],[(i,x)]⟩::d) ⟨(t,v)::tm,(i,x)::ob⟩ K):RunD P n ob0 ops (o::rest) d ⟨tm,ob⟩ K:=
 RunD.ax (s:=⟨tm,ob⟩) hw hd hn hax (by simp) h
theorem Qlf (ks:List Nat) (obs':List (Nat × AO)) (nw:List Nat) (hw:want ops tm o=some true) (hd:o.dst=some t) (hn:Nat.blt t n=true) {g:FuncId} {args args':List AV} {r:AV} (hc:Cal P o (ev tm) g args) (hl:DrV (lo ob) ks args args') (hok:CallOK P g args' [] r obs')
  (hr:r.only (keys obs')=true) (ho:obs'.all (fun p=>p.2.only (keys obs'))=true) (hs:r.solid=true) (hs':obs'.all (fun p=>p.2.solid)=true) (hk:(keys obs').all (fun i=>!ks.contains i)=true) (hk2:keys obs'=nw) (hf:nw.all (freshB ob0 tm ob)=true)
  {ob':List (Nat × Option AO)} (hob:sm obs'++ob=ob') (h:RunD P n ob0 ops rest (⟨o,true,r,ks,sm obs'⟩::d) ⟨(t,r)::tm,ob'⟩ K):RunD P n ob0 ops (o::rest) d ⟨tm,ob⟩ K:=by
 subst hob
 refine RunD.cl (s:=⟨tm,ob⟩) hw hd hn (.lend (obs':=obs') hc hl.len hl.get hok hr ho hs hs' hk) (fun k hk'=>freshB_spec (List.all_eq_true.1 hf k ?_)) h
 obtain⟨h2,_⟩:=List.mem_filter.1 hk'
 have e1:(sm obs').map (·.1)=keys obs':=by simp [sm,keys,List.map_map,Function.comp_def]
 rw [e1,hk2] at h2
 exact h2
theorem solid_flat {α:Type} {cl:α→List AV} (h:∀ x,solidL (cl x)=true):∀ xs:List α,solidL (xs.map cl).flatten=true
 | []=>rfl
 | x::xs=>by
  have ih:=solid_flat h xs
  have:∀ l m:List AV,solidL l=true→solidL m=true→solidL (l++m)=true:=by
   intro l m hl hm
   induction l with
   | nil=>exact hm
   | cons y ys ihy=>simp only [solidL,Bool.and_eq_true,List.cons_append] at hl ⊢; exact⟨hl.1,ihy hl.2⟩
  simp only [List.map_cons,List.flatten_cons]
  exact this _ _ (h x) ih
end run
section loops
variable {P:Program} {n:Nat} {ob0:List (Nat × Option AO)} {s:AS} {Q:Exit→AS→Prop} {id:Nat} {c:Code}
theorem Tri.scopeW {V ρ:Type} {l k:Nat} {rest:Code} {v:V} {bd:(V→Option ρ)→V→Option ρ} {r:ρ} (h:Ql.whl bd k v=some r) (S:V→AS) (hf:findLabel c l=some (.seq .skip rest))
  (first:Tri P n ob0 rest (S v) (fun e s'=>match e with | .goto l'=>l'=l∧∃ k s'',Ent n ob0 s' s''∧∃ v,Ql.whl bd k v=some r∧s''=S v | e=>Q e s')→Tri P n ob0 c s (fun e s'=>match e with | .goto l'=>l'=l∧∃ k s'',Ent n ob0 s' s''∧∃ v,Ql.whl bd k v=some r∧s''=S v | e=>Q e s'))
  (round:∀ (nx:V→Option ρ) v,bd nx v=some r→Tri P n ob0 rest (S v) (fun e s'=>match e with | .goto l'=>l'=l∧∃ v',nx v'=some r∧Ent n ob0 s' (S v') | e=>Q e s')):Tri P n ob0 (.scope c) s Q:=by
 have pass:∀ k v,Ql.whl bd k v=some r→Tri P n ob0 rest (S v) (fun e s'=>match e with | .goto l'=>l'=l∧∃ k' < k,∃ s'',Ent n ob0 s' s''∧∃ v,Ql.whl bd k' v=some r∧s''=S v | e=>Q e s'):=by
  intro k v hr
  cases k with
  | zero=>cases hr
  | succ k=>
   refine(round (Ql.whl bd k) v hr).mono fun e s' hx=>?_
   cases e with
   | goto l'=>obtain⟨hl,v',hn,he⟩:=hx; exact⟨hl,k,by omega,S v',he,v',hn,rfl⟩
   | _=>exact hx
 refine Tri.scope l (fun k s=>∃ v,Ql.whl bd k v=some r∧s=S v) hf (first ((pass k v h).mono fun e s' hx=>?_)) ?_
 ·cases e with
  | goto l'=>obtain⟨hl,k',_,s'',he,hv⟩:=hx; exact⟨hl,k',s'',he,hv⟩
  | _=>exact hx
 ·rintro k _ ⟨v,hr,rfl⟩
  exact Tri.seq (Tri.skip (pass k v hr))
def Rnds (P:Program) (n:Nat) (ob0:List (Nat × Option AO)) (c:Code) (Q:Exit→AS→Prop):Nat→AS→Prop
 | 0,_=>False
 | k+1,s=>Tri P n ob0 c s fun e s'=>match e with | .normal=>Rnds P n ob0 c Q k s' | e=>Q e s'
theorem Rnds.step {k:Nat} (h:Tri P n ob0 c s fun e s'=>match e with | .normal=>Rnds P n ob0 c Q k s' | e=>Q e s'):Rnds P n ob0 c Q (k+1) s:=h
theorem Tri.rolled (k:Nat) (h:Rnds P n ob0 c Q k s):Tri P n ob0 (.loop c) s Q:=by
 intro C hn hob a w hg
 refine wp_loop_rounds k ?_
 induction k generalizing s a w with
 | zero=>exact h.elim
 | succ k ih=>
  refine wp_mono (h C hn hob a w hg) ?_
  rintro e a' w' ⟨s',hq,hg'⟩
  cases e with
  | normal=>exact ih hq a' w' hg'
  | _=>exact⟨s',hq,hg'⟩
end loops
def Ar2 (P:Program) (T:Nat):Prop:=∃ e,P.underlying T=some (.array 2 e)∧P.underlying e=some (.int .i64)∧(P.info? e).map (·.size)=some 1∧P.eqGuardType P.depth T=false
theorem Ax.ne2 {P:Program} {o:Oper} {ρ:Operand→AV} {σ:Nat→Option AO} {T U:Nat} {x y:Operand} {a b c d:Int} {r:Bool} (ho:o.op=.binOp .neq T x y U) (hT:Ar2 P T) (hx:ρ x=.agg [Ai a,Ai b]) (hy:ρ y=.agg [Ai c,Ai d]) (hr:((a,b)==(c,d))=r):Ax P o ρ σ [] (Ab (!r)) []:=by
 obtain⟨e,h1,h2,h3,h4⟩:=hT
 refine Ax.binc (X:=.agg #[.int .i64 a,.int .i64 b]) (Y:=.agg #[.int .i64 c,.int .i64 d]) (V:=.bool (!r)) ho (by rw [hx]; rfl) (by rw [hy]; rfl) (fun w=>?_)
 have:=run_arr2 (w:=w) h1 h2 h3 (a,b) (c,d)
 simp only [prV] at this
 simp [eqGuard,binOp,this,h4,hr]
def optrV {β:Type} (cl:β→List AV):Option β→AV
 | none=>.sc (.pointer none)
 | some y=>.ipt (cl y) 0
abbrev optr {β:Type} (cl:β→List AV) (x:Option β):AV:=.fz (optrV cl x)
theorem optr_some {β:Type} {cl:β→List AV} {x:Option β} {y:β} (h:x=some y):optr cl x=.fz (.ipt (cl y) 0):=by subst h; rfl
theorem Sub.unfz {x:AV} {cells:List AV} {off:Nat} (h:x=.fz (.ipt cells off)):Sub x (.ipt cells off):=fun w ow κ u hu=>by
 subst h
 simp only [R] at hu ⊢
 simpa only [RI] using hu
theorem Ax.nil_fz {P:Program} {o:Oper} {ρ:Operand→AV} {σ:Nat→Option AO} {x:Operand} {cells:List AV} {off:Nat} (ho:o.op=.nilCheck x) (hx:ρ x=.fz (.ipt cells off)):Ax P o ρ σ [] (.ipt cells off) []:=.ext (.nil_fz ho hx)
end Go.Proofs.YthlchdnbokhclaaGreat.Ql
namespace Go.Proofs.YthlchdnbokhclaaGreat.Ql
open Go
structure Tab (P:Program) where
 siz:Nat→Option (Nat × Bool)
 hs:∀ {T n ag},siz T=some (n,ag)→Siz P T n ag
 fld:Nat→Nat→Option Nat
 hf:∀ {S f fo},fld S f=some fo→Fld P S f fo
def lko:List (Nat × AV)→Nat→Option AV
 | [],_=>none
 | p::r,t=>bif Nat.beq p.1 t then some p.2 else lko r t
theorem lko_lk:∀ {tm:List (Nat × AV)} {t:Nat} {v:AV},lko tm t=some v→lk tm t=v
 | p::r,t,v,h=>by
  simp only [lko] at h
  simp only [lk]
  cases hb:Nat.beq p.1 t
  ·rw [hb] at h; exact lko_lk h
  ·rw [hb] at h; exact Option.some.inj h
def cst:Value→AV
 | .int k n=>.sc (.int k n)
 | .bool b=>.sc (.bool b)
 | v=>ofConst v
theorem cst_eq:∀ v,cst v=ofConst v
 | .int .. | .bool .. | .agg ..=>rfl
 | v=>by cases v <;> rfl
def eo (tm:List (Nat × AV)):Operand→Option AV
 | .tmp t=>lko tm t
 | .const v=>some (cst v)
 | _=>none
theorem eo_ev {tm:List (Nat × AV)} {x:Operand} {v:AV} (h:eo tm x=some v):ev tm x=v:=by
 cases x with
 | tmp t=>exact lko_lk h
 | const c=>exact(cst_eq c).symm.trans (Option.some.inj h)
 | func f=>cases h
 | global g=>cases h
def ldc (n:Nat) (ag:Bool) (cells:List AV) (off:Nat):Option AV:=
 bif ag then (bif Nat.beq ((cells.drop off).take n).length n then some (.agg ((cells.drop off).take n)) else none)
 else (bif Nat.beq n 1 then cells[off]? else none)
theorem ldc_eq {n:Nat} {ag:Bool} {cells:List AV} {off:Nat} {v:AV} (h:ldc n ag cells off=some v):((cells.drop off).take n).length=n∧AV.pack ag ((cells.drop off).take n)=v:=by
 unfold ldc at h
 cases ag
 ·cases hb:Nat.beq n 1
  ·rw [hb] at h; cases h
  ·rw [hb] at h
   simp only [cond_false,cond_true] at h
   have:n=1:=Nat.eq_of_beq_eq_true hb
   subst this
   have hlt:=(List.getElem?_eq_some_iff.1 h).1
   rw [List.drop_eq_getElem_cons hlt]
   rw [List.getElem?_eq_getElem hlt] at h
   cases h
   exact⟨rfl,rfl⟩
 ·cases hb:Nat.beq ((cells.drop off).take n).length n
  ·rw [hb] at h; cases h
  ·rw [hb] at h
   simp only [cond_true] at h
   cases h
   exact⟨Nat.eq_of_beq_eq_true hb,rfl⟩
def un1:UnOp→AV→Option AV
 | .not,.sc (.bool b)=>some (.sc (.bool (!b)))
 | .neg,.sc (.int .i64 n)=>some (.sc (.int .i64 (W (-n))))
 | _,_=>none
def eqk (k k':IntKind):Bool:=decide (k=k')
def bi1 (op:BinOp):AV→AV→Option AV
 | .sc (.int k n),.sc (.int k' m)=>bif eqk k k' then (bin2 op k n m).map .sc else none
 | _,_=>none
def pk1 (tm:List (Nat × AV)) (x y:Operand):AV→Option AV
 | .sc (.bool true)=>eo tm x
 | .sc (.bool false)=>eo tm y
 | _=>none
variable {P:Program}
def opv (τ:Tab P) (tm:List (Nat × AV)) (ob:List (Nat × Option AO)):Op→Option (AV × List Nat)
 | .move x=>(eo tm x).map fun v=>(v,[])
 | .assign x=>(eo tm x).map fun v=>(v,[])
 | .load T x=>match τ.siz T,eo tm x with
  | some (n,ag),some (.ipt cells off)=>(ldc n ag cells off).map fun v=>(v,[])
  | some (n,ag),some (.ptr id off)=>(match lo ob id with
   | some (.box cells)=>(ldc n ag cells off).map fun v=>(v,[id])
   | _=>none)
  | _,_=>none
 | .fieldAddr S x f=>match τ.fld S f,eo tm x with
  | some fo,some (.ipt cells off)=>some (.ipt cells (off+fo),[])
  | some fo,some (.ptr id off)=>(match lo ob id with
   | some _=>some (.ptr id (off+fo),[id])
   | none=>none)
  | _,_=>none
 | .extract x i=>match eo tm x with
  | some (.tup vs)=>(vs[i]?).map fun v=>(v,[])
  | _=>none
 | .binOp op _ x y _=>match eo tm x,eo tm y with
  | some a,some b=>(bi1 op a b).map fun v=>(v,[])
  | _,_=>none
 | .unOp op _ x=>match eo tm x with
  | some a=>(un1 op a).map fun v=>(v,[])
  | _=>none
 | .pick c x y=>match eo tm c with
  | some a=>(pk1 tm x y a).map fun v=>(v,[])
  | _=>none
 | .box _ x=>match eo tm x with
  | some a=>bif a.cl.all AV.one&&a.cl.all AV.im then some (.ipt a.cl 0,[]) else none
  | _=>none
 | _=>none
theorem map_v {o:Option AV} {v:AV} {rd r:List Nat} (h:(o.map fun v=>(v,r))=some (v,rd)):o=some v∧rd=r:=by
 cases o with
 | none=>cases h
 | some a=>cases h; exact⟨rfl,rfl⟩
theorem opv_ax {τ:Tab P} {tm:List (Nat × AV)} {ob:List (Nat × Option AO)} {o:Oper} {v:AV} {rd:List Nat} (h:opv τ tm ob o.op=some (v,rd)):Ax P o (ev tm) (lo ob) rd v []:=by
 generalize ho:o.op=op at h
 unfold opv at h
 split at h
 ·obtain⟨h1,rfl⟩:=map_v h
  exact Ax.mv ho (eo_ev h1)
 ·obtain⟨h1,rfl⟩:=map_v h
  exact Ax.as ho (eo_ev h1)
 ·split at h
  ·rename_i hz hx
   obtain⟨h1,rfl⟩:=map_v h
   have:=ldc_eq h1
   exact this.2 ▸ Ax.load_ipt ho (τ.hs hz) (eo_ev hx) rfl this.1
  ·rename_i hz hx
   split at h
   ·rename_i hb
    obtain⟨h1,rfl⟩:=map_v h
    have:=ldc_eq h1
    exact this.2 ▸ Ax.load_box ho (τ.hs hz) (eo_ev hx) hb rfl this.1
   ·cases h
  ·cases h
 ·split at h
  ·rename_i hz hx
   cases h
   exact Ax.field_ipt ho (τ.hf hz) (eo_ev hx)
  ·rename_i hz hx
   split at h
   ·rename_i hb
    cases h
    exact Ax.field_ptr ho (τ.hf hz) (eo_ev hx) hb
   ·cases h
  ·cases h
 ·split at h
  ·rename_i hx
   obtain⟨h1,rfl⟩:=map_v h
   exact Ax.extract ho (eo_ev hx) h1
  ·cases h
 ·split at h
  ·rename_i a b hx hy
   obtain⟨h1,rfl⟩:=map_v h
   unfold bi1 at h1
   split at h1
   ·rename_i k n k' m
    cases hk:eqk k k'
    ·rw [hk] at h1; cases h1
    ·rw [hk] at h1
     obtain rfl:k=k':=of_decide_eq_true hk
     simp only [cond_true] at h1
     cases hv:bin2 _ k n m with
     | none=>rw [hv] at h1; cases h1
     | some u=>
      rw [hv] at h1; cases h1
      exact Ax.bin ho (eo_ev hx) (eo_ev hy) hv
   ·cases h1
  ·cases h
 ·split at h
  ·rename_i a hx
   obtain⟨h1,rfl⟩:=map_v h
   unfold un1 at h1
   split at h1
   ·cases h1; exact Ax.not ho (eo_ev hx)
   ·cases h1; exact Ax.neg ho (eo_ev hx)
   ·cases h1
  ·cases h
 ·split at h
  ·rename_i a hx
   obtain⟨h1,rfl⟩:=map_v h
   unfold pk1 at h1
   split at h1
   ·exact Ax.pick ho (eo_ev hx) (eo_ev h1)
   ·exact Ax.pick ho (eo_ev hx) (eo_ev h1)
   ·cases h1
  ·cases h
 ·split at h
  ·rename_i a hx
   cases hb:(a.cl.all AV.one&&a.cl.all AV.im)
   ·rw [hb] at h; cases h
   ·rw [hb] at h
    cases h
    simp only [Bool.and_eq_true] at hb
    exact Ax.box_ipt ho (by rw [eo_ev hx]) hb.1 hb.2
  ·cases h
 ·cases h
def stp (τ:Tab P) (n:Nat) (ops:Array Oper) (ob:List (Nat × Option AO)) (o:Oper) (tm:List (Nat × AV)):Option (It × List (Nat × AV)):=
 match o.dst with
 | some t=>bif Nat.blt t n then (match want ops tm o with
  | some true=>(match opv τ tm ob o.op with
   | some (v,rd)=>some (⟨o,true,v,rd,[]⟩,(t,v)::tm)
   | none=>none)
  | some false=>some (⟨o,false,.tup [],[],[]⟩,(t,.tup [])::tm)
  | none=>none) else none
 | none=>none
def run (τ:Tab P) (n:Nat) (ops:Array Oper) (ob:List (Nat × Option AO)):Nat→List Oper→List It→List (Nat × AV)→Option (List Oper × List It × List (Nat × AV))
 | 0,os,d,tm=>some (os,d,tm)
 | k+1,o::os,d,tm=>match stp τ n ops ob o tm with
  | some (it,tm')=>run τ n ops ob k os (it::d) tm'
  | none=>none
 | _+1,[],_,_=>none
theorem RunD.stp {τ:Tab P} {n:Nat} {ob0:List (Nat × Option AO)} {ops:Array Oper} {o:Oper} {rest:List Oper} {d:List It} {tm tm':List (Nat × AV)} {ob:List (Nat × Option AO)} {K:List It→AS→Prop} {it:It} (h:stp τ n ops ob o tm=some (it,tm')) (hr:RunD P n ob0 ops rest (it::d) ⟨tm',ob⟩ K):RunD P n ob0 ops (o::rest) d ⟨tm,ob⟩ K:=by
 unfold Ql.stp at h
 split at h
 ·rename_i t hd
  cases hn:Nat.blt t n
  ·rw [hn] at h; cases h
  ·rw [hn] at h
   simp only [cond_true] at h
   split at h
   ·rename_i hw
    split at h
    ·rename_i v rd hv
     cases h
     exact Q1 hw hd hn (opv_ax hv) hr
    ·cases h
   ·rename_i hw
    cases h
    exact Qx hw hd hn hr
   ·cases h
 ·cases h
theorem RunD.run {τ:Tab P} {n:Nat} {ob0:List (Nat × Option AO)} {ops:Array Oper} {ob:List (Nat × Option AO)} {K:List It→AS→Prop}:∀ (k:Nat) {os os':List Oper} {d d':List It} {tm tm':List (Nat × AV)},run τ n ops ob k os d tm=some (os',d',tm')→RunD P n ob0 ops os' d' ⟨tm',ob⟩ K→RunD P n ob0 ops os d ⟨tm,ob⟩ K
 | 0,os,os',d,d',tm,tm',h,hr=>by cases h; exact hr
 | k+1,[],os',d,d',tm,tm',h,hr=>by cases h
 | k+1,o::os,os',d,d',tm,tm',h,hr=>by
  simp only [Ql.run] at h
  split at h
  ·rename_i it tm1 he
   exact RunD.stp he (RunD.run k h hr)
  ·cases h
def fxt (t:Nat) (b:Bool):List (Nat × AV)→List (Nat × AV)
 | []=>[]
 | p::r=>bif Nat.beq p.1 t then (p.1,.sc (.bool b))::r else p::fxt t b r
theorem fxt_eq {t:Nat} {b:Bool}:∀ {tm:List (Nat × AV)},lko tm t=some (.sc (.bool b))→fxt t b tm=tm
 | p::r,h=>by
  simp only [lko] at h
  simp only [fxt]
  cases hb:Nat.beq p.1 t
  ·rw [hb] at h; simp only [cond_false] at h ⊢; rw [fxt_eq h]
  ·rw [hb] at h; simp only [cond_true,Option.some.injEq] at h ⊢; rw [← h]
theorem RunD.kn {n:Nat} {ob0:List (Nat × Option AO)} {ops:Array Oper} {os:List Oper} {d:List It} {tm:List (Nat × AV)} {ob:List (Nat × Option AO)} {K:List It→AS→Prop} (t:Nat) {e b:Bool} (hb:e=b) (hl:lko tm t=some (.sc (.bool e)))
  (h:RunD P n ob0 ops os d ⟨fxt t b tm,ob⟩ K):RunD P n ob0 ops os d ⟨tm,ob⟩ K:=by
 subst hb
 rwa [fxt_eq hl] at h
end Go.Proofs.YthlchdnbokhclaaGreat.Ql
namespace Go.Proofs.YthlchdnbokhclaaGreat.Ql
open Go
def fj:List (Nat × Nat)→Nat→Option Nat
 | [],_=>none
 | p::r,i=>bif Nat.beq p.2 i then some p.1 else fj r i
theorem fj_mem:∀ {js:List (Nat × Nat)} {i j:Nat},fj js i=some j→(j,i)∈js
 | p::r,i,j,h=>by
  simp only [fj] at h
  cases hb:Nat.beq p.2 i
  ·rw [hb] at h; exact List.mem_cons_of_mem _ (fj_mem h)
  ·rw [hb] at h
   obtain rfl:=Nat.eq_of_beq_eq_true hb
   have:=Option.some.inj h
   subst this
   exact List.mem_cons_self ..
mutual
def nv (js:List (Nat × Nat)):AV→Option AV
 | .hnd i=>(fj js i).map .hnd
 | .ptr i off=>(fj js i).map fun j=>.ptr j off
 | .vw i sz lo hi c=>(fj js i).map fun j=>.vw j sz lo hi c
 | .agg cs=>(nvs js cs).map .agg
 | .tup cs=>(nvs js cs).map .tup
 | .fn f cs=>(nvs js cs).map (.fn f)
 | .ifc t x=>(nv js x).map (.ifc t)
 | x=>bif x.only [] then some x else none
def nvs (js:List (Nat × Nat)):List AV→Option (List AV)
 | []=>some []
 | x::xs=>(nv js x).bind fun y=>(nvs js xs).map fun ys=>y::ys
end
theorem map_some {α β:Type} {o:Option α} {f:α→β} {y:β} (h:o.map f=some y):∃ x,o=some x∧f x=y:=by
 cases o with
 | none=>cases h
 | some a=>exact⟨a,rfl,Option.some.inj h⟩
section
variable {σ:Nat→Option AO} {ks:List Nat} {js:List (Nat × Nat)}
theorem only_nv {x y:AV} (h:(bif x.only [] then some x else none)=some y):Nz σ ks js x y:=by
 cases hb:x.only []
 ·rw [hb] at h; cases h
 ·rw [hb] at h
  have:=Option.some.inj h
  subst this
  exact .rfl' hb
mutual
theorem nv_nz:∀ {x y:AV},nv js x=some y→Nz σ ks js x y
 | .hnd i,y,h=>by
  simp only [nv] at h
  obtain⟨j,h1,rfl⟩:=map_some h
  exact .hnd (fj_mem h1)
 | .ptr i off,y,h=>by
  simp only [nv] at h
  obtain⟨j,h1,rfl⟩:=map_some h
  exact .ptr (fj_mem h1)
 | .vw i sz lo hi c,y,h=>by
  simp only [nv] at h
  obtain⟨j,h1,rfl⟩:=map_some h
  exact .vw (fj_mem h1)
 | .agg cs,y,h=>by
  simp only [nv] at h
  obtain⟨j,h1,rfl⟩:=map_some h
  exact .aggV (nvs_nz h1)
 | .tup cs,y,h=>by
  simp only [nv] at h
  obtain⟨j,h1,rfl⟩:=map_some h
  exact .tupV (nvs_nz h1)
 | .fn f cs,y,h=>by
  simp only [nv] at h
  obtain⟨j,h1,rfl⟩:=map_some h
  exact .fnV (nvs_nz h1)
 | .ifc t x,y,h=>by
  simp only [nv] at h
  obtain⟨j,h1,rfl⟩:=map_some h
  exact .ifc (nv_nz h1)
 | .undef,y,h=>only_nv h
 | .sc v,y,h=>only_nv h
 | .lst sz rows,y,h=>only_nv h
 | .ipt cells off,y,h=>only_nv h
 | .eptr id sz i j,y,h=>only_nv h
 | .fz x,y,h=>only_nv h
theorem nvs_nz:∀ {xs ys:List AV},nvs js xs=some ys→NzV σ ks js xs ys
 | [],ys,h=>by simp only [nvs] at h; cases h; trivial
 | x::xs,ys,h=>by
  simp only [nvs] at h
  cases h1:nv js x with
  | none=>rw [h1] at h; cases h
  | some y=>
   rw [h1] at h
   simp only [Option.bind_some] at h
   obtain⟨zs,h2,rfl⟩:=map_some h
   exact⟨nv_nz h1,nvs_nz h2⟩
end
def hasN:List Nat→Nat→Bool
 | [],_=>false
 | a::r,t=>Nat.beq a t||hasN r t
def nvT (js:List (Nat × Nat)) (sp:List Nat) (tm:List (Nat × AV)):List (Nat × AV)→Option (List (Nat × AV))
 | []=>some []
 | p::r=>(bif hasN sp p.1 then some p.2 else nv js (lk tm p.1)).bind fun y=>(nvT js sp tm r).map fun ys=>(p.1,y)::ys
def spT (σ:Nat→Option AO) (ks:List Nat) (js:List (Nat × Nat)) (sp:List Nat) (tm:List (Nat × AV)):List (Nat × AV)→Prop
 | []=>True
 | p::r=>if hasN sp p.1=true then Nz σ ks js (lk tm p.1) p.2∧spT σ ks js sp tm r else spT σ ks js sp tm r
theorem spT_nil {tm:List (Nat × AV)}:∀ {l:List (Nat × AV)},spT σ ks js [] tm l
 | []=>trivial
 | p::r=>by
  unfold spT
  rw [if_neg (by simp [hasN])]
  exact spT_nil
theorem nvT_nz {sp:List Nat} {tm:List (Nat × AV)}:∀ {l:List (Nat × AV)},spT σ ks js sp tm l→nvT js sp tm l=some l→NzT σ ks js tm l
 | [],_,_=>trivial
 | p::r,h,e=>by
  simp only [nvT] at e
  unfold spT at h
  cases hb:hasN sp p.1
  ·rw [hb] at e h
   simp only [cond_false] at e
   rw [if_neg (by decide)] at h
   cases h1:nv js (lk tm p.1) with
   | none=>rw [h1] at e; cases e
   | some y=>
    rw [h1] at e
    simp only [Option.bind_some] at e
    obtain⟨ys,h2,h3⟩:=map_some e
    simp only [List.cons.injEq] at h3
    obtain⟨h3,rfl⟩:=h3
    have:y=p.2:=congrArg Prod.snd h3
    subst this
    exact⟨nv_nz h1,nvT_nz h h2⟩
  ·rw [hb] at e h
   simp only [cond_true,Option.bind_some] at e
   rw [if_pos rfl] at h
   obtain⟨ys,h2,h3⟩:=map_some e
   simp only [List.cons.injEq] at h3
   obtain⟨h3,rfl⟩:=h3
   exact⟨h.1,nvT_nz h.2 h2⟩
def nvO (js:List (Nat × Nat)):AO→Option AO
 | .box cs=>(nvs js cs).map .box
 | .mp es=>some (.mp es)
 | .arr e sz rows=>some (.arr e sz rows)
def imO:Option AO→Prop→Prop
 | some (.arr _ _ rows),Q=>rows.flatten.all AV.im=true∧Q
 | _,Q=>Q
theorem imO_r {o:Option AO} {Q:Prop} (h:imO o Q):Q:=by
 unfold imO at h
 split at h
 ·exact h.2
 ·exact h
def mkM (is:List Nat) (ob':List (Nat × Option AO)):Mv:=
 match is,ob' with
 | i::is,(j,some o)::r=>(j,i,o)::mkM is r
 | _,_=>[]
def nvM (σ:Nat→Option AO) (js:List (Nat × Nat)):Mv→Option Mv
 | []=>some []
 | p::r=>(σ p.2.1).bind fun o=>(nvO js o).bind fun o'=>(nvM σ js r).map fun m=>(p.1,p.2.1,o')::m
def imM (σ:Nat→Option AO):Mv→Prop
 | []=>True
 | p::r=>imO (σ p.2.1) (imM σ r)
theorem nvM_nz:∀ {m:Mv},imM σ m→nvM σ js m=some m→NzM σ ks js m
 | [],_,_=>trivial
 | p::r,h,e=>by
  simp only [nvM] at e
  unfold imM at h
  cases ho:σ p.2.1 with
  | none=>rw [ho] at e; cases e
  | some o=>
   rw [ho] at e h
   simp only [Option.bind_some] at e
   cases h1:nvO js o with
   | none=>rw [h1] at e; cases e
   | some o'=>
    rw [h1] at e
    simp only [Option.bind_some] at e
    obtain⟨m,h2,h3⟩:=map_some e
    simp only [List.cons.injEq] at h3
    obtain⟨h3,rfl⟩:=h3
    have:o'=p.2.2:=congrArg (fun q=>q.2.2) h3
    subst this
    refine⟨⟨o,ho,?_⟩,nvM_nz (imO_r h) h2⟩
    cases o with
    | box cs=>
     simp only [nvO] at h1
     obtain⟨cs',h4,h5⟩:=map_some h1
     rw [← h5]
     exact .boxV (nvs_nz h4)
    | mp es=>
     have h1:=Option.some.inj h1
     rw [← h1]
     exact .mp
    | arr a b c=>
     have h1:=Option.some.inj h1
     rw [← h1]
     exact .arr h.1
end
variable {n:Nat} {ob0:List (Nat × Option AO)} {s:AS} {l:List (Nat × AV)} {ob':List (Nat × Option AO)}
theorem Es (is sp:List Nat) (e:(sm (mkM is ob').ob,(mkM is ob').ok ob0 [],nvT (mkM is ob').js sp s.tm l,nvM (lo s.ob) (mkM is ob').js (mkM is ob'))=(ob',true,some l,some (mkM is ob'))) (hi:imM (lo s.ob) (mkM is ob')) (hs:spT (lo s.ob) [] (mkM is ob').js sp s.tm l):Ent n ob0 s ⟨l,ob'⟩:=by
 simp only [Prod.mk.injEq] at e
 obtain⟨e1,e2,e3,e4⟩:=e
 have:=Ent.norm (n:=n) (ob0:=ob0) (s:=s) [] (mkM is ob') l e2 (nvM_nz hi e4) (nvT_nz hs e3)
 rwa [e1] at this
theorem Ee (is:List Nat) (e:(sm (mkM is ob').ob,(mkM is ob').ok ob0 [],nvT (mkM is ob').js [] s.tm l,nvM (lo s.ob) (mkM is ob').js (mkM is ob'))=(ob',true,some l,some (mkM is ob'))) (hi:imM (lo s.ob) (mkM is ob')):Ent n ob0 s ⟨l,ob'⟩:=Es is [] e hi spT_nil
theorem E0 (e:nvT [] [] s.tm l=some l):Ent n ob0 s ⟨l,[]⟩:=Ee [] (by rw [show nvT (mkM [] []).js [] s.tm l=some l from e]; rfl) trivial
theorem Es0 (sp:List Nat) (e:nvT [] sp s.tm l=some l) (hs:spT (lo s.ob) [] [] sp s.tm l):Ent n ob0 s ⟨l,[]⟩:=Es [] sp (by rw [show nvT (mkM [] []).js sp s.tm l=some l from e]; rfl) trivial hs
theorem imf {α:Type} {cl:α→List AV} {xs:List α} (h:∀ x,(cl x).all AV.im=true):(xs.map cl).flatten.all AV.im=true:=im_flat h xs
end Go.Proofs.YthlchdnbokhclaaGreat.Ql
namespace Go.Proofs.YthlchdnbokhclaaGreat.Ql
open Go
section
variable {P:Program} {τ:Tab P} {n:Nat} {ob0:List (Nat × Option AO)} {ops:Array Oper} {ob:List (Nat × Option AO)} {K:List It→AS→Prop} {os:List Oper} {d d':List It} {tm tm':List (Nat × AV)} {Q:Exit→AS→Prop} {id:Nat} {c:Code}
theorem RunD.all (e:Ql.run τ n ops ob os.length os d tm=some ([],d',tm')) (h:K d' ⟨tm',ob⟩):RunD P n ob0 ops os d ⟨tm,ob⟩ K:=RunD.run _ e h
theorem Tri.all (e:Ql.run τ n ops ob ops.toList.length ops.toList [] tm=some ([],d',tm')) (h:Q .normal ⟨tm',ob⟩):Tri P n ob0 (.region id ops false) ⟨tm,ob⟩ Q:=Tri.region (RunD.all e h)
theorem Tri.alls (e:Ql.run τ n ops ob ops.toList.length ops.toList [] tm=some ([],d',tm')) (h:Tri P n ob0 c ⟨tm',ob⟩ Q):Tri P n ob0 (.seq (.region id ops false) c) ⟨tm,ob⟩ Q:=Tri.seq (Tri.region (RunD.all e h))
theorem Tr {s:AS} (h:RunD P n ob0 ops ops.toList [] s fun _ s'=>Tri P n ob0 c s' Q):Tri P n ob0 (.seq (.region id ops false) c) s Q:=Tri.seq (Tri.region h)
end
section
variable {P:Program} {ob0:List (Nat × Option AO)} {s:AS}
def rvT (τ:Tab P) (tm:List (Nat × AV)) (ob:List (Nat × Option AO)):List ResultVar→Option (List AV)
 | []=>some []
 | .tmp t::r=>(rvT τ tm ob r).map fun vs=>lk tm t::vs
 | .cell t T::r=>(match τ.siz T,lk tm t with
  | some (n,ag),.ipt cells off=>ldc n ag cells off
  | some (n,ag),.ptr id off=>(match lo ob id with
   | some (.box cells)=>ldc n ag cells off
   | _=>none)
  | _,_=>none).bind fun v=>(rvT τ tm ob r).map fun vs=>v::vs
theorem rvT_ok {τ:Tab P}:∀ {rs:List ResultVar} {vs:List AV},rvT τ s.tm s.ob rs=some vs→RVs P s rs vs
 | [],vs,h=>by cases h; rfl
 | .tmp t::r,vs,h=>by
  simp only [rvT] at h
  obtain⟨us,h1,rfl⟩:=map_some h
  exact⟨_,_,rfl,.tmp rfl,rvT_ok h1⟩
 | .cell t T::r,vs,h=>by
  simp only [rvT] at h
  split at h
  ·rename_i hz hx
   cases h1:ldc _ _ _ _ with
   | none=>rw [h1] at h; cases h
   | some v=>
    rw [h1] at h
    simp only [Option.bind_some] at h
    obtain⟨us,h2,rfl⟩:=map_some h
    have:=ldc_eq h1
    exact⟨_,_,rfl,this.2 ▸ .cell_ipt hx (τ.hs hz) rfl this.1,rvT_ok h2⟩
  ·rename_i hz hx
   split at h
   ·rename_i hb
    cases h1:ldc _ _ _ _ with
    | none=>rw [h1] at h; cases h
    | some v=>
     rw [h1] at h
     simp only [Option.bind_some] at h
     obtain⟨us,h2,rfl⟩:=map_some h
     have:=ldc_eq h1
     exact⟨_,_,rfl,this.2 ▸ .cell_box hx (τ.hs hz) hb rfl this.1,rvT_ok h2⟩
   ·cases h
  ·cases h
def rnv (τ:Tab P) (s:AS) (js:List (Nat × Nat)) (rs:List ResultVar):Option AV:=(rvT τ s.tm s.ob rs).bind fun vs=>nv js (resOf vs)
theorem RetQ.ev {β:Type} {rs:Array ResultVar} {e:Exit} {x r:β} (τ:Tab P) (enc:β→AV) (eo:β→List (Nat × AO)) (is:List Nat) (he:e=.normal∨e=.ret) (h:some x=some r)
  (e1:(rnv τ s (mkM is (sm (eo x))).js rs.toList,(mkM is (sm (eo x))).ob,(mkM is (sm (eo x))).ok ob0 [],nvM (lo s.ob) (mkM is (sm (eo x))).js (mkM is (sm (eo x))))=(some (enc x),eo x,true,some (mkM is (sm (eo x)))))
  (hi:imM (lo s.ob) (mkM is (sm (eo x)))):RetQ P ob0 rs (enc r) (eo r) e s:=by
 cases h
 simp only [Prod.mk.injEq] at e1
 obtain⟨a1,a2,a3,a4⟩:=e1
 unfold rnv at a1
 cases hv:rvT τ s.tm s.ob rs.toList with
 | none=>rw [hv] at a1; cases a1
 | some vs=>
  rw [hv] at a1
  simp only [Option.bind_some] at a1
  exact RetQ.mk he (rvT_ok hv) [] _ a3 a2 (nvM_nz hi a4) (nv_nz a1)
end
end Go.Proofs.YthlchdnbokhclaaGreat.Ql

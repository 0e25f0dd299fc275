import Derived.Test.YthlchdnbokhclaaGreatQc1
set_option linter.all false
namespace Go.Proofs.YthlchdnbokhclaaGreat.Ql
open Go Go.Proofs.YthlchdnbokhclaaGreat.Bm
def usedN (m:Nat) (fl:List Int):List Nat:=(List.range m).filter fun i=>decide (0 < fl.getD i 0)
theorem usedN_mem {m:Nat} {fl:List Int} {i:Nat}:i∈usedN m fl↔i < m∧0 < fl.getD i 0:=by
 simp [usedN]
theorem usedN_nodup {m:Nat} {fl:List Int}:(usedN m fl).Nodup:=List.Nodup.sublist List.filter_sublist List.nodup_range
theorem usedN_len {m:Nat} {fl:List Int}:(usedN m fl).length≤m:=by
 have:=List.length_filter_le (fun i=>decide (0 < fl.getD i 0)) (List.range m)
 simpa [usedN] using this
theorem usedN_succ {m:Nat} {fl:List Int}:usedN (m+1) fl=usedN m fl++if 0 < fl.getD m 0 then [m] else []:=by
 unfold usedN
 rw [List.range_succ,List.filter_append]
 congr 1
 simp only [List.filter_cons,List.filter_nil,decide_eq_true_eq]
theorem f360_eq {K:Nat} {u:Use_diffs} (h:u.flow.length≤4096):f360 K u=some ((usedN u.flow.length u.flow).map fun(i:Nat)=>(i:Int)):=by
 have:Gets (f360 K u) (·=(usedN u.flow.length u.flow).map fun(i:Nat)=>(i:Int)):=by
  unfold f360
  refine Gets.bind (P:=(·=(usedN u.flow.length u.flow).map fun(i:Nat)=>(i:Int))) (rngL_gets (fun(j:Nat) (v:List Int)=>v=(usedN j u.flow).map fun(i:Nat)=>(i:Int)) (by omega) rfl (fun j x v nx hx hv hnx=>?_) fun v hv=>Gets.some hv) fun v hv=>Gets.some hv
  have hj:=(List.getElem?_eq_some_iff.1 hx).1
  have hxe:u.flow.getD j 0=x:=by rw [List.getD_eq_getElem?_getD,hx]; rfl
  have hl:=usedN_len (m:=j) (fl:=u.flow)
  subst hv
  refine Gets.bind (P:=(·=(usedN (j+1) u.flow).map fun(i:Nat)=>(i:Int))) (Gets.cond (fun h'=>?_) fun h'=>Gets.some ?_) fun w hw=>hnx _ hw
  ·have h':0 < x:=of_decide_eq_true h'
   rw [app_eq (by simp; omega),Option.bind_some]
   refine Gets.some ?_
   rw [usedN_succ,hxe,if_pos h']; simp
  ·have h':¬ 0 < x:=by have:=of_decide_eq_false h'; omega
   rw [usedN_succ,hxe,if_neg h']; simp
 exact this.out
def backD (n:Net) (i:Nat):Diff:=⟨(n.Diffs.getD i ⟨0,0,0⟩).To,(n.Diffs.getD i ⟨0,0,0⟩).From,-(n.Diffs.getD i ⟨0,0,0⟩).Most⟩
def linesN (n:Net) (fl:List Int):List Diff:=n.Diffs++(usedN n.Diffs.length fl).map (backD n)
theorem getD_memD {n:Net} {i:Nat} (h:i < n.Diffs.length):n.Diffs.getD i ⟨0,0,0⟩∈n.Diffs:=by
 rw [List.getD_eq_getElem?_getD,List.getElem?_eq_getElem h]; exact List.getElem_mem h
theorem lines_edg {n:Net} {fl:List Int}:edg (linesN n fl)=res (edg n.Diffs) (usedN n.Diffs.length fl):=by
 simp only [edg,linesN,res,List.map_append,List.map_map]
 congr 1
 refine List.map_congr_left fun i hi=>?_
 have hi':=(usedN_mem.1 hi).1
 have e:gE (n.Diffs.map E1) i=E1 (n.Diffs.getD i ⟨0,0,0⟩):=by
  unfold gE
  rw [List.getD_eq_getElem?_getD,List.getD_eq_getElem?_getD,List.getElem?_map,List.getElem?_eq_getElem hi']; rfl
 show E1 (backD n i)=turn (gE (n.Diffs.map E1) i)
 rw [e]; rfl
theorem lines_ok {n:Net} (hn:Mild n) {fl:List Int}:LOk n.Nodes.toNat (linesN n fl)∧(linesN n fl).length≤8192:=by
 have hl:=hn.l
 have hu:=usedN_len (m:=n.Diffs.length) (fl:=fl)
 refine⟨fun d hd=>?_,by simp [linesN]; omega⟩
 rcases List.mem_append.1 hd with h | h
 ·exact hn.d d h
 ·obtain⟨i,hi,rfl⟩:=List.mem_map.1 h
  obtain⟨a,b,c,e,f,g⟩:=hn.d _ (getD_memD (usedN_mem.1 hi).1)
  exact⟨c,e,a,b,by simp only [backD]; omega,by simp only [backD]; omega⟩
theorem f359_eq {K:Nat} {u:Use_diffs} (hn:Mild u.Net) (hf:u.flow.length=u.Net.Diffs.length):f359 K u=some (linesN u.Net u.flow):=by
 have hl:=hn.l
 have hu:=usedN_len (m:=u.Net.Diffs.length) (fl:=u.flow)
 have:Gets (f359 K u) (·=linesN u.Net u.flow):=by
  unfold f359
  have e1:f366 K u.Net.Diffs=some u.Net.Diffs:=by unfold f366; rw [app_eq (by simp; omega)]; rfl
  rw [e1,Option.bind_some,f360_eq (by omega),Option.bind_some,hf]
  refine Gets.bind (P:=(·=linesN u.Net u.flow)) (rngL_gets (fun(j:Nat) (v:List Diff)=>v=u.Net.Diffs++((usedN u.Net.Diffs.length u.flow).take j).map (backD u.Net)) (by simp; omega) (by simp) (fun j x v nx hx hv hnx=>?_) fun v hv=>Gets.some (by rw [hv,List.length_map,List.take_length]; rfl)) fun v hv=>Gets.some hv
  have hj:=(List.getElem?_eq_some_iff.1 hx).1
  simp only [List.length_map] at hj
  simp only [List.getElem?_map,Option.map_eq_some_iff] at hx
  obtain⟨i,hi,rfl⟩:=hx
  have hi':=(usedN_mem.1 (List.mem_of_getElem? hi)).1
  obtain⟨_,_,_,_,hm0,hm1⟩:=hn.d _ (getD_memD hi')
  subst hv
  rw [ix_getD ⟨0,0,0⟩ (by omega) (by omega),Option.bind_some]
  simp only [Int.toNat_natCast]
  rw [W_eq (by omega) (by omega),app_eq (by simp; omega),Option.bind_some]
  refine hnx _ ?_
  rw [List.take_succ,hi]
  simp [backD]
 exact this.out
end Go.Proofs.YthlchdnbokhclaaGreat.Ql
namespace Go.Proofs.YthlchdnbokhclaaGreat.Ql
open Go Go.Proofs.YthlchdnbokhclaaGreat.Bm
def natI (ks:List Nat):List Int:=ks.map fun(k:Nat)=>(k:Int)
theorem natI_at {ks:List Nat} {j:Nat} {x:Int} (h:(natI ks)[j]?=some x):∃ k:Nat,ks[j]?=some k∧x=k:=by
 simp only [natI,List.getElem?_map,Option.map_eq_some_iff] at h
 obtain⟨k,h1,rfl⟩:=h
 exact⟨k,h1,rfl⟩
theorem back_gets {n:Nat} {l:List Diff} (hl:LOk n l) (hll:l.length≤8192) (hN:n < 256) {t:Tree_diffs} {src:Nat→Bool} (hn:Ln n t.long t.has t.last) (hi:Inv (edg l) src (stS t.long t.has t.last)) (hx:Fix (edg l) (stS t.long t.has t.last)) {b:Int} (hb:0≤b) (hb1:b < n) (hh:(stS t.long t.has t.last).h b.toNat=true) :
  Gets (whl (fun nx ((vo11,v12):List Int × Int)=>(ix t.last v12).bind fun y_10=>bif (decide (y_10≥0)) then (app vo11 ([y_10]:List Int)).bind fun z58=>(ix l y_10).bind fun y_11=>nx (z58,y_11.From) else some (vo11,v12)) 4611686018427387904 (([]:List Int),b))
   (fun r=>∃ ks:List Nat,r.1=natI ks∧ks.length < n∧0≤r.2∧r.2 < (n:Int)∧UpL (edg l) (stS t.long t.has t.last).p b.toNat ks r.2.toNat∧src r.2.toNat=true):=by
 have hla:t.last.length=n:=hn.c
 refine whl_count (fun(k:Nat) (v:List Int × Int)=>0≤v.2∧v.2 < (n:Int)∧∃ ks:List Nat,ks.length=k∧v.1=natI ks∧UpL (edg l) (stS t.long t.has t.last).p b.toNat ks v.2.toNat∧∃ x,Up (edg l) (stS t.long t.has t.last).p b.toNat v.2.toNat k x) n ?_ (k:=0) ⟨hb,hb1,[],rfl,rfl,rfl,0,.nil⟩ (by omega) (by omega)
 rintro k ⟨w,at_⟩ nx ⟨h4,h5,ks,h6,h7,h8,x,h9⟩ hk hnx
 simp only at h4 h5 h7 h8 h9
 have hkn:k < n:=by
  refine Classical.byContradiction fun hlt=>?_
  obtain⟨q,c,h10,_,h11⟩:=h9.cycle (fun e he=>(edg_uv hl e he).1) (by omega) (by omega)
  have:=hx.acyc hi h11
  omega
 dsimp only
 rw [ix_getD (-1) h4 (by omega),Option.bind_some]
 refine Gets.cond (fun h=>?_) fun h=>Gets.some ⟨ks,h7,by omega,h4,h5,h8,?_⟩
 ·have hge:0≤t.last.getD at_.toNat (-1):=by have:=of_decide_eq_true h; omega
  have hp:(stS t.long t.has t.last).p at_.toNat=some (t.last.getD at_.toNat (-1)).toNat:=by
   show pN _=_
   unfold pN; rw [if_neg (by omega)]
  obtain⟨_,e,a1,a2,a3,a4⟩:=hi.par _ _ hp
  obtain⟨d,a5,rfl⟩:=edg_of a1
  have hd:=hl d (List.mem_of_getElem? a5)
  have hf1:=hd.f1
  rw [h7,app_eq (by simp [natI]; omega),Option.bind_some,ix_eq hge a5,Option.bind_some]
  refine hnx _ (by omega) ⟨hd.f0,by (try simp only); omega,ks++[(t.last.getD at_.toNat (-1)).toNat],by simp [h6],?_,h8.snoc hp a1,_,h9.snoc hp a1⟩
  simp only [natI,List.map_append,List.map_cons,List.map_nil]
  rw [show (((t.last.getD at_.toNat (-1)).toNat:Nat):Int)=t.last.getD at_.toNat (-1) by omega]
 ·have hlt:t.last.getD at_.toNat (-1) < 0:=by have:=of_decide_eq_false h; omega
  have hp:(stS t.long t.has t.last).p at_.toNat=none:=by
   show pN _=_
   unfold pN; rw [if_pos hlt]
  exact(hi.root _ (h9.h hi hh) hp).1
theorem adj_take {m:Nat} {U:List Nat} {c:Int} {f:Nat→Int} {l:List Nat} {j k:Nat} (h:l[j]?=some k):adj m U c f (l.take (j+1))=adj1 m U c (adj m U c f (l.take j)) k:=by
 rw [List.take_succ,h]
 simp [adj,List.foldl_append]
theorem adj1_lt {m:Nat} {U:List Nat} {c:Int} {f:Nat→Int} {k i:Nat} (h:k < m):adj1 m U c f k i=if i=k then f i+c else f i:=by unfold adj1; rw [if_pos h]
theorem adj1_ge {m:Nat} {U:List Nat} {c:Int} {f:Nat→Int} {k i:Nat} (h:m≤k):adj1 m U c f k i=if i=U.getD (k - m) 0 then f i - c else f i:=by unfold adj1; rw [if_neg (by omega)]
theorem _root_.Go.Proofs.YthlchdnbokhclaaGreat.Bm.FI.want_le {E:List Ed} {n:Nat} {w f want π:Nat→Int} {B:Int} (h:FI E n w B f want π) {v:Nat} (hv:v < n):-B≤want v∧want v≤B:=by
 have h1:=h.bd 0
 have h2:=h.f0 0
 have h3:=sumN_one (n:=n) (g:=fun v=>(want v).natAbs) (fun i _=>by omega) hv
 omega
theorem _root_.Go.Proofs.YthlchdnbokhclaaGreat.Bm.FI.f_le {E:List Ed} {n:Nat} {w f want π:Nat→Int} {B:Int} (h:FI E n w B f want π) (i:Nat):0≤f i∧f i≤B:=by
 have h1:=h.bd i
 have h2:=h.f0 i
 have h3:=sumN_nonneg (n:=n) (g:=fun v=>(want v).natAbs) (fun i _=>by omega)
 omega
def wsum (n:Nat) (wt:List Int):Int:=sumN n fun v=>(wt.getD v 0).natAbs
structure StepR (s:Scene) (w:Nat→Int) (B:Int) (fl wt:List Int) (to:Int) (gv:List Int) (r:Bool × Use_diffs × List Int):Prop where
 ok:r.1=true
 net:r.2.1.Net=theNet s
 fl:r.2.1.flow.length=(theNet s).Diffs.length
 wl:r.2.1.want.length=NN s
 fi:∃ π,FI (EE s) (NN s) w B (fun i=>r.2.1.flow.getD i 0) (fun v=>r.2.1.want.getD v 0) π
 lt:wsum (NN s) r.2.1.want < wsum (NN s) wt
 wt:∃ a,a∈gv∧∃ c,0 < c∧(to≠0→c≤wt.getD to.toNat 0)∧(a≠0→c≤- wt.getD a.toNat 0)∧∀ v:Nat,r.2.1.want.getD v 0=wt.getD v 0 - (if to≠0∧v=to.toNat then c else 0)+(if a≠0∧v=a.toNat then c else 0)
theorem f341_eq {s:Scene} (hS:SOk s) {fl wt:List Int} (hfl:fl.length=(theNet s).Diffs.length) (hwt:wt.length=NN s) {w:Nat→Int} {B:Int} {π:Nat→Int} (hFI:FI (EE s) (NN s) w B (fun i=>fl.getD i 0) (fun v=>wt.getD v 0) π) (hB:B≤1048576)
  {to:Int} {gv:List Int} (ht0:0≤to) (ht1:to < NN s) (hgl:gv.length≤256) (hgv:∀ i∈gv,0≤i∧i < NN s) (hg0:∃ a,a∈gv) (hto:to≠0→0 < wt.getD to.toNat 0) (hg1:∀ i∈gv,i≠0→wt.getD i.toNat 0 < 0) (hne:to=0→(0:Int)∉gv) :
  Gets (f341 4611686018427387904 ⟨theNet s,fl,wt⟩ to gv) (StepR s w B fl wt to gv):=by
 have hn:=net_mild hS
 have hN:=NN_le hS
 have hs:=lens_sn hS
 have hm:=lay_len hS
 have hml:(theNet s).Diffs.length=(lay s).length:=by simp [theNet]
 unfold f341
 rw [f359_eq (u:=⟨theNet s,fl,wt⟩) hn hfl,Option.bind_some,f360_eq (u:=⟨theNet s,fl,wt⟩) (by (try simp only); omega),Option.bind_some]
 try simp only
 rw [hfl]
 generalize hU:usedN (theNet s).Diffs.length fl=U
 have hUm:∀ i,i∈U↔i < (edg (theNet s).Diffs).length∧0 < fl.getD i 0:=fun i=>by rw [← hU,usedN_mem,edg_len]
 have hUn:U.Nodup:=by rw [← hU]; exact usedN_nodup
 have hUl:U.length≤(theNet s).Diffs.length:=by rw [← hU]; exact usedN_len
 have hE:edg (linesN (theNet s) fl)=res (EE s) U:=by rw [lines_edg,hU]
 have hLk:=lines_ok hn (fl:=fl)
 have hpr:Pot (res (EE s) U) π:=hFI.pot_res fun i hi=>(hUm i).1 hi
 have hpb:∀ a b,a < NN s→b < NN s→π a - π b≤65536:=fun a b ha hb=>by
  have h1:=pot_bd hS hFI.pot ha
  have h2:=pot_bd hS hFI.pot hb
  have:=hS.b.d
  omega
 refine Gets.bind (grow_pot (l:=linesN (theNet s) fl) (n:=NN s) rfl (by show some _=some _; rw [hs]) (by omega) hLk.1 hLk.2 hgl hgv (π:=π) (by rw [hE]; exact hpr) (fun a b ha hb=>by have:=hpb a b ha hb; omega)) fun r hr=>?_
 obtain⟨t,bad⟩:=r
 obtain⟨⟨hln,hi,hbd,hx⟩,_⟩:=hr
 simp only at hln hi hbd hx
 have hx:Fix (edg (linesN (theNet s) fl)) (stS t.long t.has t.last):=by
  rename_i hbad
  try simp only at hbad
  rcases hx with hx | hx
  ·exact hx.2
  ·omega
 have hall:∀ v,v < NN s→(stS t.long t.has t.last).h v=true:=fun v hv=>by
  obtain⟨a,ha⟩:=hg0
  have ha1:=hgv a ha
  have h1:=(hi.srcs a.toNat (by simp only [decide_eq_true_eq]; rwa [show ((a.toNat:Nat):Int)=a by omega])).1
  obtain⟨c,m,x,h2,h3⟩:=reach_all hS (a:=a.toNat) (v:=v) (by omega) hv
  obtain rfl:c=a.toNat:=by simpa using h2
  exact(hx.walk (h3.mono fun e he=>by rw [hE]; exact List.mem_append_left _ he) h1).1
 have hhas:t.has.getD to.toNat false=true:=hall to.toNat (by omega)
 have hlb:t.has.length=NN s:=hln.b
 dsimp only
 rw [ix_getD false ht0 (by omega),Option.bind_some,hhas]
 simp only [Bool.not_true,cond_false]
 refine Gets.bind (back_gets hLk.1 hLk.2 (by omega) hln hi hx ht0 ht1 hhas) fun v hv=>?_
 obtain⟨v1,at_⟩:=v
 obtain⟨ks,hk1,hk2,ha0,ha1,hup,hsrc⟩:=hv
 simp only at hk1 ha0 ha1 hup hsrc
 subst hk1
 have hag:at_∈gv:=by
  have:=of_decide_eq_true hsrc
  rwa [show ((at_.toNat:Nat):Int)=at_ by omega] at this
 have hwl:∀ {v:Nat},v < NN s→-B≤wt.getD v 0∧wt.getD v 0≤B:=fun hv=>hFI.want_le hv
 have hkin:∀ k∈ks,(edg (theNet s).Diffs).length≤k→k - (edg (theNet s).Diffs).length < U.length:=by
  intro k hk hkm
  rw [hE] at hup
  obtain⟨x,_,_,_,h1⟩:=hup.mem hk
  rw [hE] at hi
  obtain⟨_,e,h2,_⟩:=hi.par x k h1
  have:=(List.getElem?_eq_some_iff.1 h2).1
  simp only [res,List.length_append,List.length_map] at this
  have e9:(EE s).length=(edg (theNet s).Diffs).length:=rfl
  omega
 have hkin1:∀ k∈ks,k < (edg (theNet s).Diffs).length+U.length:=by
  intro k hk
  by_cases h:(edg (theNet s).Diffs).length≤k
  ·have:=hkin k hk h; omega
  ·omega
 rw [edg_len] at hkin hkin1
 refine Gets.bind (P:=fun c=>(to≠0→c=wt.getD to.toNat 0)∧(to=0→c=1152921504606846976)) (Gets.cond (fun h=>?_) fun h=>Gets.some ?_) fun c0 hc0=>?_
 ·rw [ix_getD 0 ht0 (by (try simp only); omega),Option.bind_some]
  exact Gets.some ⟨fun _=>rfl,fun h'=>by simp [h'] at h⟩
 ·exact⟨fun h'=>absurd (by simpa using h) h',fun _=>rfl⟩
 refine Gets.bind (P:=fun c=>0 < c∧c≤1048576∧(to≠0→c≤wt.getD to.toNat 0)∧(at_≠0→c≤- wt.getD at_.toNat 0)) (Gets.cond (fun h=>?_) fun h=>Gets.some ?_) fun c1 hc1=>?_
 ·have hane:at_≠0:=by simpa using h
  rw [ix_getD 0 ha0 (by (try simp only); omega),Option.bind_some]
  have h1:=hwl (v:=at_.toNat) (by omega)
  have h2:=hg1 at_ hag hane
  try simp only
  rw [W_eq (by omega) (by omega)]
  refine Gets.some ?_
  by_cases htz:to=0
  ·rw [hc0.2 htz,if_pos (by omega)]
   exact⟨by omega,by omega,fun h=>absurd htz h,fun _=>Int.le_refl _⟩
  ·have h3:=hc0.1 htz
   have h4:=hto htz
   split
   ·exact⟨by omega,by omega,fun _=>by omega,fun _=>by omega⟩
   ·exact⟨by omega,by omega,fun _=>by omega,fun _=>by omega⟩
 ·have haz:at_=0:=by simpa using h
  subst haz
  have htz:to≠0:=fun h'=>hne h' hag
  have h3:=hc0.1 htz
  have h4:=hto htz
  have h1:=hwl (v:=to.toNat) (by omega)
  exact⟨by omega,by omega,fun _=>by omega,fun h=>absurd rfl h⟩
 refine Gets.bind (P:=fun c=>0 < c∧c≤c1∧∀ k∈ks,(theNet s).Diffs.length≤k→c≤fl.getD (U.getD (k - (theNet s).Diffs.length) 0) 0) ?_ fun c hc=>?_
 ·refine rngL_gets (fun(j:Nat) (c:Int)=>0 < c∧c≤c1∧∀ (i:Nat) (k:Nat),i < j→ks[i]?=some k→(theNet s).Diffs.length≤k→c≤fl.getD (U.getD (k - (theNet s).Diffs.length) 0) 0) (by simp [natI]; omega) ⟨hc1.1,Int.le_refl _,fun i k h=>by omega⟩ (fun j x c nx hx hcj hnx=>?_) fun c hcj=>Gets.some ⟨hcj.1,hcj.2.1,fun k hk=>?_⟩
  ·obtain⟨k,hk,rfl⟩:=natI_at hx
   refine Gets.bind (P:=fun c'=>0 < c'∧c'≤c∧((theNet s).Diffs.length≤k→c'≤fl.getD (U.getD (k - (theNet s).Diffs.length) 0) 0)) (Gets.cond (fun h=>?_) fun h=>Gets.some ?_) fun c' hc'=>hnx _ ⟨hc'.1,by omega,fun i k' hi' hk' hm'=>?_⟩
   ·have h:(theNet s).Diffs.length≤k:=by have:=of_decide_eq_true h; (try simp only at this); omega
    have h1:=hkin k (List.mem_of_getElem? hk) h
    try simp only
    rw [W_eq (by omega) (by omega),ix_getD 0 (by omega) (by simp; omega),Option.bind_some]
    have e1:(U.map fun(i:Nat)=>(i:Int)).getD ((k:Int) - (theNet s).Diffs.length).toNat 0=(U.getD (k - (theNet s).Diffs.length) 0:Nat):=by
     rw [show ((k:Int) - (theNet s).Diffs.length).toNat=k - (theNet s).Diffs.length by omega,List.getD_eq_getElem?_getD,List.getD_eq_getElem?_getD,List.getElem?_map,List.getElem?_eq_getElem h1]; rfl
    rw [e1]
    have h2:U.getD (k - (theNet s).Diffs.length) 0∈U:=by rw [List.getD_eq_getElem?_getD,List.getElem?_eq_getElem h1]; exact List.getElem_mem h1
    have h3:=(hUm _).1 h2
    rw [edg_len] at h3
    rw [ix_getD 0 (by omega) (by (try simp only); omega),Option.bind_some]
    simp only [Int.toNat_natCast]
    refine Gets.some ?_
    split
    ·exact⟨h3.2,by omega,fun _=>Int.le_refl _⟩
    ·exact⟨hcj.1,Int.le_refl _,fun _=>by omega⟩
   ·have h:¬ (theNet s).Diffs.length≤k:=by have:=of_decide_eq_false h; (try simp only at this); omega
    exact⟨hcj.1,Int.le_refl _,fun h'=>absurd h' h⟩
   ·by_cases hij:i=j
    ·subst hij; rw [hk] at hk'; cases hk'; exact hc'.2.2 hm'
    ·have:=hcj.2.2 i k' (by omega) hk' hm'; omega
  ·obtain⟨i,hi'⟩:=List.mem_iff_getElem?.1 hk
   exact hcj.2.2 i k (by have:=(List.getElem?_eq_some_iff.1 hi').1; simpa [natI] using this) hi'
 refine Gets.bind (P:=fun v=>v.length=(theNet s).Diffs.length∧∀ i,v.getD i 0=adj (theNet s).Diffs.length U c (fun i=>fl.getD i 0) ks i) ?_ fun fl' hfl'=>?_
 ·refine rngL_gets (fun(j:Nat) (v:List Int)=>v.length=(theNet s).Diffs.length∧(∀ i,v.getD i 0=adj (theNet s).Diffs.length U c (fun i=>fl.getD i 0) (ks.take j) i)∧∀ i,-(1048576*((j:Int)+1))≤v.getD i 0∧v.getD i 0≤1048576*((j:Int)+1)) (by simp [natI]; omega) ⟨hfl,fun i=>rfl,fun i=>by have:=hFI.f_le i; (try simp only at this); omega⟩ (fun j x v nx hx ⟨h1,h2,h3⟩ hnx=>?_) fun v hv=>Gets.some ⟨hv.1,fun i=>by have:=hv.2.1 i; simp only [natI,List.length_map,List.take_length] at this; exact this⟩
  obtain⟨k,hk,rfl⟩:=natI_at hx
  have hkl:=hkin1 k (List.mem_of_getElem? hk)
  have hjl:=(List.getElem?_eq_some_iff.1 hk).1
  refine Gets.bind (P:=fun v'=>v'.length=(theNet s).Diffs.length∧(∀ i,v'.getD i 0=adj1 (theNet s).Diffs.length U c (fun i=>v.getD i 0) k i)∧∀ i,v.getD i 0 - c≤v'.getD i 0∧v'.getD i 0≤v.getD i 0+c) (Gets.cond (fun h=>?_) fun h=>?_) fun v' hv'=>hnx _ ⟨hv'.1,fun i=>?_,fun i=>?_⟩
  ·have h:(theNet s).Diffs.length≤k:=by have:=of_decide_eq_true h; (try simp only at this); omega
   have h4:=hkin k (List.mem_of_getElem? hk) h
   try simp only
   rw [W_eq (by omega) (by omega),ix_getD 0 (by omega) (by simp; omega),Option.bind_some]
   have e1:(U.map fun(i:Nat)=>(i:Int)).getD ((k:Int) - (theNet s).Diffs.length).toNat 0=(U.getD (k - (theNet s).Diffs.length) 0:Nat):=by
    rw [show ((k:Int) - (theNet s).Diffs.length).toNat=k - (theNet s).Diffs.length by omega,List.getD_eq_getElem?_getD,List.getD_eq_getElem?_getD,List.getElem?_map,List.getElem?_eq_getElem h4]; rfl
   rw [e1]
   have h5:U.getD (k - (theNet s).Diffs.length) 0∈U:=by rw [List.getD_eq_getElem?_getD,List.getElem?_eq_getElem h4]; exact List.getElem_mem h4
   have h6:=(hUm _).1 h5
   rw [edg_len] at h6
   have h7:=h3 (U.getD (k - (theNet s).Diffs.length) 0)
   rw [ix_getD 0 (by omega) (by omega),Option.bind_some]
   simp only [Int.toNat_natCast]
   rw [W_eq (by omega) (by omega)]
   refine Gets.some ⟨by simp [h1],fun i=>?_,fun i=>?_⟩
   ·rw [getD_set (by omega)]
    rw [adj1_ge h]
    by_cases h8:i=U.getD (k - (theNet s).Diffs.length) 0
    ·rw [if_pos h8,if_pos h8,h8]
    ·rw [if_neg h8,if_neg h8]
   ·rw [getD_set (by omega)]
    split
    ·rename_i h8; rw [h8]; omega
    ·omega
  ·have h:k < (theNet s).Diffs.length:=by have:=of_decide_eq_false h; (try simp only at this); omega
   have h7:=h3 k
   rw [ix_getD 0 (by omega) (by omega),Option.bind_some]
   simp only [Int.toNat_natCast]
   rw [W_eq (by omega) (by omega)]
   refine Gets.some ⟨by simp [h1],fun i=>?_,fun i=>?_⟩
   ·rw [getD_set (by omega)]
    rw [adj1_lt h]
    by_cases h8:i=k
    ·rw [if_pos h8,if_pos h8,h8]
    ·rw [if_neg h8,if_neg h8]
   ·rw [getD_set (by omega)]
    split
    ·rename_i h8; rw [h8]; omega
    ·omega
  ·rw [adj_take hk,hv'.2.1]
   congr 1
   funext i; exact h2 i
  ·have:=h3 i
   have:=hv'.2.2 i
   omega
 refine Gets.bind (P:=fun v=>v.length=NN s∧∀ u:Nat,v.getD u 0=wt.getD u 0 - (if to≠0∧u=to.toNat then c else 0)) (Gets.cond (fun h=>?_) fun h=>Gets.some ?_) fun w1 hw1=>?_
 ·have htz:to≠0:=by simpa using h
  have h1:=hwl (v:=to.toNat) (by omega)
  try simp only
  rw [ix_getD 0 ht0 (by omega),Option.bind_some,W_eq (by omega) (by omega)]
  refine Gets.some ⟨by simp [hwt],fun u=>?_⟩
  rw [getD_set (by omega)]
  by_cases hu:u=to.toNat
  ·rw [if_pos hu,if_pos ⟨htz,hu⟩,hu]
  ·rw [if_neg hu,if_neg (fun h=>hu h.2)]; omega
 ·have htz:to=0:=by simpa using h
  exact⟨hwt,fun u=>by rw [if_neg (fun h=>h.1 htz)]; (try simp only); omega⟩
 refine Gets.bind (P:=fun v=>v.length=NN s∧∀ u:Nat,v.getD u 0=wt.getD u 0 - (if to≠0∧u=to.toNat then c else 0)+(if at_≠0∧u=at_.toNat then c else 0)) (Gets.cond (fun h=>?_) fun h=>Gets.some ?_) fun w2 hw2=>Gets.some ?_
 ·have haz:at_≠0:=by simpa using h
  have h1:=hwl (v:=at_.toNat) (by omega)
  have h2:=hw1.2 at_.toNat
  have h3:-2097152≤w1.getD at_.toNat 0∧w1.getD at_.toNat 0≤2097152:=by rw [h2]; split <;> omega
  rw [ix_getD 0 ha0 (by omega),Option.bind_some,W_eq (by omega) (by omega)]
  refine Gets.some ⟨by simp [hw1.1],fun u=>?_⟩
  rw [getD_set (by omega)]
  by_cases hu:u=at_.toNat
  ·rw [if_pos hu,if_pos (show at_≠0∧u=at_.toNat from ⟨haz,hu⟩),hu,h2]
  ·rw [if_neg hu,if_neg (show ¬ (at_≠0∧u=at_.toNat) from fun h=>hu h.2),hw1.2]; omega
 ·have haz:at_=0:=by simpa using h
  exact⟨hw1.1,fun u=>by rw [if_neg (show ¬ (at_≠0∧u=at_.toNat) from fun h=>h.1 haz),hw1.2]; omega⟩
 have hc2:(to≠0→c≤wt.getD to.toNat 0)∧(at_≠0→c≤- wt.getD at_.toNat 0):=⟨fun h=>by have:=hc1.2.2.1 h; omega,fun h=>by have:=hc1.2.2.2 h; omega⟩
 have hneq:to≠0→at_≠0→to≠at_:=fun h1 h2 h3=>by
  have:=hc2.1 h1
  have:=hc2.2 h2
  rw [h3] at *
  omega
 have hsum:sumN (NN s) (fun v=>(w2.getD v 0).natAbs)+c≤sumN (NN s) (fun v=>(wt.getD v 0).natAbs):=by
  have hpt:∀ v,v < NN s→((w2.getD v 0).natAbs:Int)≤(wt.getD v 0).natAbs+((if v=to.toNat then (if to≠0 then -c else 0) else 0)+(if v=at_.toNat then (if at_≠0 then -c else 0) else 0)):=fun v hv=>by
   rw [hw2.2]
   by_cases h1:to≠0∧v=to.toNat
   ·have b1:=hc2.1 h1.1
    rw [← h1.2] at b1
    rw [if_pos h1,if_pos h1.2,if_pos h1.1]
    by_cases h2:at_≠0∧v=at_.toNat
    ·exact absurd (by omega:to=at_) (hneq h1.1 h2.1)
    ·rw [if_neg h2]
     by_cases h3:v=at_.toNat
     ·rw [if_pos h3,if_neg (fun h=>h2 ⟨h,h3⟩)]; omega
     ·rw [if_neg h3]; omega
   ·rw [if_neg h1]
    have e1:(if v=to.toNat then (if to≠0 then -c else 0) else 0)=0:=by
     by_cases h3:v=to.toNat
     ·rw [if_pos h3,if_neg (fun h=>h1 ⟨h,h3⟩)]
     ·rw [if_neg h3]
    rw [e1]
    by_cases h2:at_≠0∧v=at_.toNat
    ·have b2:=hc2.2 h2.1
     rw [← h2.2] at b2
     rw [if_pos h2,if_pos h2.2,if_pos h2.1]; omega
    ·rw [if_neg h2]
     by_cases h3:v=at_.toNat
     ·rw [if_pos h3,if_neg (fun h=>h2 ⟨h,h3⟩)]; omega
     ·rw [if_neg h3]; omega
  have h1:=sumN_le hpt
  rw [sumN_add,sumN_add,sumN_ite (c:=fun _=>if to≠0 then -c else 0),sumN_ite (c:=fun _=>if at_≠0 then -c else 0),if_pos (show to.toNat < NN s by omega),if_pos (show at_.toNat < NN s by omega)] at h1
  have h2:(if to≠0 then -c else 0)+(if at_≠0 then -c else 0)≤-c:=by
   by_cases htz:to=0
   ·have haz:at_≠0:=fun h=>hne htz (h ▸ hag)
    rw [if_neg (fun h=>h htz),if_pos haz]; omega
   ·rw [if_pos htz]; split <;> omega
  omega
 refine⟨rfl,rfl,hfl'.1,hw2.1,⟨(stS t.long t.has t.last).d,?_⟩,Int.lt_of_lt_of_le (Int.lt_add_of_pos_right _ hc.1) hsum,at_,hag,c,hc.1,hc2.1,hc2.2,hw2.2⟩
 have e1:(fun i=>fl'.getD i 0)=adj (edg (theNet s).Diffs).length U c (fun i=>fl.getD i 0) ks:=by rw [edg_len]; funext i; exact hfl'.2 i
 try simp only
 rw [e1]
 rw [hE] at hi hx hup
 refine FI.step (want:=fun v=>wt.getD v 0) (want':=fun v=>w2.getD v 0) (π:=π) (a:=to.toNat) (b:=at_.toNat) hFI hUn hUm hi hx hall (edg_uv hn.d) hup (by omega) (by rw [edg_len]; exact hc.2.2) (fun v h1 h2=>?_) hsum
 try simp only
 rw [hw2.2]
 have e2:(to≠0∧v=to.toNat)↔to.toNat=v:=⟨fun h=>h.2.symm,fun h=>⟨fun h'=>by omega,h.symm⟩⟩
 have e3:(at_≠0∧v=at_.toNat)↔at_.toNat=v:=⟨fun h=>h.2.symm,fun h=>⟨fun h'=>by omega,h.symm⟩⟩
 simp only [e2,e3]
end Go.Proofs.YthlchdnbokhclaaGreat.Ql
namespace Go.Proofs.YthlchdnbokhclaaGreat.Ql
open Go Go.Proofs.YthlchdnbokhclaaGreat.Bm
theorem sums_nonneg {n:Nat} {wt:List Int}:0≤wsum n wt:=sumN_nonneg fun _ _=>by omega
structure FS (s:Scene) (w:Nat→Int) (B:Int) (fl wt:List Int):Prop where
 l1:fl.length=(theNet s).Diffs.length
 l2:wt.length=NN s
 fi:∃ π,FI (EE s) (NN s) w B (fun i=>fl.getD i 0) (fun v=>wt.getD v 0) π
theorem StepR.fs {s:Scene} {w:Nat→Int} {B:Int} {fl wt:List Int} {to:Int} {gv:List Int} {r:Bool × Use_diffs × List Int} (h:StepR s w B fl wt to gv r):FS s w B r.2.1.flow r.2.1.want:=⟨h.fl,h.wl,h.fi⟩
theorem f342_eq {K:Nat} {u:Use_diffs} (h:u.want.length≤256):Gets (f342 K u) fun r=>r.length≤257∧(∀ i:Int,i∈r↔i=0∨(0 < i∧i < u.want.length∧u.want.getD i.toNat 0 < 0))∧r.length≤u.want.length+1:=by
 unfold f342
 refine Gets.bind (P:=fun r=>(∀ i:Int,i∈r↔i=0∨(0 < i∧i < u.want.length∧u.want.getD i.toNat 0 < 0))∧r.length≤u.want.length+1) (rngL_gets (fun(j:Nat) (r:List Int)=>(∀ i:Int,i∈r↔i=0∨(0 < i∧i < j∧u.want.getD i.toNat 0 < 0))∧r.length≤j+1) (by omega) ⟨fun i=>by simp; omega,by simp⟩ (fun j x v nx hx ⟨hv1,hv2⟩ hnx=>?_) fun v hv=>Gets.some hv) fun v hv=>Gets.some ⟨by omega,hv.1,hv.2⟩
 have hj:=(List.getElem?_eq_some_iff.1 hx).1
 have hxe:u.want.getD j 0=x:=by rw [List.getD_eq_getElem?_getD,hx]; rfl
 refine Gets.bind (P:=fun r=>(∀ i:Int,i∈r↔i=0∨(0 < i∧i < ((j+1:Nat):Int)∧u.want.getD i.toNat 0 < 0))∧r.length≤j+2) (Gets.cond (fun h'=>?_) fun h'=>Gets.some ?_) fun w hw=>hnx _ hw
 ·have h':0 < (j:Int)∧x < 0:=by simpa only [Bool.and_eq_true,decide_eq_true_eq,gt_iff_lt] using h'
  rw [app_eq (by simp; omega),Option.bind_some]
  refine Gets.some ⟨fun i=>?_,by simp; omega⟩
  rw [List.mem_append,List.mem_singleton,hv1]
  constructor
  ·rintro((h1 | h1) | h1)
   ·exact .inl h1
   ·exact .inr ⟨h1.1,by omega,h1.2.2⟩
   ·subst h1; exact .inr ⟨h'.1,by omega,by rw [Int.toNat_natCast,hxe]; exact h'.2⟩
  ·rintro(h1 | ⟨h1,h2,h3⟩)
   ·exact .inl (.inl h1)
   ·by_cases h4:i=j
    ·exact .inr h4
    ·exact .inl (.inr ⟨h1,by omega,h3⟩)
 ·have h':¬ (0 < (j:Int)∧x < 0):=fun h2=>by
   have:(decide ((j:Int) > 0)&&decide (x < 0))=true:=by simp only [Bool.and_eq_true,decide_eq_true_eq]; exact h2
   rw [this] at h'; cases h'
  refine⟨fun i=>?_,by omega⟩
  rw [hv1]
  constructor
  ·rintro(h1 | h1)
   ·exact .inl h1
   ·exact .inr ⟨h1.1,by omega,h1.2.2⟩
  ·rintro(h1 | ⟨h1,h2,h3⟩)
   ·exact .inl h1
   ·by_cases h4:i=j
    ·subst h4; rw [Int.toNat_natCast,hxe] at h3; exact absurd ⟨h1,h3⟩ h'
    ·exact .inr ⟨h1,by omega,h3⟩
abbrev U4:=Int × List Diff × List Int × List Int
def U4ok (s:Scene) (w:Nat→Int) (B:Int) (v:U4):Prop:=v.1=NN s∧v.2.1=(theNet s).Diffs∧FS s w B v.2.2.1 v.2.2.2
def fillQ (s:Scene) (w:Nat→Int) (B:Int) (r:Bool × Use_diffs):Prop:=r.1=true∧r.2.Net=theNet s∧FS s w B r.2.flow r.2.want∧∀ v:Nat,0 < v→v < NN s→r.2.want.getD v 0=0
theorem f303_eq {s:Scene} (hS:SOk s) {fl wt:List Int} {w:Nat→Int} {B:Int} (hF:FS s w B fl wt) (hB:B≤1048576):Gets (f303 4611686018427387904 ⟨theNet s,fl,wt⟩) (fillQ s w B):=by
 have hN:=NN_le hS
 have hs:=lens_sn hS
 have hnet:∀ a b,a=((NN s:Nat):Int)→b=(theNet s).Diffs→(⟨a,b⟩:Net)=theNet s:=fun a b h1 h2=>by rw [h1,h2,← hs]
 have hsm:∀ {fl wt:List Int},FS s w B fl wt→wsum (NN s) wt≤1048576:=fun h=>by
  obtain⟨π,h1⟩:=h.fi
  have h2:=h1.bd 0
  have h3:=h1.f0 0
  unfold wsum
  omega
 unfold f303
 refine Gets.jo (fun v:U4=>U4ok s w B v∧∀ u:Nat,0 < u→u < NN s→v.2.2.2.getD u 0≤0) (fun v hv=>?_) fun j hj=>?_
 ·refine Gets.jo (fun v:U4=>U4ok s w B v∧∀ u:Nat,0 < u→u < NN s→v.2.2.2.getD u 0=0) (fun v hv=>Gets.some ⟨rfl,hnet _ _ hv.1.1 hv.1.2.1,hv.1.2.2,hv.2⟩) fun j1 hj1=>?_
  refine whl_gets (fun v:Int × List Diff × List Int × List Int × Int=>U4ok s w B (v.1,v.2.1,v.2.2.1,v.2.2.2.1)∧1≤v.2.2.2.2∧v.2.2.2.2≤NN s+1∧(∀ u:Nat,0 < u→u < NN s→v.2.2.2.1.getD u 0≤0)∧∀ u:Nat,0 < u→(u:Int) < v.2.2.2.2→u < NN s→v.2.2.2.1.getD u 0=0) (fun v=>(NN s+1 - v.2.2.2.2).toNat) ?_ ⟨hv.1,by simp,by simp only; omega,hv.2,fun u h1 h2=>by simp only at h2; omega⟩ (by simp only; omega)
  rintro⟨a,b,c,d,e⟩ nx ⟨hu,h1,h2,h3,h4⟩ hnx
  simp only at hu h1 h2 h3 h4
  obtain⟨hu1,hu2,hu3⟩:=hu
  simp only at hu1 hu2 hu3
  refine Gets.cond (fun h=>?_) fun h=>hj1 _ ⟨⟨hu1,hu2,hu3⟩,fun u a1 a2=>h4 u a1 ?_ a2⟩
  ·have he:e < NN s:=by have:=of_decide_eq_true h; omega
   refine Gets.jo (fun v:U4=>U4ok s w B v∧(∀ u:Nat,0 < u→u < NN s→v.2.2.2.getD u 0≤0)∧∀ u:Nat,0 < u→(u:Int) < e+1→u < NN s→v.2.2.2.getD u 0=0) (fun v hv=>hnx _ ⟨hv.1,by rw [W_eq (by omega) (by omega)]; simp only; omega,by rw [W_eq (by omega) (by omega)]; simp only; omega,hv.2.1,fun u a1 a2=>hv.2.2 u a1 (by simp only at a2; rw [W_eq (by omega) (by omega)] at a2; exact a2)⟩ (by simp only; rw [W_eq (by omega) (by omega)]; omega)) fun j2 hj2=>?_
   refine whl_gets (fun v:U4=>U4ok s w B v∧(∀ u:Nat,0 < u→u < NN s→v.2.2.2.getD u 0≤0)∧∀ u:Nat,0 < u→(u:Int) < e→u < NN s→v.2.2.2.getD u 0=0) (fun v=>(wsum (NN s) v.2.2.2).toNat) ?_ ⟨⟨hu1,hu2,hu3⟩,h3,h4⟩ (by have:=hsm hu3; simp only; omega)
   rintro⟨a,b,fl,wt⟩ nx2 ⟨⟨k1,k2,k3⟩,k4,k5⟩ hnx2
   simp only at k1 k2 k3 k4 k5
   have k6:=k3.l2
   dsimp only
   rw [ix_getD 0 (by omega) (by omega),Option.bind_some]
   refine Gets.cond (fun h'=>?_) fun h'=>hj2 _ ⟨⟨k1,k2,k3⟩,k4,fun u a1 a2 a3=>?_⟩
   ·have h':wt.getD e.toNat 0 < 0:=of_decide_eq_true h'
    rw [hnet a b k1 k2]
    obtain⟨π,hFI⟩:=k3.fi
    refine Gets.bind (f341_eq hS k3.l1 k6 hFI hB (to:=0) (gv:=[e]) (by omega) (by omega) (by simp) (fun i hi=>by simp at hi; omega) ⟨e,by simp⟩ (fun h=>absurd rfl h) (fun i hi _=>by simp at hi; rw [hi]; exact h') (fun _ h=>by simp at h; omega)) fun r hr=>?_
    obtain⟨ok,u,g⟩:=r
    have hok:ok=true:=hr.ok
    subst hok
    have hfs:=hr.fs
    have hlt:=hr.lt
    obtain⟨q,hq,c,c0,_,c2,c3⟩:=hr.wt
    simp only at hfs hlt c3
    have hq:q=e:=by simpa using hq
    subst hq
    have c2:=c2 (by omega)
    have hun:u.Net=theNet s:=hr.net
    have hnn:=sums_nonneg (n:=NN s) (wt:=u.want)
    refine hnx2 _ ⟨⟨by simp only; rw [hun,hs],by simp only; rw [hun],hfs⟩,fun v a1 a2=>?_,fun v a1 a2 a3=>?_⟩ (by simp only; omega)
    ·simp only
     rw [c3,if_neg (by omega)]
     have:=k4 v a1 a2
     split
     ·rename_i h5; rw [h5.2] at this ⊢; omega
     ·omega
    ·simp only
     rw [c3,if_neg (by omega),if_neg (by omega),k5 v a1 a2 a3]; rfl
   ·have h':¬ wt.getD e.toNat 0 < 0:=of_decide_eq_false h'
    by_cases h5:(u:Int)=e
    ·have:=k4 u a1 a3
     have e1:e.toNat=u:=by omega
     rw [e1] at h'
     simp only
     omega
    ·exact k5 u a1 (by omega) a3
  ·have:¬ e < a:=of_decide_eq_false h
   omega
 ·refine whl_gets (fun v:Int × List Diff × List Int × List Int × Int=>U4ok s w B (v.1,v.2.1,v.2.2.1,v.2.2.2.1)∧1≤v.2.2.2.2∧v.2.2.2.2≤NN s+1∧∀ u:Nat,0 < u→(u:Int) < v.2.2.2.2→u < NN s→v.2.2.2.1.getD u 0≤0) (fun v=>(NN s+1 - v.2.2.2.2).toNat) ?_ ⟨⟨hs,rfl,hF⟩,by simp,by simp only; omega,fun u h1 h2=>by simp only at h2; omega⟩ (by simp only; omega)
  rintro⟨a,b,c,d,e⟩ nx ⟨hu,h1,h2,h4⟩ hnx
  simp only at hu h1 h2 h4
  obtain⟨hu1,hu2,hu3⟩:=hu
  simp only at hu1 hu2 hu3
  refine Gets.cond (fun h=>?_) fun h=>hj _ ⟨⟨hu1,hu2,hu3⟩,fun u a1 a2=>h4 u a1 ?_ a2⟩
  ·have he:e < NN s:=by have:=of_decide_eq_true h; omega
   refine Gets.jo (fun v:U4=>U4ok s w B v∧∀ u:Nat,0 < u→(u:Int) < e+1→u < NN s→v.2.2.2.getD u 0≤0) (fun v hv=>hnx _ ⟨hv.1,by rw [W_eq (by omega) (by omega)]; simp only; omega,by rw [W_eq (by omega) (by omega)]; simp only; omega,fun u a1 a2=>hv.2 u a1 (by simp only at a2; rw [W_eq (by omega) (by omega)] at a2; exact a2)⟩ (by simp only; rw [W_eq (by omega) (by omega)]; omega)) fun j2 hj2=>?_
   refine whl_gets (fun v:U4=>U4ok s w B v∧∀ u:Nat,0 < u→(u:Int) < e→u < NN s→v.2.2.2.getD u 0≤0) (fun v=>(wsum (NN s) v.2.2.2).toNat) ?_ ⟨⟨hu1,hu2,hu3⟩,h4⟩ (by have:=hsm hu3; simp only; omega)
   rintro⟨a,b,fl,wt⟩ nx2 ⟨⟨k1,k2,k3⟩,k5⟩ hnx2
   simp only at k1 k2 k3 k5
   have k6:=k3.l2
   dsimp only
   rw [ix_getD 0 (by omega) (by omega),Option.bind_some]
   refine Gets.cond (fun h'=>?_) fun h'=>hj2 _ ⟨⟨k1,k2,k3⟩,fun u a1 a2 a3=>?_⟩
   ·have h':0 < wt.getD e.toNat 0:=by have:=of_decide_eq_true h'; omega
    rw [hnet a b k1 k2]
    obtain⟨π,hFI⟩:=k3.fi
    refine Gets.bind (f342_eq (u:=⟨theNet s,fl,wt⟩) (by simp only; omega)) fun gv hgv=>?_
    obtain⟨hg1,hg2,hg3⟩:=hgv
    simp only at hg2 hg3
    refine Gets.bind (f341_eq hS k3.l1 k6 hFI hB (to:=e) (gv:=gv) (by omega) he (by omega) (fun i hi=>by rcases (hg2 i).1 hi with h | h <;> omega) ⟨0,(hg2 0).2 (.inl rfl)⟩ (fun _=>h') (fun i hi hne=>by rcases (hg2 i).1 hi with h | h; exact absurd h hne; exact h.2.2) (fun h=>by omega)) fun r hr=>?_
    obtain⟨ok,u,g⟩:=r
    have hok:ok=true:=hr.ok
    subst hok
    have hfs:=hr.fs
    have hlt:=hr.lt
    obtain⟨q,hq,c,c0,c1,c2,c3⟩:=hr.wt
    simp only at hfs hlt c3
    have c1:=c1 (by omega)
    have hun:u.Net=theNet s:=hr.net
    have hnn:=sums_nonneg (n:=NN s) (wt:=u.want)
    refine hnx2 _ ⟨⟨by simp only; rw [hun,hs],by simp only; rw [hun],hfs⟩,fun v a1 a2 a3=>?_⟩ (by simp only; omega)
    simp only
    rw [c3,if_neg (by omega)]
    have:=k5 v a1 a2 a3
    split
    ·rename_i h5
     have:=c2 h5.1
     rw [← h5.2] at this
     omega
    ·omega
   ·have h':¬ 0 < wt.getD e.toNat 0:=by have:=of_decide_eq_false h'; omega
    by_cases h5:(u:Int)=e
    ·have e1:e.toNat=u:=by omega
     rw [e1] at h'
     simp only
     omega
    ·exact k5 u a1 (by omega) a3
  ·have:¬ e < a:=of_decide_eq_false h
   omega
end Go.Proofs.YthlchdnbokhclaaGreat.Ql
namespace Go.Proofs.YthlchdnbokhclaaGreat.Ql
open Go Go.Proofs.YthlchdnbokhclaaGreat.Bm
theorem sumE_append {g:Nat→Ed→Int}:∀ {k:Nat} {E F:List Ed},sumE g k (E++F)=sumE g k E+sumE g (k+E.length) F
 | k,[],F=>by simp [sumE]
 | k,e::E,F=>by
  simp only [List.cons_append,sumE]
  rw [sumE_append (k:=k+1),List.length_cons,show k+1+E.length=k+(E.length+1) by omega]
  omega
theorem sumE_zero {g:Nat→Ed→Int} (h:∀ k e,g k e=0):∀ {k:Nat} {E:List Ed},sumE g k E=0
 | k,[]=>rfl
 | k,e::E=>by simp only [sumE]; rw [h,sumE_zero h]; rfl
theorem inn_zero {E:List Ed} {x:Nat}:inn E (fun _=>0) x=0:=sumE_zero fun k e=>by simp
theorem mul_bd {a b m n:Int} (h0:0≤a) (h1:a≤m) (h2:-n≤b) (h3:b≤n) (hm:0≤m) (hn:0≤n):-(m*n)≤a*b∧a*b≤m*n:=by
 have e1:=Int.mul_le_mul_of_nonneg_left h3 h0
 have e2:=Int.mul_le_mul_of_nonneg_right h1 hn
 have e3:=Int.mul_le_mul_of_nonneg_left h2 h0
 rw [Int.mul_neg] at e3
 omega
theorem f236_eq {K:Nat} {n:Net} (hn:Mild n) {fl:List Int} (hl:fl.length=n.Diffs.length) (hf:∀ i,0≤fl.getD i 0∧fl.getD i 0≤1048576):Gets (f236 K n fl) fun r=>r=costE (edg n.Diffs) (fun i=>fl.getD i 0)∧-4611686018427387904≤r∧r≤4611686018427387904:=by
 have hll:=hn.l
 unfold f236
 refine Gets.bind (P:=fun r=>r=costE (edg n.Diffs) (fun i=>fl.getD i 0)∧-4611686018427387904≤r∧r≤4611686018427387904) (rngL_gets (fun(j:Nat) (r:Int)=>r=costE (edg (n.Diffs.take j)) (fun i=>fl.getD i 0)∧-((j:Int)*1125899906842624)≤r∧r≤(j:Int)*1125899906842624) (by omega) ⟨rfl,by simp,by simp⟩ (fun j x v nx hx ⟨h1,h2,h3⟩ hnx=>?_) fun v hv=>Gets.some ⟨by rw [hv.1,List.take_length],by omega,by omega⟩) fun r hr=>Gets.some hr
 have hj:=(List.getElem?_eq_some_iff.1 hx).1
 have hd:=hn.d x (List.mem_of_getElem? hx)
 have hb:=mul_bd (hf j).1 (hf j).2 (show -1073741824≤x.Most from hd.m0) hd.m1 (by omega) (by omega)
 rw [ix_getD 0 (by omega) (by omega),Option.bind_some]
 simp only [Int.toNat_natCast]
 rw [W_eq (n:=_*_) (by omega) (by omega),W_eq (by omega) (by omega)]
 refine hnx _ ⟨?_,by rw [Int.natCast_add,Int.add_mul]; omega,by rw [Int.natCast_add,Int.add_mul]; omega⟩
 rw [List.take_succ,hx,h1]
 simp only [edg,List.map_append,costE]
 rw [sumE_append]
 simp only [Option.toList_some,List.map_cons,List.map_nil,sumE,E1,List.length_map,List.length_take]
 rw [show 0+min j n.Diffs.length=j by omega]
 omega
structure WOk (s:Scene) (w:List Int):Prop where
 len:w.length=NN s
 bd:∀ x∈w,-4096≤x∧x≤4096
 z:w.getD 0 0=0
theorem WOk.at {s:Scene} {w:List Int} (h:WOk s w) (v:Nat):-4096≤w.getD v 0∧w.getD v 0≤4096:=by
 by_cases hv:v < w.length
 ·exact h.bd _ (getD_mem hv)
 ·rw [List.getD_eq_getElem?_getD,List.getElem?_eq_none (by omega)]; simp
theorem sumN_const {n:Nat} {c:Int}:sumN n (fun _=>c)=n*c:=by
 induction n with
 | zero=>simp [sumN]
 | succ n ih=>simp only [sumN,ih]; rw [Int.natCast_add,Int.add_mul]; simp
theorem WOk.sum {s:Scene} (hS:SOk s) {w:List Int} (h:WOk s w):wsum (NN s) w≤1048576:=by
 have h1:wsum (NN s) w≤sumN (NN s) (fun _=>4096):=sumN_le fun v _=>by have:=h.at v; omega
 rw [sumN_const] at h1
 have:=NN_le hS
 omega
theorem f294_eq {K:Nat} {s:Scene} (hS:SOk s) {w:List Int} (h:WOk s w):f294 K (theNet s) w=some true:=by
 have hN:=NN_le hS
 have:Gets (f294 K (theNet s) w) (·=true):=by
  unfold f294
  rw [show ((w.length:Int)==(theNet s).Nodes)=true by rw [lens_sn hS,h.len]; simp]
  refine Gets.bind (P:=(·=true)) ?_ fun r hr=>Gets.some hr
  unfold f292 f337
  refine Gets.bind (cont_gets (fun a=>!(decide (a≥-4096)&&decide (a≤4096))) (by have:=h.len; omega) (fun a _=>by simp only [f338,f282,Option.bind_some])) fun r hr=>Gets.some ?_
  rw [Bool.not_eq_true',← Bool.not_eq_true,hr]
  rintro⟨x,hx,h2⟩
  have:=h.bd x hx
  simp at h2; omega
 exact this.out
theorem FI.start {s:Scene} {w:List Int} (h:WOk s w) {π:Nat→Int} (hp:Pot (EE s) π):FI (EE s) (NN s) (fun v=>w.getD v 0) (wsum (NN s) w) (fun _=>0) (fun v=>w.getD v 0) π:=
 ⟨fun _=>Int.le_refl _,fun v _ _=>by rw [inn_zero]; omega,hp,fun i e _ h=>by omega,fun i=>by unfold wsum; omega⟩
theorem zeros_get {m i:Nat}:(List.replicate m (0:Int)).getD i 0=0:=by
 rw [List.getD_eq_getElem?_getD,List.getElem?_replicate]; split <;> rfl
def bestQ (s:Scene) (w:List Int) (r:Option Use_diffs × Bool × Int):Prop:=
 (¬ Fea (theNet s).Diffs∧r=(none,false,41))∨(Fea (theNet s).Diffs∧∃ u,r=(some u,true,0)∧u.Net=theNet s∧FS s (fun v=>w.getD v 0) (wsum (NN s) w) u.flow u.want∧∀ v:Nat,0 < v→v < NN s→u.want.getD v 0=0)
theorem f235_eq {s:Scene} (hS:SOk s) {w:List Int} (h:WOk s w):Gets (f235 4611686018427387904 (theNet s) w) (bestQ s w):=by
 have hN:=NN_le hS
 have hs:=lens_sn hS
 have hm:=lay_len hS
 have hml:(theNet s).Diffs.length=(lay s).length:=by simp [theNet]
 unfold f235
 rw [f294_eq hS h,Option.bind_some,f223_1 (net_mild hS),Option.bind_some]
 simp only [if_true,bne_self_eq_false,cond_false]
 refine Gets.bind (solve_mild (n:=theNet s) (net_mild hS) rfl rfl) fun r hr=>?_
 obtain⟨x,t,bad⟩:=r
 refine Gets.cond (fun h'=>Gets.some (.inl ?_)) fun h'=>?_
 ·have h':0≤bad:=by simpa using h'
  rcases hr with ⟨h2,_⟩ | ⟨_,_,h2,_⟩
  ·simp only at h2; omega
  ·exact⟨h2,rfl⟩
 ·have h':¬ 0≤bad:=by simpa using h'
  rcases hr with ⟨_,_,hp,_⟩ | ⟨h2,_⟩
  ·rw [mk_eq (by omega) (by omega),Option.bind_some]
   have e1:f85 4611686018427387904 w=some w:=by unfold f85; rw [app_eq (by simp [h.len]; omega)]; rfl
   rw [e1,Option.bind_some]
   have hF:FS s (fun v=>w.getD v 0) (wsum (NN s) w) (List.replicate ((theNet s).Diffs.length:Int).toNat 0) w:=by
    refine⟨by simp,h.len,fun v=>x.getD v 0,?_⟩
    simp only [zeros_get]
    exact FI.start h hp
   refine Gets.bind (f303_eq hS hF (h.sum hS)) fun r hr=>?_
   obtain⟨ok,u⟩:=r
   obtain⟨h3,h4,h5,h6⟩:=hr
   simp only at h3
   subst h3
   exact Gets.some (.inr ⟨⟨_,hp⟩,u,rfl,h4,h5,h6⟩)
  ·simp only at h2; omega
def IsMax (s:Scene) (w:Nat→Int) (m:Int):Prop:=(∀ y,Pot (EE s) y→y 0=0→dot (NN s) w y≤m)∧∃ y,Pot (EE s) y∧y 0=0∧dot (NN s) w y=m
theorem FS.max {s:Scene} (hS:SOk s) {w:Nat→Int} {B:Int} {fl wt:List Int} (h:FS s w B fl wt) (hz:∀ v:Nat,0 < v→v < NN s→wt.getD v 0=0):IsMax s w (costE (EE s) (fun i=>fl.getD i 0)):=by
 obtain⟨π,hFI⟩:=h.fi
 have hE:=edg_uv (net_mild hS).d
 refine⟨(hFI.done hE hz).1,fun v=>π v - π 0,fun e he=>?_,by simp,hFI.attained hE hz⟩
 have:=hFI.pot e he
 simp only; omega
theorem FS.f_le {s:Scene} {w:Nat→Int} {B:Int} {fl wt:List Int} (h:FS s w B fl wt) (hB:B≤1048576) (i:Nat):0≤fl.getD i 0∧fl.getD i 0≤1048576:=by
 obtain⟨π,hFI⟩:=h.fi
 have:=hFI.f_le i
 omega
def mostQ (s:Scene) (w:List Int) (r:Int × Bool × Int):Prop:=
 (¬ Fea (theNet s).Diffs∧r=(0,false,41))∨(Fea (theNet s).Diffs∧r.2=(true,0)∧IsMax s (fun v=>w.getD v 0) r.1∧-4611686018427387904≤r.1∧r.1≤4611686018427387904)
theorem f121_eq {s:Scene} (hS:SOk s) {w:List Int} (h:WOk s w):Gets (f121 4611686018427387904 (theNet s) w) (mostQ s w):=by
 unfold f121
 refine Gets.bind (f235_eq hS h) fun r hr=>?_
 rcases hr with ⟨h1,h2⟩ | ⟨h1,u,h2,h3,h4,h5⟩
 ·subst h2; exact Gets.some (.inl ⟨h1,rfl⟩)
 ·subst h2
  simp only [bne_self_eq_false,Bool.not_true,Bool.or_self,cond_false,Option.bind_some]
  refine Gets.bind (f236_eq (net_mild hS) h4.l1 (h4.f_le (h.sum hS))) fun r hr=>Gets.some (.inr ⟨h1,rfl,?_,hr.2⟩)
  show IsMax s _ r
  rw [hr.1]
  exact h4.max hS h5
end Go.Proofs.YthlchdnbokhclaaGreat.Ql
namespace Go.Proofs.YthlchdnbokhclaaGreat.Ql
open Go Go.Proofs.YthlchdnbokhclaaGreat.Bm
theorem node_inj {s:Scene} {c c' d d':Int} (h0:0≤c) (h1:c < s.Basin.Cells.length) (h2:0≤c') (h3:c' < s.Basin.Cells.length) (h:node s c d=node s c' d'):c=c'∧d=d':=by
 unfold node at h
 rcases Int.lt_trichotomy d d' with h4 | h4 | h4
 ·have:=mulc (n:=s.Basin.Cells.length) (by omega) h4; omega
 ·subst h4; exact⟨by omega,rfl⟩
 ·have:=mulc (n:=s.Basin.Cells.length) (by omega) h4; omega
theorem cellAt_inj {b:Basin} {a c:Int} (ha:0≤cellAt b a) (hc:0≤cellAt b c) (h:cellAt b a=cellAt b c):a=c:=by
 obtain⟨x,h1,h2⟩:=cellAt_spec ha
 obtain⟨y,h3,h4⟩:=cellAt_spec hc
 rw [h,h3] at h1; cases h1
 omega
theorem dayAt_inj {ds:List Int} {a c:Int} (ha:0≤dayAt ds a) (hc:0≤dayAt ds c) (h:dayAt ds a=dayAt ds c):a=c:=by
 have h1:=dayAt_spec ha
 have h2:=dayAt_spec hc
 rw [h,h2] at h1; cases h1; rfl
structure PerOk (s:Scene) (l:List Int) (a b:Int):Prop where
 cls:ClsOk s l
 d1:0≤dayAt s.Days a
 d2:0≤dayAt s.Days b
 lt:a < b
def areaOf (s:Scene) (no:Int):Int:=(cellOf s.Basin (cellAt s.Basin no)).Area
def sgn (most:Bool) (a:Int):Int:=if most then a else -a
def setW (s:Scene) (a b:Int) (most:Bool) (w:List Int) (no:Int):List Int:=(w.set (sightNode s no a).toNat (sgn most (areaOf s no))).set (sightNode s no b).toNat (-(sgn most (areaOf s no)))
def lostW (s:Scene) (l:List Int) (a b:Int) (most:Bool):List Int:=l.foldl (setW s a b most) (List.replicate (NN s) 0)
def lossL (s:Scene) (l:List Int) (a b:Int) (y:Nat→Int):Int:=(l.map fun no=>areaOf s no*(y (sightNode s no a).toNat - y (sightNode s no b).toNat)).sum
theorem area_ok {s:Scene} (hS:SOk s) {no:Int} (h:0≤cellAt s.Basin no):1≤areaOf s no∧areaOf s no≤4096:=by
 obtain⟨_,_,_,_,_,_,h1,h2⟩:=cellOf_ok hS.b h cellAt_lt
 exact⟨h1,h2⟩
theorem dot_set {n k:Nat} {w:List Int} {x:Int} {y:Nat→Int} (hk:k < n) (hw:w.length=n) (h0:w.getD k 0=0):dot n (fun v=>(w.set k x).getD v 0) y=dot n (fun v=>w.getD v 0) y+x*y k:=by
 unfold dot
 rw [sumN_upd (k:=k) (h:=fun v=>w.getD v 0*y v) hk (fun i hi=>by simp only; rw [getD_set (by omega),if_neg hi])]
 simp only
 rw [getD_set (by omega),if_pos rfl,h0]
 omega
structure LW (s:Scene) (l:List Int) (a b:Int) (most:Bool) (w:List Int):Prop where
 len:w.length=NN s
 bd:∀ v,-4096≤w.getD v 0∧w.getD v 0≤4096
 z:w.getD 0 0=0
 at_:∀ v,w.getD v 0≠0→∃ no∈l,v=(sightNode s no a).toNat∨v=(sightNode s no b).toNat
 dot:∀ y,dot (NN s) (fun v=>w.getD v 0) y=sgn most (lossL s l a b y)
theorem sgn_add {m:Bool} {x y:Int}:sgn m (x+y)=sgn m x+sgn m y:=by unfold sgn; split <;> omega
theorem lw_step {s:Scene} (hS:SOk s) {l:List Int} {a b:Int} {most:Bool} {w:List Int} (h:LW s l a b most w) {no:Int} (hd1:0≤dayAt s.Days a) (hd2:0≤dayAt s.Days b) (hab:a≠b) (hc:0≤cellAt s.Basin no) (hl:∀ x∈l,0≤cellAt s.Basin x) (hne:no∉l):LW s (l++[no]) a b most (setW s a b most w no):=by
 have n1:=sightNode_in hc hd1
 have n2:=sightNode_in hc hd2
 have hA:=area_ok hS hc
 have hlen:=h.len
 have hne12:(sightNode s no a).toNat≠(sightNode s no b).toNat:=fun he=>by
  have:=node_inj hc cellAt_lt hc cellAt_lt (show sightNode s no a=sightNode s no b by omega)
  exact hab (dayAt_inj hd1 hd2 this.2)
 have hfree:∀ d,(d=a∨d=b)→w.getD (sightNode s no d).toNat 0=0:=fun d hd=>by
  refine Classical.byContradiction fun hz=>?_
  obtain⟨x,hx,h1⟩:=h.at_ _ hz
  have hdd:0≤dayAt s.Days d:=by rcases hd with rfl | rfl <;> assumption
  have hxx:=hl x hx
  have key:∀ e,0≤dayAt s.Days e→(sightNode s no d).toNat=(sightNode s x e).toNat→False:=fun e he h2=>by
   have m1:=sightNode_in hc hdd
   have m2:=sightNode_in hxx he
   have:=node_inj hc cellAt_lt hxx cellAt_lt (show sightNode s no d=sightNode s x e by omega)
   exact hne (cellAt_inj hc hxx this.1 ▸ hx)
  rcases h1 with h1 | h1
  ·exact key a hd1 h1
  ·exact key b hd2 h1
 have hs4:-4096≤sgn most (areaOf s no)∧sgn most (areaOf s no)≤4096:=by unfold sgn; split <;> omega
 refine⟨by simp [setW,hlen],fun v=>?_,?_,fun v hv=>?_,fun y=>?_⟩
 ·unfold setW
  rw [getD_set (by simp; omega),getD_set (by omega)]
  have:=h.bd v
  split
  ·omega
  ·split <;> omega
 ·unfold setW
  rw [getD_set (by simp; omega),getD_set (by omega),if_neg (by omega),if_neg (by omega)]
  exact h.z
 ·unfold setW at hv
  rw [getD_set (by simp; omega),getD_set (by omega)] at hv
  by_cases h1:v=(sightNode s no b).toNat
  ·exact⟨no,by simp,.inr h1⟩
  ·by_cases h2:v=(sightNode s no a).toNat
   ·exact⟨no,by simp,.inl h2⟩
   ·rw [if_neg h1,if_neg h2] at hv
    obtain⟨x,hx,h3⟩:=h.at_ v hv
    exact⟨x,List.mem_append_left _ hx,h3⟩
 ·unfold setW
  rw [dot_set (by omega) (by simp [hlen]) (by rw [getD_set (by omega),if_neg (Ne.symm hne12)]; exact hfree b (.inr rfl)),dot_set (by omega) hlen (hfree a (.inl rfl)),h.dot y]
  have e1:lossL s (l++[no]) a b y=lossL s l a b y+areaOf s no*(y (sightNode s no a).toNat - y (sightNode s no b).toNat):=by
   unfold lossL; simp [List.sum_append]
  rw [e1,sgn_add]
  have e2:sgn most (areaOf s no*(y (sightNode s no a).toNat - y (sightNode s no b).toNat))=sgn most (areaOf s no)*y (sightNode s no a).toNat+-(sgn most (areaOf s no))*y (sightNode s no b).toNat:=by
   unfold sgn
   split
   ·rw [Int.mul_sub,Int.neg_mul]; omega
   ·rw [Int.mul_sub,Int.neg_mul,Int.neg_neg]; omega
  rw [e2]; omega
theorem Rise.nodup_take {l:List Int} (h:Rise l) {k:Nat} {x:Int} (hx:l[k]?=some x):x∉l.take k:=by
 intro hm
 obtain⟨j,hj⟩:=List.mem_iff_getElem?.1 hm
 have hlt:=(List.getElem?_eq_some_iff.1 hj).1
 simp only [List.length_take] at hlt
 rw [List.getElem?_take_of_lt (by omega)] at hj
 have:=h.inj hj hx
 omega
theorem lw_zero {s:Scene} (hS:SOk s) {a b:Int} {most:Bool}:LW s [] a b most (List.replicate (NN s) 0):=by
 refine⟨by simp,fun v=>by rw [zeros_get]; omega,zeros_get,fun v h=>absurd zeros_get h,fun y=>?_⟩
 simp only [zeros_get,dot,lossL,Int.zero_mul,sumN_zero]
 unfold sgn; split <;> simp
theorem lw_take {s:Scene} (hS:SOk s) {l:List Int} {a b:Int} {most:Bool} (h:PerOk s l a b):∀ k,k≤l.length→LW s (l.take k) a b most ((l.take k).foldl (setW s a b most) (List.replicate (NN s) 0))
 | 0,_=>by simpa using lw_zero hS
 | k+1,hk=>by
  have ih:=lw_take hS h (most:=most) k (by omega)
  have hx:l[k]?=some l[k]:=List.getElem?_eq_getElem (by omega)
  have:=lw_step hS ih (no:=l[k]) h.d1 h.d2 (by have:=h.lt; omega) (h.cls.all _ (List.mem_of_getElem? hx)) (fun x hx=>h.cls.all x (List.mem_of_mem_take hx)) (h.cls.rise.nodup_take hx)
  rw [List.take_succ,hx,Option.toList_some,List.foldl_append]
  exact this
theorem lw_all {s:Scene} (hS:SOk s) {l:List Int} {a b:Int} {most:Bool} (h:PerOk s l a b):LW s l a b most (lostW s l a b most):=by
 have:=lw_take hS h (most:=most) l.length (Nat.le_refl _)
 rwa [List.take_length] at this
theorem LW.wok {s:Scene} {l:List Int} {a b:Int} {most:Bool} {w:List Int} (h:LW s l a b most w):WOk s w:=
 ⟨h.len,fun x hx=>by
  obtain⟨i,hi⟩:=List.mem_iff_getElem?.1 hx
  have:=h.bd i
  rw [List.getD_eq_getElem?_getD,hi] at this
  exact this,h.z⟩
def lostQ (s:Scene) (l:List Int) (a b:Int) (most:Bool) (r:Option Laid_basin × List Int × Int):Prop:=
 (¬ SOk s∧r=(none,[],chk s))∨(SOk s∧¬ PerOk s l a b∧r=(none,[],1))∨(SOk s∧PerOk s l a b∧r=(some (LB s (theNet s).Nodes (lay s)),lostW s l a b most,0))
theorem f120_eq {s:Scene} (hL:Lens s) {l:List Int} {a b:Int} {most:Bool} (hl:l.length≤9223372036854775807):Gets (f120 4611686018427387904 s l a b most) (lostQ s l a b most):=by
 unfold f120
 refine Gets.bind (f113_eq hL hl) fun r hr=>?_
 obtain⟨sp,e⟩:=r
 rcases hr with ⟨h1,h2⟩ | ⟨h1,h2,h3⟩ | ⟨h1,h2,h3,h4⟩
 ·cases h2
  dsimp only
  rw [show (chk s != 0)=true by simpa using chk_ne.2 h1]
  exact Gets.some (.inl ⟨h1,rfl⟩)
 ·cases h3
  exact Gets.some (.inr (.inl ⟨h1,fun h=>h2 ⟨h.cls,h.d1⟩,rfl⟩))
 ·cases h4
  simp only [bne_self_eq_false,cond_false]
  refine Gets.bind (f113_eq hL hl) fun r hr=>?_
  obtain⟨sp2,e⟩:=r
  rcases hr with ⟨k1,_⟩ | ⟨_,k2,k3⟩ | ⟨_,_,k3,k4⟩
  ·exact absurd h1 k1
  ·cases k3
   exact Gets.some (.inr (.inl ⟨h1,fun h=>k2 ⟨h.cls,h.d2⟩,rfl⟩))
  ·cases k4
   simp only [bne_self_eq_false,cond_false]
   refine Gets.cond (fun h=>Gets.some (.inr (.inl ⟨h1,fun h'=>?_,rfl⟩))) fun h=>?_
   ·have:=of_decide_eq_true h; have:=h'.lt; omega
   have hlt:a < b:=by have:=of_decide_eq_false h; omega
   have hP:PerOk s l a b:=⟨h2,h3,k3,hlt⟩
   have hN:=NN_le h1
   have hs:=lens_sn h1
   have hll:=h2.len
   have hc2:=h1.b.c2
   refine Gets.bind (f102_eq _ s h1) fun lb hlb=>?_
   subst hlb
   rw [show (LB s (theNet s).Nodes (lay s)).net.Nodes=(NN s:Int) from hs,mk_eq (by omega) (by omega),Option.bind_some]
   refine Gets.bind (P:=(·=lostW s l a b most)) (rngL_gets (fun(k:Nat) (v:List Int)=>v=(l.take k).foldl (setW s a b most) (List.replicate (NN s) 0)) (by simp [spots]; omega) rfl (fun k p v nx hp hv hnx=>?_) fun v hv=>Gets.some ?_) fun v hv=>Gets.some (.inr (.inr ⟨h1,hP,by rw [hv]⟩))
   ·have hp2:=hp
    simp only [spots,List.getElem?_map,Option.map_eq_some_iff] at hp
    obtain⟨no,hno,rfl⟩:=hp
    have hk:=(List.getElem?_eq_some_iff.1 hno).1
    have hw:=lw_take h1 hP (most:=most) k (by omega)
    rw [← hv] at hw
    have hwl:=hw.len
    have hc:=h2.all no (List.mem_of_getElem? hno)
    have hA:=area_ok h1 hc
    obtain⟨cc,e1,e2⟩:=cellAt_spec hc
    have n1:=sightNode_in hc h3
    have n2:=sightNode_in hc k3
    have hat:=at_le h1
    have c1:ix s.Basin.Cells (cellAt s.Basin no)=some (cellOf s.Basin (cellAt s.Basin no)):=(cellOf_eq hc e1).1
    have c2:ix (spots s l b) (k:Int)=some ⟨cellAt s.Basin no,dayAt s.Days b⟩:=ix_nat (by simp [spots,hno])
    simp only [c1,Option.bind_some,Lt]
    have e3:(bif !most then W (-(cellOf s.Basin (cellAt s.Basin no)).Area) else (cellOf s.Basin (cellAt s.Basin no)).Area)=sgn most (areaOf s no):=by
     cases most
     ·simp only [Bool.not_false,cond_true]
      have:1≤(cellOf s.Basin (cellAt s.Basin no)).Area∧(cellOf s.Basin (cellAt s.Basin no)).Area≤4096:=hA
      rw [W_eq (by omega) (by omega)]; rfl
     ·rfl
    have hs4:-4096≤sgn most (areaOf s no)∧sgn most (areaOf s no)≤4096:=by unfold sgn; split <;> omega
    rw [e3]
    have e4:f202 4611686018427387904 (LB s (theNet s).Nodes (lay s)) (cellAt s.Basin no) (dayAt s.Days a)=some (sightNode s no a):=f202_eq (s:=s) rfl h1.b h3 (hat.2 _) hc (hat.1 _)
    have e5:f202 4611686018427387904 (LB s (theNet s).Nodes (lay s)) (cellAt s.Basin no) (dayAt s.Days b)=some (sightNode s no b):=f202_eq (s:=s) rfl h1.b k3 (hat.2 _) hc (hat.1 _)
    simp only [e4,Option.bind_some]
    rw [ix_getD 0 (by omega) (by omega),Option.bind_some,c2,Option.bind_some]
    simp only [e5,Option.bind_some]
    rw [ix_getD 0 (by omega) (by simp; omega),Option.bind_some,W_eq (by omega) (by omega)]
    refine hnx _ ?_
    rw [List.take_succ,hno,Option.toList_some,List.foldl_append,← hv]
    rfl
   ·rw [hv]
    simp only [spots,List.length_map,List.take_length]
    rfl
structure IsLoss (s:Scene) (l:List Int) (a b:Int) (lo hi:Int):Prop where
 all:∀ y,Pot (EE s) y→y 0=0→lo≤lossL s l a b y∧lossL s l a b y≤hi
 lo:∃ y,Pot (EE s) y∧y 0=0∧lossL s l a b y=lo
 hi:∃ y,Pot (EE s) y∧y 0=0∧lossL s l a b y=hi
theorem loss_of {s:Scene} (hS:SOk s) {l:List Int} {a b:Int} (hP:PerOk s l a b) {x y:Int} (hx:IsMax s (fun v=>(lostW s l a b false).getD v 0) x) (hy:IsMax s (fun v=>(lostW s l a b true).getD v 0) y):IsLoss s l a b (-x) y:=by
 obtain⟨h1,p,h2,h3,h4⟩:=hx
 obtain⟨k1,q,k2,k3,k4⟩:=hy
 have d0:=(lw_all hS hP (most:=false)).dot
 have d1:=(lw_all hS hP (most:=true)).dot
 simp only [sgn,if_true,Bool.false_eq_true,if_false] at d0 d1
 refine⟨fun z hz hz0=>?_,⟨p,h2,h3,?_⟩,⟨q,k2,k3,?_⟩⟩
 ·have a1:=h1 z hz hz0
  have a2:=k1 z hz hz0
  rw [d0] at a1; rw [d1] at a2
  omega
 ·rw [d0] at h4; omega
 ·rw [d1] at k4; exact k4
def losQ (s:Scene) (l:List Int) (a b:Int) (r:Span × Int):Prop:=
 (¬ SOk s∧r=(⟨0,0⟩,chk s))∨(SOk s∧¬ PerOk s l a b∧r=(⟨0,0⟩,1))∨(SOk s∧PerOk s l a b∧¬ Fea (theNet s).Diffs∧r=(⟨0,0⟩,41))∨(SOk s∧PerOk s l a b∧Fea (theNet s).Diffs∧r.2=0∧IsLoss s l a b r.1.Lo r.1.Hi)
theorem f40_eq {s:Scene} (hL:Lens s) {l:List Int} {a b:Int} (hl:l.length≤9223372036854775807):Gets (f40 4611686018427387904 s l a b) (losQ s l a b):=by
 unfold f40
 refine Gets.bind (f120_eq hL hl) fun r hr=>?_
 rcases hr with ⟨h1,h2⟩ | ⟨h1,h2,h3⟩ | ⟨h1,hP,h3⟩
 ·subst h2
  dsimp only
  rw [show (chk s != 0)=true by simpa using chk_ne.2 h1]
  exact Gets.some (.inl ⟨h1,rfl⟩)
 ·subst h3
  exact Gets.some (.inr (.inl ⟨h1,h2,rfl⟩))
 ·subst h3
  simp only [bne_self_eq_false,cond_false,Option.bind_some]
  refine Gets.bind (f121_eq h1 (lw_all h1 hP).wok) fun r hr=>?_
  obtain⟨x,is,e⟩:=r
  rcases hr with ⟨h4,h5⟩ | ⟨h4,h5,h6,h7⟩
  ·cases h5
   exact Gets.some (.inr (.inr (.inl ⟨h1,hP,h4,rfl⟩)))
  ·simp only [Prod.mk.injEq] at h5 h6 h7
   obtain⟨rfl,rfl⟩:=h5
   simp only [bne_self_eq_false,cond_false]
   refine Gets.bind (f120_eq hL hl) fun r hr=>?_
   rcases hr with ⟨k1,_⟩ | ⟨_,k2,_⟩ | ⟨_,_,k3⟩
   ·exact absurd h1 k1
   ·exact absurd hP k2
   ·subst k3
    simp only [bne_self_eq_false,cond_false,Option.bind_some]
    refine Gets.bind (f121_eq h1 (lw_all h1 hP).wok) fun r hr=>?_
    obtain⟨y,is',e'⟩:=r
    rcases hr with ⟨k4,_⟩ | ⟨_,k5,k6,k7⟩
    ·exact absurd h4 k4
    ·simp only [Prod.mk.injEq] at k5 k6 k7
     obtain⟨rfl,rfl⟩:=k5
     simp only [bne_self_eq_false,cond_false]
     rw [W_eq (by omega) (by omega)]
     exact Gets.some (.inr (.inr (.inr ⟨h1,hP,h4,rfl,loss_of h1 hP h6 k6⟩)))
end Go.Proofs.YthlchdnbokhclaaGreat.Ql
namespace Go.Proofs.YthlchdnbokhclaaGreat.Ql
open Go Go.Proofs.YthlchdnbokhclaaGreat.Bm
def volL (s:Scene) (l:List Int) (d:Int) (y:Nat→Int):Int:=(l.map fun no=>areaOf s no*y (sightNode s no d).toNat).sum
theorem vol_mono {s:Scene} (hS:SOk s) {d:Int} {x y:Nat→Int}:∀ {l:List Int},(∀ no∈l,0≤cellAt s.Basin no)→(∀ no∈l,x (sightNode s no d).toNat≤y (sightNode s no d).toNat)→volL s l d x≤volL s l d y
 | [],_,_=>Int.le_refl _
 | no::l,hc,h=>by
  have ih:=vol_mono hS (x:=x) (y:=y) (l:=l) (fun n hn=>hc n (List.mem_cons_of_mem _ hn)) (fun n hn=>h n (List.mem_cons_of_mem _ hn))
  have h1:=area_ok hS (hc no (by simp))
  have h2:=Int.mul_le_mul_of_nonneg_left (h no (by simp)) (show 0≤areaOf s no by omega)
  simp only [volL,List.map_cons,List.sum_cons] at ih ⊢
  omega
theorem vol_take {s:Scene} {d:Int} {y:Nat→Int} {l:List Int} {j:Nat} {no:Int} (h:l[j]?=some no):volL s (l.take (j+1)) d y=volL s (l.take j) d y+areaOf s no*y (sightNode s no d).toNat:=by
 rw [List.take_succ,h]
 simp [volL,List.sum_append]
theorem al_bd {s:Scene} (hS:SOk s) {y:Nat→Int} (hp:Pot (EE s) y) (hz:y 0=0) {no d:Int} (hc:0≤cellAt s.Basin no) (hd:0≤dayAt s.Days d):0≤y (sightNode s no d).toNat∧y (sightNode s no d).toNat≤65536:=by
 have h1:=sightNode_in hc hd
 have h2:=pot_bd hS hp (v:=(sightNode s no d).toNat) (by omega)
 have:=hS.b.d
 omega
theorem prod_bd {a x:Int} (h0:1≤a) (h1:a≤4096) (h2:0≤x) (h3:x≤65536):0≤a*x∧a*x≤268435456:=mul_le (a:=a) (b:=x) (m:=4096) (n:=65536) (by omega) h1 h2 h3
def valQ (s:Scene) (l:List Int) (d:Int) (r:Span × Int):Prop:=
 (¬ SOk s∧r=(⟨0,0⟩,chk s))∨(SOk s∧¬ (ClsOk s l∧0≤dayAt s.Days d)∧r=(⟨0,0⟩,1))∨(SOk s∧(ClsOk s l∧0≤dayAt s.Days d)∧¬ Fea (theNet s).Diffs∧r=(⟨0,0⟩,41)) ∨
 (SOk s∧(ClsOk s l∧0≤dayAt s.Days d)∧Fea (theNet s).Diffs∧∃ x y,IsBot (NN s) (EE s) x∧IsTop (NN s) (EE s) y∧r=(⟨volL s l d (fun v=>x.getD v 0),volL s l d (fun v=>y.getD v 0)⟩,0))
theorem f39_eq {s:Scene} (hL:Lens s) {l:List Int} {d:Int} (hl:l.length≤9223372036854775807):Gets (f39 4611686018427387904 s l d) (valQ s l d):=by
 unfold f39
 refine Gets.bind (f113_eq hL hl) fun r hr=>?_
 obtain⟨sp,e⟩:=r
 rcases hr with ⟨h1,h2⟩ | ⟨h1,h2,h3⟩ | ⟨h1,h2,h3,h4⟩
 ·cases h2
  dsimp only
  rw [show (chk s != 0)=true by simpa using chk_ne.2 h1]
  exact Gets.some (.inl ⟨h1,rfl⟩)
 ·cases h3
  exact Gets.some (.inr (.inl ⟨h1,h2,rfl⟩))
 ·cases h4
  have hll:=h2.len
  have hc2:=h1.b.c2
  simp only [bne_self_eq_false,cond_false]
  refine Gets.bind (f114_eq hL h1 (spots_in h2 h3) (by simp [spots]; omega)) fun r hr=>?_
  rcases hr with ⟨h5,h6⟩ | ⟨h5,x,y,hx,hy,h8⟩
  ·subst h6
   exact Gets.some (.inr (.inr (.inl ⟨h1,⟨h2,h3⟩,h5,rfl⟩)))
  ·subst h8
   simp only [bne_self_eq_false,cond_false]
   refine Gets.bind (P:=(·=(volL s l d (fun v=>x.getD v 0),volL s l d (fun v=>y.getD v 0)))) ?_ fun r hr=>by subst hr; exact Gets.some (.inr (.inr (.inr ⟨h1,⟨h2,h3⟩,h5,x,y,hx,hy,rfl⟩)))
   refine rngL_gets (fun(k:Nat) (v:Int × Int)=>v=(volL s (l.take k) d (fun v=>x.getD v 0),volL s (l.take k) d (fun v=>y.getD v 0))∧(0≤v.1∧v.1≤k*268435456)∧0≤v.2∧v.2≤k*268435456) (by simp [spots]; omega) ⟨rfl,by simp,by simp⟩ (fun k p v nx hp hv hnx=>?_) fun v hv=>Gets.some (by rw [hv.1]; simp [spots])
   simp only [spots,List.map_map,List.getElem?_map,Option.map_eq_some_iff] at hp
   obtain⟨no,hno,rfl⟩:=hp
   have hk:=(List.getElem?_eq_some_iff.1 hno).1
   obtain⟨v1,v2⟩:=v
   obtain⟨hv1,hv2,hv3⟩:=hv
   simp only [Prod.mk.injEq] at hv1 hv2 hv3
   obtain⟨rfl,rfl⟩:=hv1
   have hc:=h2.all no (List.mem_of_getElem? hno)
   have hA:=area_ok h1 hc
   obtain⟨cc,e1,e2⟩:=cellAt_spec hc
   have c1:ix s.Basin.Cells (cellAt s.Basin no)=some (cellOf s.Basin (cellAt s.Basin no)):=(cellOf_eq hc e1).1
   have c2:ix (spots s l d) (k:Int)=some ⟨cellAt s.Basin no,dayAt s.Days d⟩:=ix_nat (by simp [spots,hno])
   have b1:=al_bd h1 hx.pot hx.z hc h3
   have b2:=al_bd h1 hy.pot hy.z hc h3
   have q1:=prod_bd hA.1 hA.2 b1.1 b1.2
   have q2:=prod_bd hA.1 hA.2 b2.1 b2.2
   simp only [c2,Option.bind_some,c1,Function.comp,spanAt]
   rw [show (cellOf s.Basin (cellAt s.Basin no)).Area=areaOf s no from rfl,show node s (cellAt s.Basin no) (dayAt s.Days d)=sightNode s no d from rfl]
   rw [W_eq (n:=areaOf s no*x.getD _ _) (by omega) (by omega),W_eq (n:=areaOf s no*y.getD _ _) (by omega) (by omega),W_eq (by omega) (by omega),W_eq (by omega) (by omega)]
   exact hnx _ ⟨by rw [vol_take hno,vol_take hno],by simp only; omega,by simp only; omega⟩
end Go.Proofs.YthlchdnbokhclaaGreat.Ql

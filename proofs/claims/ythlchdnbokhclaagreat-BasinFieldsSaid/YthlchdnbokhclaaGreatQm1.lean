import Derived.Test.YthlchdnbokhclaaGreatQd1
import Derived.Test.YthlchdnbokhclaaGreatQb1
import Derived.Test.YthlchdnbokhclaaGreatQs
import Derived.Test.YthlchdnbokhclaaGreatQr
set_option linter.all false
namespace Go.Proofs.YthlchdnbokhclaaGreat.Ql
open Go Go.Proofs.YthlchdnbokhclaaGreat.Bm
abbrev scn (s:Scene) (g:List Sight) (c:List Change):Scene:=⟨s.Basin,s.Days,g,c⟩
end Go.Proofs.YthlchdnbokhclaaGreat.Ql
namespace Go.Proofs.YthlchdnbokhclaaGreat.Ql
open Go
theorem Lens.wf {s:Scene} (h:wf30 s):Lens s:=by
 have:=h.Basin.Cells.1
 have:=h.Basin.Pairs.1
 have:=h.Days.1
 have:=h.Sights.1
 have:=h.Changes.1
 unfold maxLen at *
 exact⟨by omega,by omega,by omega,by omega,by omega⟩
theorem wf_len {n:Nat} (h:n≤maxLen):n≤9223372036854775807:=by unfold maxLen at h; omega
end Go.Proofs.YthlchdnbokhclaaGreat.Ql
namespace Go.Proofs.YthlchdnbokhclaaGreat.Ql
open Go Go.Proofs.YthlchdnbokhclaaGreat.Bm
def fx (f:List (List Int)) (v:Nat):Int:=(0::f.flatten).getD v 0
theorem cellAt_No {b:Basin} (hb:BOk b) {i:Nat} {c:Cell} (h:b.Cells[i]?=some c):cellAt b c.No=i:=by
 have h0:0≤cellAt b c.No:=by
  refine Classical.byContradiction fun hlt=>?_
  have:=(fidx_neg (p:=fun x:Cell=>x.No==c.No) (xs:=b.Cells) (i:=0) (by omega)).1 (by unfold cellAt at hlt; omega) c (List.mem_of_getElem? h)
  simp at this
 obtain⟨c',h1,h2⟩:=cellAt_spec h0
 have:=cell_uniq hb h1 h h2
 omega
theorem dayAt_at {ds:List Int} (hb:Rise ds) {i:Nat} {d:Int} (h:ds[i]?=some d):dayAt ds d=i:=by
 have h0:0≤dayAt ds d:=by
  refine Classical.byContradiction fun hlt=>?_
  have:=(fidx_neg (p:=fun x:Int=>x==d) (xs:=ds) (i:=0) (by omega)).1 (by unfold dayAt at hlt; omega) d (List.mem_of_getElem? h)
  simp at this
 have h1:=dayAt_spec h0
 have:=hb.inj h1 h
 omega
theorem fx_z {f:List (List Int)}:fx f 0=0:=rfl
theorem AlF.fx {s:Scene} {f:List (List Int)} (h:AlF s f):Pot (EE s) (fx f):=h.pot
theorem fx_at {s:Scene} {f:List (List Int)} (h:Shp s f) {no d:Int} (hc:0≤cellAt s.Basin no) (hd:0≤dayAt s.Days d):fx f (sightNode s no d).toNat=val f (dayAt s.Days d).toNat (cellAt s.Basin no).toNat:=fx_node h hc cellAt_lt hd dayAt_lt
theorem f41_eq {K:Nat} {s:Scene} (hS:SOk s) {l:List Int} (hc:ClsOk s l) {d:Int} (hd:0≤dayAt s.Days d) {f:List (List Int)} (hf:AlF s f):Gets (f41 K s l d f) fun r=>r=volL s l d (fx f)∧0≤r∧r≤12*268435456:=by
 have hL:=Lens.of hS
 have hll:=hc.len
 have hc2:=hS.b.c2
 have hsh:Shp s f:=⟨hf.len,hf.row⟩
 unfold f41
 refine Gets.bind (P:=fun r=>r=volL s l d (fx f)∧0≤r∧r≤12*268435456) (rngL_gets (fun(k:Nat) (v:Int)=>v=volL s (l.take k) d (fx f)∧0≤v∧v≤k*268435456) (by omega) ⟨rfl,by simp,by simp⟩ (fun k no v nx hno ⟨h1,h2,h3⟩ hnx=>?_) fun v hv=>Gets.some ⟨by rw [hv.1,List.take_length],hv.2.1,by omega⟩) fun r hr=>Gets.some hr
 have hk:=(List.getElem?_eq_some_iff.1 hno).1
 have hcc:=hc.all no (List.mem_of_getElem? hno)
 have hA:=area_ok hS hcc
 obtain⟨cc,e1,e2⟩:=cellAt_spec hcc
 have c1:ix s.Basin.Cells (cellAt s.Basin no)=some (cellOf s.Basin (cellAt s.Basin no)):=(cellOf_eq hcc e1).1
 obtain⟨r1,c2,c3⟩:=ix_val hsh hcc cellAt_lt hd dayAt_lt
 have b1:=al_bd hS hf.fx fx_z hcc hd
 rw [fx_at hsh hcc hd] at b1
 have q1:=prod_bd hA.1 hA.2 b1.1 b1.2
 rw [f94_eq hL]
 dsimp only [Option.bind_some]
 rw [show decide (InS s no d)=true from decide_eq_true ⟨hcc,hd⟩]
 simp only [cond_true,c1,c2,c3,Option.bind_some]
 rw [show (cellOf s.Basin (cellAt s.Basin no)).Area=areaOf s no from rfl,W_eq (n:=areaOf s no*_) (by omega) (by omega),W_eq (by omega) (by omega)]
 refine hnx _ ⟨?_,by omega,by rw [Int.natCast_add,Int.add_mul]; omega⟩
 rw [vol_take hno,fx_at hsh hcc hd,h1]
theorem cel_in {s:Scene} (hS:SOk s) {f:List (List Int)} (hf:AlF s f) {c d:Nat} {x:Cell} {day:Int} (hc:s.Basin.Cells[c]?=some x) (hd:s.Days[d]?=some day) {r:Span × Int} (h:celQ s x.No day r):r.2=0∧r.1.Lo≤val f d c∧val f d c≤r.1.Hi:=by
 have e1:=cellAt_No hS.b hc
 have e2:=dayAt_at hS.d.2.2.2 hd
 have hin:InS s x.No day:=⟨by omega,by omega⟩
 have hF:Fea (theNet s).Diffs:=⟨_,hf.pot⟩
 rcases h with ⟨h1,_⟩ | ⟨_,h1,_⟩ | ⟨_,_,h1,_⟩ | ⟨_,_,_,lo,hi,h1,h2,h3⟩
 ·exact absurd hS h1
 ·exact absurd hin h1
 ·exact absurd hF h1
 ·subst h3
  have hsn:=sightNode_in hin.1 hin.2
  have a1:=h1.bot _ hf.fx fx_z (sightNode s x.No day).toNat (by omega)
  have a2:=h2.top _ hf.fx fx_z (sightNode s x.No day).toNat (by omega)
  rw [fx_at ⟨hf.len,hf.row⟩ hin.1 hin.2,e1,e2] at a1 a2
  exact⟨rfl,a1,a2⟩
theorem vol_between {s:Scene} (hS:SOk s) {l:List Int} {d:Int} (hc:∀ no∈l,0≤cellAt s.Basin no) (hd:0≤dayAt s.Days d) {x y:List Int} (hx:IsBot (NN s) (EE s) x) (hy:IsTop (NN s) (EE s) y) {π:Nat→Int} (hp:Pot (EE s) π) (hz:π 0=0) :
  volL s l d (fun v=>x.getD v 0)≤volL s l d π∧volL s l d π≤volL s l d (fun v=>y.getD v 0):=by
 have hn:∀ no∈l,(sightNode s no d).toNat < NN s:=fun no hno=>by have:=sightNode_in (hc no hno) hd; omega
 exact⟨vol_mono hS hc fun no hno=>hx.bot π hp hz _ (hn no hno),vol_mono hS hc fun no hno=>hy.top π hp hz _ (hn no hno)⟩
theorem val_in {s:Scene} (hS:SOk s) {f:List (List Int)} (hf:AlF s f) {l:List Int} {d:Int} (hc:ClsOk s l) (hd:0≤dayAt s.Days d) {r:Span × Int} (h:valQ s l d r):r.2=0∧r.1.Lo≤volL s l d (fx f)∧volL s l d (fx f)≤r.1.Hi:=by
 have hF:Fea (theNet s).Diffs:=⟨_,hf.pot⟩
 rcases h with ⟨h1,_⟩ | ⟨_,h1,_⟩ | ⟨_,_,h1,_⟩ | ⟨_,_,_,lo,hi,h1,h2,h3⟩
 ·exact absurd hS h1
 ·exact absurd ⟨hc,hd⟩ h1
 ·exact absurd hF h1
 ·subst h3
  exact⟨rfl,vol_between hS hc.all hd h1 h2 hf.fx fx_z⟩
theorem los_in {s:Scene} (hS:SOk s) {f:List (List Int)} (hf:AlF s f) {l:List Int} {a b:Int} (hP:PerOk s l a b) {r:Span × Int} (h:losQ s l a b r):r.2=0∧r.1.Lo≤volL s l a (fx f) - volL s l b (fx f)∧volL s l a (fx f) - volL s l b (fx f)≤r.1.Hi:=by
 have hF:Fea (theNet s).Diffs:=⟨_,hf.pot⟩
 rcases h with ⟨h1,_⟩ | ⟨_,h1,_⟩ | ⟨_,_,h1,_⟩ | ⟨_,_,_,h1,h2⟩
 ·exact absurd hS h1
 ·exact absurd hP h1
 ·exact absurd hF h1
 ·have:=h2.all _ hf.fx fx_z
  rw [loss_vol] at this
  exact⟨h1,this.1,this.2⟩
end Go.Proofs.YthlchdnbokhclaaGreat.Ql
namespace Go.Proofs.YthlchdnbokhclaaGreat.Ql
open Go Go.Proofs.YthlchdnbokhclaaGreat.Bm
def zipF (op:Int→Int→Int) (f g:List (List Int)):List (List Int):=List.zipWith (List.zipWith op) f g
structure Lat (op:Int→Int→Int):Prop where
 or:∀ x y,op x y=x∨op x y=y
 df:∀ x y x' y' m,x' - x≤m→y' - y≤m→op x' y' - op x y≤m
theorem zip_val {op:Int→Int→Int} (ho:Lat op) {s:Scene} {f g:List (List Int)} (hf:Shp s f) (hg:Shp s g) {d c:Nat} (hd:d < s.Days.length) (hc:c < s.Basin.Cells.length):val (zipF op f g) d c=op (val f d c) (val g d c):=by
 have h1:=hf.len
 have h2:=hg.len
 have e1:f[d]?=some f[d]:=List.getElem?_eq_getElem (by omega)
 have e2:g[d]?=some g[d]:=List.getElem?_eq_getElem (by omega)
 have l1:=hf.row _ (List.mem_of_getElem? e1)
 have l2:=hg.row _ (List.mem_of_getElem? e2)
 simp only [val,zipF,List.getD_eq_getElem?_getD,List.getElem?_zipWith,e1,e2,Option.getD_some]
 rw [List.getElem?_eq_getElem (show c < (f[d]).length by omega),List.getElem?_eq_getElem (show c < (g[d]).length by omega)]
 rfl
theorem zip_al {op:Int→Int→Int} (ho:Lat op) {s:Scene} (hS:SOk s) {f g:List (List Int)} (hf:AlW s f) (hg:AlW s g):AlW s (zipF op f g):=by
 have h1:=hf.shp.len
 have h2:=hg.shp.len
 have hv:=fun {d c:Nat} (hd:d < s.Days.length) (hc:c < s.Basin.Cells.length)=>zip_val ho hf.shp hg.shp hd hc
 refine⟨⟨by simp [zipF,h1,h2],fun r hr=>?_⟩,fun d c hd hc=>?_,fun d p hd hp hal=>?_,fun x hx=>?_,fun x hx=>?_⟩
 ·obtain⟨d,hd⟩:=List.mem_iff_getElem?.1 hr
  simp only [zipF,List.getElem?_zipWith] at hd
  cases e1:f[d]? with
  | none=>rw [e1] at hd; simp at hd
  | some a=>
   cases e2:g[d]? with
   | none=>rw [e1,e2] at hd; simp at hd
   | some b=>
    rw [e1,e2] at hd
    simp only [Option.some.injEq] at hd
    subst hd
    simp [hf.shp.row _ (List.mem_of_getElem? e1),hg.shp.row _ (List.mem_of_getElem? e2)]
 ·rw [hv hd hc]
  have a:=hf.deep d c hd hc
  have b:=hg.deep d c hd hc
  rcases ho.or (val f d c) (val g d c) with e | e <;> rw [e] <;> assumption
 ·obtain⟨i,hi⟩:=List.mem_iff_getElem?.1 hp
  have hpo:=hS.b.pair _ _ hi
  have q1:=hpo.1
  have q2:=hpo.2.1
  have q3:=hpo.2.2.1
  have q4:=hpo.2.2.2.1
  rw [hv hd (by omega),hv hd (by omega)]
  have a:=hf.pair d p hd hp hal
  have b:=hg.pair d p hd hp hal
  exact⟨ho.df _ _ _ _ _ a.1 b.1,ho.df _ _ _ _ _ a.2 b.2⟩
 ·obtain⟨_,g1,g2,_⟩:=hS.g x hx
  have q1:=dayAt_lt (ds:=s.Days) (d:=x.Day)
  have q2:=cellAt_lt (b:=s.Basin) (no:=x.Cell)
  rw [hv (by omega) (by omega)]
  have a:=hf.sight x hx
  have b:=hg.sight x hx
  rcases ho.or (val f (dayAt s.Days x.Day).toNat (cellAt s.Basin x.Cell).toNat) (val g (dayAt s.Days x.Day).toNat (cellAt s.Basin x.Cell).toNat) with e | e <;> rw [e] <;> assumption
 ·obtain⟨g1,g2,g3,_⟩:=hS.h x hx
  have q1:=dayAt_lt (ds:=s.Days) (d:=x.From)
  have q3:=dayAt_lt (ds:=s.Days) (d:=x.To)
  have q2:=cellAt_lt (b:=s.Basin) (no:=x.Cell)
  rw [hv (by omega) (by omega),hv (by omega) (by omega)]
  have a:=hf.change x hx
  have b:=hg.change x hx
  have c1:=ho.df _ _ _ _ _ a.2 b.2
  have c2:=ho.df (val f (dayAt s.Days x.To).toNat (cellAt s.Basin x.Cell).toNat) (val g (dayAt s.Days x.To).toNat (cellAt s.Basin x.Cell).toNat) (val f (dayAt s.Days x.From).toNat (cellAt s.Basin x.Cell).toNat) (val g (dayAt s.Days x.From).toNat (cellAt s.Basin x.Cell).toNat) (-x.Lo) (by omega) (by omega)
  omega
theorem lat_max:Lat (fun x y=>if y > x then y else x):=⟨fun x y=>by split <;> simp,fun x y x' y' m h1 h2=>by split <;> split <;> omega⟩
theorem lat_min:Lat (fun x y=>if y < x then y else x):=⟨fun x y=>by split <;> simp,fun x y x' y' m h1 h2=>by split <;> split <;> omega⟩
theorem cf_al {s:Scene} (hS:SOk s) {f:List (List Int)} {a:Int} {b:Bool} (ha:cfQ s f a) (hb:b=true↔AlW s f):(a==0)=b:=by
 rw [Bool.eq_iff_iff,hb,← alF_iff hS,beq_iff_eq]
 constructor
 ·intro h
  refine Classical.byContradiction fun h'=>?_
  have:=(ha.2 hS).2 h'
  omega
 ·exact(ha.2 hS).1
theorem zip_take {α β γ:Type} {op:α→β→γ} {f:List α} {g:List β} {k:Nat} {x:α} {y:β} (h1:f[k]?=some x) (h2:g[k]?=some y):List.zipWith op (f.take (k+1)) (g.take (k+1))=List.zipWith op (f.take k) (g.take k)++[op x y]:=by
 rw [List.take_succ,List.take_succ,h1,h2,List.zipWith_append (by have:=(List.getElem?_eq_some_iff.1 h1).1; have:=(List.getElem?_eq_some_iff.1 h2).1; simp; omega)]
 rfl
theorem basinFields_pure (s:Scene) (f g:List (List Int)) (l:List Int) (a b:Int) (h:wf30 s) (hf:wf44 f) (hg:wf44 g) (hl:wf26 l) (_:wf3 a) (_:wf3 b):∃ k,f5 k s f g l a b=some true:=by
 refine⟨4611686018427387904,?_⟩
 have hL:=Lens.wf h
 have hl:=wf_len hl.1
 have hf:=wf_len hf.1
 have hg:=wf_len hg.1
 have:Gets (f5 4611686018427387904 s f g l a b) (·=true):=by
  unfold f5
  refine Gets.bind_eq sane_ok (Gets.cond (fun h=>by simp at h) fun _=>?_)
  refine Gets.bind (f36_eq hL) fun k hk=>Gets.cond (fun _=>Gets.some rfl) fun h'=>?_
  have hS:=(hk.1 (by simpa using h')).1
  have hc2:=hS.b.c2
  have hd2:=hS.d.2.1
  refine Gets.bind (P:=(·=false)) ?_ fun v hv=>?_
  ·refine Gets.bind (f26_eq hL hf) fun x hx=>Gets.bind (f37_eq hS hf) fun y hy=>?_
   rw [cf_al hS hx hy,bne_self_eq_false,cond_false]
   refine Gets.bind (f26_eq hL hg) fun x hx=>Gets.bind (f37_eq hS hg) fun y hy=>Gets.some ?_
   rw [cf_al hS hx hy,bne_self_eq_false]
  subst hv
  simp only [cond_false]
  refine Gets.bind (f37_eq hS hf) fun y hy=>Gets.cond (fun _=>Gets.some rfl) fun h1=>?_
  have hfw:=hy.1 (by simpa using h1)
  have hfa:=(alF_iff hS).2 hfw
  have hsf:=hfw.shp
  have hfl:=hsf.len
  refine Gets.bind (f37_eq hS hg) fun y hy=>?_
  refine Gets.jo (fun _=>True) (fun _ _=>?_) fun j hj=>Gets.cond (fun h2=>?_) fun _=>hj _ trivial
  ·refine Gets.jo (fun _=>True) (fun _ _=>?_) fun j1 hj1=>rngL_gets (fun _ _=>True) hL.d trivial (fun d day _ nx hday _ hnx=>?_) fun _ h=>hj1 _ h
   ·refine Gets.bind (f39_eq hL hl) fun r1 h3=>?_
    obtain⟨u,e1⟩:=r1
    refine Gets.cond (fun h4=>Gets.some ?_) fun h4=>?_
    ·rcases h3 with ⟨h5,_⟩ | ⟨_,_,h5⟩ | ⟨_,_,h5,_⟩ | ⟨_,_,_,_,_,_,_,h5⟩
     ·exact absurd hS h5
     ·cases h5; rfl
     ·exact absurd ⟨_,hfa.pot⟩ h5
     ·cases h5; simp at h4
    ·obtain⟨hcl,hda⟩:ClsOk s l∧0≤dayAt s.Days a:=by
      rcases h3 with ⟨h5,_⟩ | ⟨_,_,h5⟩ | ⟨_,h5,_,_⟩ | ⟨_,h5,_⟩
      ·exact absurd hS h5
      ·cases h5; simp at h4
      ·exact h5
      ·exact h5
     have hv:=val_in hS hfa hcl hda h3
     refine Gets.bind (f40_eq hL hl) fun r2 h6=>?_
     obtain⟨w,e2⟩:=r2
     have hlo:(e2=1)∨(e2=0∧PerOk s l a b):=by
      rcases h6 with ⟨h5,_⟩ | ⟨_,_,h5⟩ | ⟨_,_,h5,_⟩ | ⟨_,h5,_,h7,_⟩
      ·exact absurd hS h5
      ·cases h5; exact .inl rfl
      ·exact absurd ⟨_,hfa.pot⟩ h5
      ·exact .inr ⟨h7,h5⟩
     refine Gets.bind (P:=(·=false)) (Gets.bind (f41_eq hS hcl hda hfa) fun x hx=>?_) fun v hv=>?_
     ·simp only at hv
      unfold f38
      rw [hx.1,show (decide (u.Lo≤volL s l a (fx f))&&decide (volL s l a (fx f)≤u.Hi))=true by simp only [Bool.and_eq_true,decide_eq_true_eq]; exact hv.2]
      simp only [Option.bind_some,Bool.not_true,cond_false]
      rcases hlo with rfl | ⟨rfl,_⟩
      ·exact Gets.some rfl
      ·exact Gets.some rfl
     ·subst hv
      simp only [cond_false]
      refine Gets.bind (P:=(·=true)) ?_ fun v hv=>Gets.some hv
      rcases hlo with rfl | ⟨rfl,hP⟩
      ·exact Gets.some rfl
      ·simp only [bne_self_eq_false,cond_false]
       refine Gets.bind (f41_eq hS hcl hda hfa) fun x hx=>Gets.bind (f41_eq hS hcl hP.d2 hfa) fun y hy=>?_
       have:=los_in hS hfa hP h6
       simp only at this
       unfold f38
       rw [W_eq (by omega) (by omega),hx.1,hy.1]
       exact Gets.some (by simp only [Bool.and_eq_true,decide_eq_true_eq]; exact this.2)
   ·have hd:=(List.getElem?_eq_some_iff.1 hday).1
    refine Gets.jo (fun _=>True) (fun _ _=>hnx _ trivial) fun j2 hj2=>rngL_gets (fun _ _=>True) hL.c trivial (fun c x _ nx hx _ hnx=>?_) fun _ h=>hj2 _ h
    have hc:=(List.getElem?_eq_some_iff.1 hx).1
    refine Gets.bind (f33_eq hL) fun r hr=>?_
    have h3:=cel_in hS hfa hx hday hr
    obtain⟨r1,e⟩:=r
    simp only at h3
    obtain⟨rfl,h4⟩:=h3
    obtain⟨q,c1,c2⟩:=ix_val hsf (c:=c) (d:=d) (by omega) (by omega) (by omega) (by omega)
    refine Gets.bind (P:=(·=false)) ?_ fun v hv=>by subst hv; exact hnx _ trivial
    simp only [bne_self_eq_false,cond_false,c1,c2,Option.bind_some,f38,Int.toNat_natCast]
    rw [show (decide (r1.Lo≤val f d c)&&decide (val f d c≤r1.Hi))=true by simp only [Bool.and_eq_true,decide_eq_true_eq]; exact h4]
    exact Gets.some rfl
  ·have hgw:=hy.1 h2
   have hsg:=hgw.shp
   have hgl:=hsg.len
   refine Gets.bind (P:=(·=(zipF (fun x y=>if y > x then y else x) f g,zipF (fun x y=>if y < x then y else x) f g))) ?_ fun v hv=>?_
   ·refine rngL_gets (fun(k:Nat) (v:List (List Int) × List (List Int))=>v=(zipF (fun x y=>if y > x then y else x) (f.take k) (g.take k),zipF (fun x y=>if y < x then y else x) (f.take k) (g.take k))) (by omega) rfl (fun k r v nx hr hv hnx=>?_) fun v hv=>Gets.some ?_
    ·have hk:=(List.getElem?_eq_some_iff.1 hr).1
     obtain⟨q,hq⟩:∃ q,g[k]?=some q:=⟨_,List.getElem?_eq_getElem (by omega)⟩
     have l1:=hsf.row _ (List.mem_of_getElem? hr)
     have l2:=hsg.row _ (List.mem_of_getElem? hq)
     subst hv
     refine Gets.bind (P:=(·=(List.zipWith (fun x y=>if y > x then y else x) r q,List.zipWith (fun x y=>if y < x then y else x) r q))) ?_ fun w hw=>?_
     ·refine rngL_gets (fun(i:Nat) (v:List Int × List Int)=>v=(List.zipWith (fun x y=>if y > x then y else x) (r.take i) (q.take i),List.zipWith (fun x y=>if y < x then y else x) (r.take i) (q.take i))) (by omega) rfl (fun i x v nx hx hv hnx=>?_) fun v hv=>Gets.some ?_
      ·have hi:=(List.getElem?_eq_some_iff.1 hx).1
       obtain⟨y,hy⟩:∃ y,q[i]?=some y:=⟨_,List.getElem?_eq_getElem (by omega)⟩
       subst hv
       dsimp only
       rw [ix_nat hq,Option.bind_some,ix_nat hy,Option.bind_some,app_eq (by simp; omega),Option.bind_some,app_eq (by simp; omega),Option.bind_some]
       exact hnx _ (by rw [zip_take hx hy,zip_take hx hy])
      ·rw [hv,List.take_length,show q.take r.length=q by rw [l1,← l2]; exact List.take_length]
     ·subst hw
      dsimp only
      rw [app_eq (by simp [zipF]; omega),Option.bind_some,app_eq (by simp [zipF]; omega),Option.bind_some]
      exact hnx _ (by unfold zipF; rw [zip_take hr hq,zip_take hr hq])
    ·rw [hv,List.take_length,show g.take f.length=g by rw [hfl,← hgl]; exact List.take_length]
   ·subst hv
    refine Gets.bind (P:=(·=false)) ?_ fun v hv=>by subst hv; exact hj _ trivial
    have u1:=(alF_iff hS).2 (zip_al lat_max hS hfw hgw)
    have u2:=(alF_iff hS).2 (zip_al lat_min hS hfw hgw)
    have z1:=u1.len
    have z2:=u2.len
    dsimp only
    refine Gets.bind (f26_eq hL (by omega)) fun x hx=>?_
    rw [(hx.2 hS).1 u1]
    simp only [bne_self_eq_false,cond_false]
    refine Gets.bind (f26_eq hL (by omega)) fun x hx=>Gets.some ?_
    rw [(hx.2 hS).1 u2]; rfl
 exact this.out
end Go.Proofs.YthlchdnbokhclaaGreat.Ql

import Derived.Test.YthlchdnbokhclaaGreatQb1
import Derived.Test.YthlchdnbokhclaaGreatQs
import Derived.Test.YthlchdnbokhclaaGreatQr
import Derived.Test.YthlchdnbokhclaaGreatQc1
set_option linter.all false
namespace Go.Proofs.YthlchdnbokhclaaGreat.Ql
open Go
theorem Lens.wf {s:Scene} (h:wf30 s):Lens s:=by
 have:=h.Basin.Cells.1
 have:=h.Basin.Pairs.1
 have:=h.Days.1
 have:=h.Sights.1
 have:=h.Changes.1
 unfold maxLen at *
 exact⟨by omega,by omega,by omega,by omega,by omega⟩
end Go.Proofs.YthlchdnbokhclaaGreat.Ql
namespace Go.Proofs.YthlchdnbokhclaaGreat.Ql
open Go
end Go.Proofs.YthlchdnbokhclaaGreat.Ql
namespace Go.Proofs.YthlchdnbokhclaaGreat.Ql
open Go Go.Proofs.YthlchdnbokhclaaGreat.Bm
theorem no_less {s:Scene} (hS:SOk s) {x y:List Int} (hx:IsBot (NN s) (EE s) x) (hy:IsTop (NN s) (EE s) y) {c d w:Int} (hin:InS s c d) {l:List Reason} :
  (w < y.getD (sightNode s c d).toNat 0→¬ Prf s c d w true l)∧(-1152921504606846976≤w→x.getD (sightNode s c d).toNat 0 < w→¬ Prf s c d w false l):=by
 have hsn:=sightNode_in hin.1 hin.2
 have hm:∀ {ds},Named s l ds→∀ d∈ds,d∈(theNet s).Diffs:=fun {ds} hn d hd=>by
  obtain⟨j,hj⟩:=List.mem_iff_getElem?.1 hd
  have hlt:=(List.getElem?_eq_some_iff.1 hj).1
  have hlt':j < l.length:=by have:=hn.1; omega
  obtain⟨d',h1,h2⟩:=hn.2 j _ (List.getElem?_eq_getElem hlt')
  rw [hj] at h1; cases h1
  exact List.mem_map.2 ⟨_,h2,rfl⟩
 refine⟨fun hw=>?_,fun h0 hw=>?_⟩
 ·rintro⟨ds,hn,_,z,h1,h2⟩
  simp only [if_true] at h1 h2
  have:=pth_pot hy.pot (hm hn) h1
  have hz:=hy.z
  simp only [Int.toNat_zero] at this
  omega
 ·rintro⟨ds,hn,_,z,h1,h2⟩
  simp only [Bool.false_eq_true,if_false] at h1 h2
  rw [if_neg (by omega)] at h2
  have:=pth_pot hx.pot (hm hn) h1
  have hz:=hx.z
  simp only [Int.toNat_zero] at this
  omega
theorem basinExact_pure (s:Scene) (c d n:Int) (l:List Reason) (h:wf30 s) (_:wf3 c) (_:wf3 d) (_:wf3 n) (_:wf35 l):∃ k,f18 k s c d n l=some true:=by
 refine⟨4611686018427387904,?_⟩
 have hL:=Lens.wf h
 have:Gets (f18 4611686018427387904 s c d n l) (·=true):=by
  unfold f18
  refine Gets.bind_eq sane_ok (Gets.cond (fun h=>by simp at h) fun _=>?_)
  refine Gets.bind (P:=fun v=>v=false→SOk s∧l.length≤100) (Gets.bind (f36_eq hL) fun k hk=>Gets.cond (fun _=>Gets.some (fun h=>by cases h)) fun h'=>Gets.some (fun h=>⟨(hk.1 (by simpa using h')).1,by have:=of_decide_eq_false h; omega⟩)) fun v hv=>Gets.cond (fun _=>Gets.some rfl) fun h'=>?_
  obtain⟨hS,hl⟩:=hv h'
  refine Gets.bind (f31_eq hL) fun r1 h1=>Gets.bind (f29_eq hL) fun r2 h2=>?_
  obtain⟨lo,e⟩:=r1
  obtain⟨hi,e'⟩:=r2
  have hd:=hS.b.d
  have key:(¬ Fea (theNet s).Diffs∧e=41∧e'=41)∨(Fea (theNet s).Diffs∧e=0∧e'=0∧∃ x y,IsBot (NN s) (EE s) x∧IsTop (NN s) (EE s) y∧lo=rowsOf s x∧hi=rowsOf s y):=by
   rcases h1 with ⟨h1,_⟩ | ⟨_,h1,h3⟩ | ⟨_,h1,x,hx,h3⟩
   ·exact absurd hS h1
   ·rcases h2 with ⟨h2,_⟩ | ⟨_,h2,h4⟩ | ⟨_,h2,y,hy,h4⟩
    ·exact absurd hS h2
    ·cases h3; cases h4; exact .inl ⟨h1,rfl,rfl⟩
    ·exact absurd h2 h1
   ·rcases h2 with ⟨h2,_⟩ | ⟨_,h2,h4⟩ | ⟨_,h2,y,hy,h4⟩
    ·exact absurd hS h2
    ·exact absurd h1 h2
    ·cases h3; cases h4; exact .inr ⟨h1,rfl,rfl,x,y,hx,hy,rfl,rfl⟩
  clear h1 h2
  refine Gets.cond (fun h2=>?_) fun _=>Gets.bind (f33_eq hL) fun r3 h3=>?_
  ·exfalso
   rcases key with ⟨_,rfl,rfl⟩ | ⟨_,rfl,rfl,_⟩ <;> simp at h2
  obtain⟨sp,e3⟩:=r3
  rw [f94_eq hL]
  dsimp only [Option.bind_some]
  refine Gets.cond (fun h2=>Gets.some ?_) fun h2=>?_
  ·have h2:¬ InS s c d:=by simpa using h2
   rcases h3 with ⟨h3,_⟩ | ⟨_,_,h3⟩ | ⟨_,h3,_⟩ | ⟨_,h3,_⟩
   ·exact absurd hS h3
   ·cases h3; rfl
   ·exact absurd h3 h2
   ·exact absurd h3 h2
  have hin:InS s c d:=by simpa using h2
  have hsn:=sightNode_in hin.1 hin.2
  refine Gets.cond (fun h2=>Gets.some ?_) fun h2=>?_
  ·rcases key with ⟨k1,_,_⟩ | ⟨_,rfl,_⟩
   ·rcases h3 with ⟨h3,_⟩ | ⟨_,h3,_⟩ | ⟨_,_,_,h3⟩ | ⟨_,_,h3,_⟩
    ·exact absurd hS h3
    ·exact absurd hin h3
    ·cases h3; rfl
    ·exact absurd h3 k1
   ·simp at h2
  ·rcases key with ⟨_,rfl,_⟩ | ⟨hF,rfl,rfl,x,y,hx,hy,rfl,rfl⟩
   ·simp at h2
   ·have hsp:sp=⟨x.getD (sightNode s c d).toNat 0,y.getD (sightNode s c d).toNat 0⟩∧e3=0:=by
     rcases h3 with ⟨h3,_⟩ | ⟨_,h3,_⟩ | ⟨_,_,h3,_⟩ | ⟨_,_,_,x',y',h4,h5,h3⟩
     ·exact absurd hS h3
     ·exact absurd hin h3
     ·exact absurd hF h3
     ·cases h3; rw [hx.uniq h4,hy.uniq h5]; exact⟨rfl,rfl⟩
    obtain⟨rfl,rfl⟩:=hsp
    have b1:=pot_bd hS hx.pot (v:=(sightNode s c d).toNat) (by omega)
    have b2:=pot_bd hS hy.pot (v:=(sightNode s c d).toNat) (by omega)
    have z1:=hx.z
    have z2:=hy.z
    refine Gets.bind (P:=(·=false)) ?_ fun v hv=>?_
    ·simp only [bne_self_eq_false,cond_false]
     refine Gets.bind (f37_eq hS (by rw [rowsOf_len]; have:=hL.d; omega)) fun b hb=>?_
     rw [hb.2 ((alF_iff hS).1 (rows_al hS hx.len hx.z hx.pot))]
     simp only [Bool.not_true,cond_false]
     refine Gets.bind (f37_eq hS (by rw [rowsOf_len]; have:=hL.d; omega)) fun b hb=>?_
     rw [hb.2 ((alF_iff hS).1 (rows_al hS hy.len hy.z hy.pot))]
     obtain⟨r1,c1,c2⟩:=rows_at hx.len hin.1 cellAt_lt hin.2 dayAt_lt
     obtain⟨r2,c3,c4⟩:=rows_at hy.len hin.1 cellAt_lt hin.2 dayAt_lt
     simp only [Bool.not_true,cond_false,c1,c2,c3,c4,Option.bind_some,sightNode,bne_self_eq_false]
     exact Gets.some rfl
    ·subst hv
     simp only [cond_false]
     refine Gets.bind (f93_eq hL (m:=true)) fun r4 h4=>Gets.bind (f93_eq hL (m:=false)) fun r5 h5=>?_
     obtain⟨up,e4⟩:=r4
     obtain⟨dn,e5⟩:=r5
     obtain⟨rfl,u1,u2⟩:e4=0∧up.length≤200∧Prf s c d (y.getD (sightNode s c d).toNat 0) true up:=by
      rcases h4 with ⟨h4,_⟩ | ⟨_,h4,_⟩ | ⟨_,_,h4,_⟩ | ⟨_,_,_,h4,h6,h7⟩
      ·exact absurd hS h4
      ·exact absurd hin h4
      ·exact absurd hF h4
      ·exact⟨h4,h6,by simpa using h7 x y hx hy⟩
     obtain⟨rfl,d1,d2⟩:e5=0∧dn.length≤200∧Prf s c d (x.getD (sightNode s c d).toNat 0) false dn:=by
      rcases h5 with ⟨h4,_⟩ | ⟨_,h4,_⟩ | ⟨_,_,h4,_⟩ | ⟨_,_,_,h4,h6,h7⟩
      ·exact absurd hS h4
      ·exact absurd hin h4
      ·exact absurd hF h4
      ·exact⟨h4,h6,by simpa using h7 x y hx hy⟩
     clear h4 h5
     refine Gets.bind (P:=(·=false)) ?_ fun v hv=>?_
     ·simp only [bne_self_eq_false,cond_false]
      refine Gets.bind (f91_eq hL (by omega) (by omega)) fun r hr=>?_
      rw [((hr.2 hS).2 hin).1 u2]
      simp only [bne_self_eq_false,cond_false]
      refine Gets.bind (f91_eq hL (by omega) (by omega)) fun r hr=>Gets.some ?_
      rw [((hr.2 hS).2 hin).1 d2]; rfl
     ·subst hv
      simp only [cond_false]
      refine Gets.jo (fun _=>True) (fun _ _=>Gets.some rfl) fun j hj=>rngL_gets (fun _ _=>True) (by simp) trivial (fun k p _ nx hp _ hnx=>?_) fun _ h=>hj _ h
      have hpl:p.length≤200:=by
       have:=List.mem_of_getElem? hp
       simp only [List.mem_cons,List.not_mem_nil,or_false] at this
       rcases this with rfl | rfl | rfl <;> omega
      have hz:∃ z:Int,(if 1048576 < (if 0 > n then 0 else n) then 1048576 else (if 0 > n then 0 else n))=z∧0≤z∧z≤1048576:=⟨_,rfl,by split <;> (try split) <;> omega,by split <;> (try split) <;> omega⟩
      obtain⟨z,hz,z3,z4⟩:=hz
      rw [hz,W_eq (n:=1+z) (by omega) (by omega)]
      rw [W_eq (n:=_ - _) (by omega) (by omega),W_eq (n:=_+(1+z)) (by omega) (by omega)]
      refine Gets.bind (P:=(·=false)) ?_ fun v hv=>by subst hv; exact hnx _ trivial
      refine Gets.bind (f91_eq hL (by omega) (by omega)) fun r hr=>?_
      rw [((hr.2 hS).2 hin).2 ((no_less hS hx hy hin).1 (by omega))]
      simp only [show ((43:Int)==0)=false from rfl,cond_false]
      refine Gets.bind (f91_eq hL (by omega) (by omega)) fun r hr=>Gets.some ?_
      rw [((hr.2 hS).2 hin).2 ((no_less hS hx hy hin).2 (by omega) (by omega))]; rfl
 exact this.out
end Go.Proofs.YthlchdnbokhclaaGreat.Ql

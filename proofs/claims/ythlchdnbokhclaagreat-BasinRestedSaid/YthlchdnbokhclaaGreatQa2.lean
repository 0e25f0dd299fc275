import Derived.Test.YthlchdnbokhclaaGreatQa1
import Derived.Orders
import Derived.ScopeJumps
import Derived.KernelRfl
set_option linter.all false
namespace Go.Proofs.YthlchdnbokhclaaGreat.Ql
open Go
section
variable {P:Program} {C:Ctx} {κ:Kap} {s:AS} {a:Act} {w:World} {o:Oper}
theorem Ax.sound {rd:List Nat} {v:AV} {wr:List (Nat × Option AO)} (hax:Ax P o (Ql.ev s.tm) (lo s.ob) rd v wr) (hg:G C κ s a w) (hd:∀ d,o.dst=some d→d < C.n)
  (hf:∀ p∈wr,p.1∈rd∨s.fresh C.ob0 p.1) {next:Act→World→Prop} {Q:Exit→Act→World→Prop} (hn:Fin C s o v wr next):o.wp P a w next Q:=by
 cases hax with
 | ext h=>exact h.sound hg hd hf hn
 | move ho hs=>
  rename_i x
  refine quiet hg hd hn (u:=a.eval x) ?_ (hs _ _ _ _ (hg.ev x))
  rcases ho with ho | ho <;> simp [execOp,ho]
 | load_ipt ho hz hx hs hl=>
  rename_i T x n ag cells off cs
  have hR:=hg.ev x; rw [hx] at hR
  obtain⟨b,p,hu,hb,ho',hc⟩:=R_ipt hR
  obtain⟨vs,hvl,hvc,hvR,hv1⟩:=RIc_vals (RIc_seg hc hs)
  refine quiet hg hd hn ?_ (R_pack (Rv_of_RIv _ _ hvR))
  simp [execOp,ho,hu,Instr.loadAt,Instr.sureAddr,run_loadVar hz (hvl.trans hl) hvc]
 | load_box ho hz hx hb hs hl=>
  rename_i T x n ag id cells off cs
  have hR:=hg.ev x; rw [hx] at hR
  obtain⟨k,hk,b,cur,e,rfl,hh,hv,h1⟩:=hg.obj hb
  simp only [R] at hR
  obtain⟨b',hb',hu⟩:=hR.2 _ hk
  cases hb'
  have hseg:=Rv_seg off n hv
  rw [hs] at hseg
  refine quiet hg hd hn ?_ (R_pack hseg)
  simp [execOp,ho,hu,Instr.loadAt,Instr.sureAddr]
  rw [run_loadVar hz ((Rv_length hseg).trans hl) (fun j v hj=>?_)]
  ·rfl
  ·rw [List.getElem?_take] at hj
   split at hj
   ·rw [List.getElem?_drop] at hj
    rw [cell_of_row w b (off+j) cur e (0,0) hh]
    simpa using hj
   ·cases hj
 | load_arr ho hz hx hb hr hs hl=>
  rename_i T x n ag id e sz i j rows r cs
  have hR:=hg.ev x; rw [hx] at hR
  obtain⟨k,hk,hro⟩:=hg.obj hb
  simp only [R] at hR
  obtain⟨u,b,rfl,hub,hu⟩:=hR.2 _ hk
  obtain⟨vs,hvl,hvc,hvR,hv1⟩:=row_vals hro hub hr hs hl
  refine quiet hg hd hn ?_ (R_pack hvR)
  simp [execOp,ho,hu,Instr.loadAt,Instr.sureAddr,run_loadVar hz hvl hvc]
 | field_ipt ho hf' hx=>
  rename_i S x f fo cells off
  have hR:=hg.ev x; rw [hx] at hR
  obtain⟨b,p,hu,hb,ho',hc⟩:=R_ipt hR
  refine quiet hg hd hn (u:=.pointer (some ⟨b,p+(off+fo),none⟩)) ?_ (by simp only [R,RI]; exact⟨b,p,rfl,hb,ho',hc⟩)
  simp [execOp,ho,hu,run_fieldAt hf',Nat.add_assoc]
 | field_ptr ho hf' hx hb=>
  rename_i S x f fo id off ob
  have hR:=hg.ev x; rw [hx] at hR
  obtain⟨k,hk,hro⟩:=hg.obj hb
  simp only [R] at hR
  obtain⟨b,rfl,hu⟩:=hR.2 _ hk
  refine quiet hg hd hn (u:=.pointer (some ⟨b,off+fo,none⟩)) ?_ (by simp only [R]; exact⟨rfl,fun k hk'=>by rw [hk] at hk'; cases hk'; exact⟨b,rfl,rfl⟩⟩)
  simp [execOp,ho,hu,run_fieldAt hf']
 | field_eptr ho hf' hx hb=>
  rename_i S x f fo id sz i j ob
  have hR:=hg.ev x; rw [hx] at hR
  obtain⟨k,hk,hro⟩:=hg.obj hb
  simp only [R] at hR
  obtain⟨u,b,rfl,hub,hu⟩:=hR.2 _ hk
  refine quiet hg hd hn (u:=.pointer (some ⟨b,i*sz+(j+fo),none⟩)) ?_ (by simp only [R]; exact⟨rfl,fun k hk'=>by rw [hk] at hk'; cases hk'; exact⟨u,b,rfl,hub,rfl⟩⟩)
  simp [execOp,ho,hu,run_fieldAt hf',Nat.add_assoc]
 | index_lst ho ht hx hi h0 hr=>
  rename_i T x i e sz by_ z rows k n r
  have hR:=hg.ev x; rw [hx] at hR
  have hI:=hg.ev i; rw [hi] at hI
  simp only [R] at hI
  simp only [R,RI] at hR
  obtain⟨ad,cap,hu,hcap,hrr⟩:=hR
  have hlen:=(List.getElem?_eq_some_iff.1 hr).1
  rcases hrr with rfl | ⟨b,off,rfl,hb,ho',hrows⟩
  ·simp at hlen
  ·obtain⟨hrl,hrc⟩:=RIr_get hrows hr
   refine quiet hg hd hn (u:=.pointer (some ⟨b,off+n.toNat*sz+0,none⟩)) ?_ (by simp only [R,RI]; exact⟨b,_,rfl,hb,ho',hrc⟩)
   simp [execOp,ho,hu,hI,run_indexAt_slice ht h0 hlen]
 | index_hnd ho ht hx hb hi h0 hr=>
  rename_i T x i e sz by_ z id e' rows k n
  have hR:=hg.ev x; rw [hx] at hR
  have hI:=hg.ev i; rw [hi] at hI
  simp only [R] at hI
  obtain⟨ko,hk,hro⟩:=hg.obj hb
  simp only [R] at hR
  have hku:=hR.2 _ hk
  subst hku
  obtain⟨u',vals,hu',hown,hv,hl,h1⟩:=hro
  cases hu'
  rcases hown.2 with ⟨_,hz⟩ | ⟨g,cap,cur,hval,hb0,hgg,hnc,hcm,hcs,htk⟩
  ·omega
  ·refine quiet hg hd hn (u:=.pointer (some ⟨g,n.toNat*sz,none⟩)) ?_ ?_
   ·simp [execOp,ho,hval,hI,run_indexAt_slice ht h0 hr]
   ·simp only [R]
    refine⟨rfl,fun k' hk'=>?_⟩
    rw [hk] at hk'; cases hk'
    exact⟨_,g,rfl,by rw [hval]; rfl,by simp⟩
 | index_ipt ho ht hx hi h0 hr=>
  rename_i T x i len esz cells off k n
  have hR:=hg.ev x; rw [hx] at hR
  have hI:=hg.ev i; rw [hi] at hI
  simp only [R] at hI
  obtain⟨b,p,hu,hb,ho',hc⟩:=R_ipt hR
  refine quiet hg hd hn (u:=.pointer (some ⟨b,p+(off+n.toNat*esz),none⟩)) ?_ (by simp only [R,RI]; exact⟨b,p,rfl,hb,ho',hc⟩)
  simp [execOp,ho,hu,hI,run_indexAt_array ht h0 hr,Nat.add_assoc]
 | index_ptr ho ht hx hb hi h0 hr=>
  rename_i T x i len esz id off ob k n
  have hR:=hg.ev x; rw [hx] at hR
  have hI:=hg.ev i; rw [hi] at hI
  simp only [R] at hI
  obtain⟨ko,hk,hro⟩:=hg.obj hb
  simp only [R] at hR
  obtain⟨b,rfl,hu⟩:=hR.2 _ hk
  refine quiet hg hd hn (u:=.pointer (some ⟨b,off+n.toNat*esz,none⟩)) ?_ (by simp only [R]; exact⟨rfl,fun k hk'=>by rw [hk] at hk'; cases hk'; exact⟨b,rfl,rfl⟩⟩)
  simp [execOp,ho,hu,hI,run_indexAt_array ht h0 hr]
 | store_box ho hz hx hb hy hl h1 hn'=>
  rename_i T x y n ag id cells off cs
  have hR:=hg.ev x; rw [hx] at hR
  obtain⟨k,hk,b,cur,e,rfl,hh,hv,ho1⟩:=hg.obj hb
  simp only [R] at hR
  obtain⟨b',hb',hu⟩:=hR.2 _ hk
  cases hb'
  subst hy
  have hcl:=R_cl (hg.ev y) h1
  have hcn:(a.eval y).cells.size=n:=by have:=Rv_length hcl; simpa [hl] using this
  have hcur:cur.size=cells.length:=by have:=Rv_length hv; simpa using this
  have h1':=Rv_one hcl h1
  refine wp_unit (w':=w.setRow b (cur.toList.take off++(a.eval y).cells.toList++cur.toList.drop (off+n)).toArray) ?_ (hn _ _ ⟨κ,?_⟩)
  ·simp [execOp,ho,hu,Instr.storeAt,Instr.sureAddr]
   rw [run_storeVar hz hh hcn (by omega) h1']
   simp
  ·have hr2:=Rv_aset hv hcl off
   have hgw:=hg.write hk (w':=w.setRow b (cur.toList.take off++(a.eval y).cells.toList++cur.toList.drop (off+n)).toArray) (o:=.box (aset cells off (Ql.ev s.tm y).cl))
    (setRow_size _ _ _) (fun b' hb'=>setRow_other w b b' _ (fun e=>hb' (by simp [KO.blk,e]))) ⟨rfl,rfl,rfl⟩ ?_
   ·exact hgw.putd hd (by simp [R])
   ·have hkp:Keeps w (OW C κ) (w.setRow b (cur.toList.take off++(a.eval y).cells.toList++cur.toList.drop (off+n)).toArray) (OW C κ):=
     ⟨by rw [setRow_size]; exact Nat.le_refl _,fun c _ hno=>⟨hno,setRow_other w b c _ (fun e=>hno (.inr ⟨id,_,hk,by simp [KO.blk,e]⟩))⟩⟩
    refine⟨b,_,e,rfl,setRow_heap w b cur _ e (0,0) hh,?_,?_⟩
    ·have hlen:(a.eval y).cells.toList.length=n:=by simpa using hcn
     rw [hlen] at hr2
     simpa using Rv_mono hkp (fun _ _ e=>e) _ _ hr2
    ·intro v hv'
     simp only [List.toList_toArray,List.mem_append] at hv'
     rcases hv' with (hv' | hv') | hv'
     ·exact ho1 v (List.mem_of_mem_take hv')
     ·exact h1' v hv'
     ·exact ho1 v (List.mem_of_mem_drop hv')
 | store_arr ho hz hx hb hr hy hl h1 him hn'=>
  rename_i T x y n ag id e sz i j rows r cs
  have hR:=hg.ev x; rw [hx] at hR
  obtain⟨k,hk,u,vals,rfl,hown,hv,hlen,ho1⟩:=hg.obj hb
  simp only [R] at hR
  obtain⟨u',b,hu',hub,hu⟩:=hR.2 _ hk
  cases hu'
  subst hy
  have hcl:=R_cl (hg.ev y) h1
  have hcn:(a.eval y).cells.size=n:=by have:=Rv_length hcl; simpa [hl] using this
  have h1':=Rv_one hcl h1
  have hrl:=hlen r (List.mem_of_getElem? hr)
  have hi:=(List.getElem?_eq_some_iff.1 hr).1
  rcases hown.2 with ⟨hval,_⟩ | ⟨g,cap,cur,hval,hb0,hgg,hnc,hcm,hcs,htk⟩
  ·rw [hval] at hub; simp [Value.ownBlock] at hub
  ·have hbg:b=g:=by rw [hval] at hub; simp [Value.ownBlock] at hub; exact hub.symm
   subst hbg
   have hp:i*sz+j+n≤rows.length*sz:=by
    have:(i+1)*sz≤rows.length*sz:=Nat.mul_le_mul_right _ hi
    rw [Nat.add_mul] at this; omega
   have hp2:rows.length*sz≤cap*sz:=Nat.mul_le_mul_right _ hnc
   have hvl:vals.length=rows.length*sz:=hown.1
   refine wp_unit (w':=w.setRow b (cur.toList.take (i*sz+j)++(a.eval y).cells.toList++cur.toList.drop (i*sz+j+n)).toArray) ?_ (hn _ _ ⟨κ,?_⟩)
   ·simp [execOp,ho,hu,Instr.storeAt,Instr.sureAddr]
    rw [run_storeVar hz hgg hcn (by omega) h1']
    simp
   ·have hr2:=Rv_aset hv hcl (i*sz+j)
    rw [← flatten_set (fun r hr=>(hlen r hr).1) hr (by omega)] at hr2
    have hgw:=hg.write hk (w':=w.setRow b (cur.toList.take (i*sz+j)++(a.eval y).cells.toList++cur.toList.drop (i*sz+j+n)).toArray) (o:=.arr e sz (rows.set i (aset r j (Ql.ev s.tm y).cl)))
     (setRow_size _ _ _) (fun b' hb'=>setRow_other w b b' _ (fun e=>hb' (by simp [KO.blk,vblk_own hown,hub,e]))) ⟨rfl,rfl,rfl⟩ ?_
    ·exact hgw.putd hd (by simp [R])
    ·have hkp:Keeps w (OW C κ) (w.setRow b (cur.toList.take (i*sz+j)++(a.eval y).cells.toList++cur.toList.drop (i*sz+j+n)).toArray) (OW C κ):=
      ⟨by rw [setRow_size]; exact Nat.le_refl _,fun c _ hno=>⟨hno,setRow_other w b c _ (fun e=>hno (.inr ⟨id,_,hk,by simp [KO.blk,vblk_own hown,hub,e]⟩))⟩⟩
     have hlc:(a.eval y).cells.toList.length=n:=by simpa using hcn
     rw [hlc] at hr2
     have he:(cur.toList.take (i*sz+j)++(a.eval y).cells.toList++cur.toList.drop (i*sz+j+n)).toArray.toList.take ((rows.set i (aset r j (Ql.ev s.tm y).cl)).length*sz) =
       vals.take (i*sz+j)++(a.eval y).cells.toList++vals.drop (i*sz+j+n):=by
      subst htk
      simp only [List.length_set]
      apply List.ext_getElem?
      intro q
      simp only [List.getElem?_take,List.getElem?_append,List.getElem?_drop,List.length_append,List.length_take,Array.length_toList,hcs,hlc]
      have m1:Min.min (i*sz+j) (cap*sz)=i*sz+j:=by omega
      have m2:Min.min (i*sz+j) (Min.min (rows.length*sz) (cap*sz))=i*sz+j:=by omega
      rw [m1,m2]
      by_cases q1:q < rows.length*sz
      ·by_cases q2:q < i*sz+j+n
       ·by_cases q3:q < i*sz+j
        ·simp [q1,q2,q3]
        ·simp [q1,q2,q3]
       ·have q4:i*sz+j+n+(q - (i*sz+j+n))=q:=by omega
        simp [q1,q2,q4]
      ·have q2:¬ q < i*sz+j+n:=by omega
       have q4:i*sz+j+n+(q - (i*sz+j+n))=q:=by omega
       simp [q1,q2,q4]
     refine⟨u,_,rfl,⟨?_,.inr ⟨b,cap,_,by simpa using hval,hb0,setRow_heap w b cur _ e (0,0) hgg,by simpa using hnc,hcm,?_,rfl⟩⟩,?_,?_,?_⟩
     ·have:=Rv_length hr2
      simp only [List.length_set,List.length_take,List.length_append,List.length_drop,Array.length_toList,hcs,hlc]
      omega
     ·simp only [List.size_toArray,List.length_append,List.length_take,List.length_drop,Array.length_toList,hcs,hlc]
      omega
     ·have hR3:=Rv_mono hkp (fun _ _ e=>e) _ _ hr2
      rw [he]
      exact hR3
     ·intro q hq
      rcases List.mem_or_eq_of_mem_set hq with hq | rfl
      ·exact hlen q hq
      ·refine⟨by rw [aset_length (by omega)]; exact hrl.1,?_⟩
       have hri:=(hlen r (List.mem_of_getElem? hr)).2
       unfold aset
       simp only [List.all_append,Bool.and_eq_true]
       exact⟨⟨List.all_eq_true.2 fun x hx=>List.all_eq_true.1 hri x (List.mem_of_mem_take hx),him⟩,List.all_eq_true.2 fun x hx=>List.all_eq_true.1 hri x (List.mem_of_mem_drop hx)⟩
     ·intro v hv'
      rw [he] at hv'
      simp only [List.mem_append] at hv'
      rcases hv' with (hv' | hv') | hv'
      ·exact ho1 v (List.mem_of_mem_take hv')
      ·exact h1' v hv'
      ·exact ho1 v (List.mem_of_mem_drop hv')
 | alloc ho hd' hz h1 hsub=>
  rename_i T z id cs
  have hzi:∃ i,P.info? T=some i∧i.zero=some z:=by
   unfold Zer at hz
   cases hi:P.info? T with
   | none=>simp [hi] at hz
   | some i=>simp [hi] at hz; exact⟨i,rfl,hz⟩
  obtain⟨i,hi,hzz⟩:=hzi
  have hfr:s.fresh C.ob0 id:=(hf (id,_) (List.mem_singleton.2 rfl)).resolve_left (by simp)
  refine wp_value (v:=.pointer (some ⟨w.heap.size,0,none⟩)) (w':=w.alloc (.cells z.cells T)) ?_ (hn _ _ ⟨κ.set id (some (.box w.heap.size)),?_⟩)
  ·simp [execOp,ho,Instr.alloc,zeroValue,typeInfo,hi,hzz,newVar,newRow]
  ·have hgc:=hg.create hfr (w':=w.alloc (.cells z.cells T)) (k:=.box w.heap.size) (o:=.box cs) (by simp) (fun b hb=>heap_alloc_old w _ b hb) ⟨rfl,rfl,rfl⟩
    (fun b hb=>by simp [KO.blk] at hb; omega) ⟨_,z.cells,T,rfl,heap_alloc_new w _,?_,fun v hv=>List.all_eq_true.1 h1 v hv⟩
   ·exact hgc.putd hd (by simp only [R]; exact⟨rfl,fun k hk=>by simp [Kap.set] at hk; subst hk; exact⟨_,rfl,rfl⟩⟩)
   ·refine Rv_sub hsub ?_
    generalize z.cells.toList=l
    induction l with
    | nil=>simp [Rv]
    | cons x xs ih=>simp only [List.map_cons,Rv]; exact⟨_,_,rfl,by simp [R],ih⟩
 | box_ipt ho hx h1 hi=>
  rename_i T x cs
  subst hx
  have hcl:=R_cl (hg.ev x) h1
  refine quiet_new hg hd hn (u:=.pointer (some ⟨w.heap.size,0+0,none⟩)) (ob:=.cells (a.eval x).cells T) ?_ ?_
  ·simp [execOp,ho,Instr.box,newVar,newRow]
  ·simp only [R,RI]
   exact⟨_,0,rfl,by simp,not_owned_new hg,RIc_new hcl hi (Rv_one hcl h1)⟩
 | box_ptr ho hd' hx h1=>
  rename_i T x cs id
  subst hx
  have hcl:=R_cl (hg.ev x) h1
  have hfr:s.fresh C.ob0 id:=(hf (id,_) (List.mem_singleton.2 rfl)).resolve_left (by simp)
  refine wp_value (v:=.pointer (some ⟨w.heap.size,0,none⟩)) (w':=w.alloc (.cells (a.eval x).cells T)) ?_ (hn _ _ ⟨κ.set id (some (.box w.heap.size)),?_⟩)
  ·simp [execOp,ho,Instr.box,newVar,newRow]
  ·have hgc:=hg.create hfr (w':=w.alloc (.cells (a.eval x).cells T)) (k:=.box w.heap.size) (o:=.box (Ql.ev s.tm x).cl) (by simp) (fun b hb=>heap_alloc_old w _ b hb) ⟨rfl,rfl,rfl⟩
    (fun b hb=>by simp [KO.blk] at hb; omega) ⟨_,(a.eval x).cells,T,rfl,heap_alloc_new w _,?_,Rv_one hcl h1⟩
   ·exact hgc.putd hd (by simp only [R]; exact⟨rfl,fun k hk=>by simp [Kap.set] at hk; subst hk; exact⟨_,rfl,rfl⟩⟩)
   ·exact Rv_new hg hfr rfl (ev_men hfr x) hcl
 | build ho hz hp hb hsub=>
  rename_i T z cs0 cs ps parts
  have hpart:∀ l:List (Nat × Operand),Rv w (OW C κ) κ ((l.map fun p=>(p.1,Ql.ev s.tm p.2)).map (·.2)) ((l.map fun p=>(p.1,a.eval p.2)).map (·.2)):=by
   intro l
   induction l with
   | nil=>simp [Rv]
   | cons x xs ih=>simp only [List.map_cons,Rv]; exact⟨_,_,rfl,hg.ev _,ih⟩
  have hz0:Rv w (OW C κ) κ (z.cells.toList.map .sc) z.cells.toList:=by
   generalize z.cells.toList=l
   induction l with
   | nil=>simp [Rv]
   | cons x xs ih=>simp only [List.map_cons,Rv]; exact⟨_,_,rfl,by simp [R],ih⟩
  obtain⟨c,hc,hR⟩:=fill_ok (parts:=parts.toList.map fun p=>(p.1,Ql.ev s.tm p.2)) (vs:=parts.toList.map fun p=>(p.1,a.eval p.2)) (by rw [List.map_map,List.map_map]; rfl) (hpart _) hz0 hb
  refine quiet hg hd hn (u:=.agg c) ?_ (by simp only [R]; exact⟨c,rfl,Rv_sub hsub hR⟩)
  have:=hp w _ c hc
  have he:(parts.map fun(x:Nat × Operand)=>(x.1,a.eval x.2))=(parts.toList.map fun(p:Nat × Operand)=>(p.1,a.eval p.2)).toArray:=by apply Array.ext'; rw [Array.toList_map]
  simp only [execOp,ho]
  rw [he]
  simp [this]
 | slice_lit ho ht hnn hb hsub hl hs h1 hi=>
  rename_i T len e sz by_ z rows fl parts
  obtain⟨i,hi',his,hib,hiz⟩:=ht.info
  have hpart:∀ l:List (Nat × Operand),Rv w (OW C κ) κ ((l.map fun p=>(p.1,Ql.ev s.tm p.2)).map (·.2)) ((l.map fun p=>(p.1,a.eval p.2)).map (·.2)):=by
   intro l
   induction l with
   | nil=>simp [Rv]
   | cons x xs ih=>simp only [List.map_cons,Rv]; exact⟨_,_,rfl,hg.ev _,ih⟩
  have key:∃ cur:Array Value,cur.size=len*sz∧∀ (vs:List (Nat × Value)) (c:Array Value),Instr.fill (fun i=>some (i*sz,sz)) cur vs=some c→(Instr.buildSlice T len vs.toArray).run P w=.ok (.slice (some ⟨w.heap.size,0,none⟩) len len) (w.alloc (.cells c e)):=by
   by_cases h0:len*sz=0
   ·refine⟨(Array.range (len*sz)).map ((#[]:Array Value)[· % (#[]:Array Value).size]!),by simp,fun vs c hc=>?_⟩
    simp only [Instr.buildSlice,Sem.run_bind,run_underlying ht.und,Result.andThen_ok,run_size (P:=P) (T:=e) (n:=sz) (by simp [hi',his])]
    rw [if_neg (by omega)]
    simp only [h0,if_true,Sem.run_pure,Result.andThen_ok,Sem.run_bind] at hc ⊢
    rw [hc]
    simp [newRow]
   ·refine⟨(Array.range (len*sz)).map (z.cells[· % z.cells.size]!),by simp,fun vs c hc=>?_⟩
    simp only [Instr.buildSlice,Sem.run_bind,run_underlying ht.und,Result.andThen_ok,run_size (P:=P) (T:=e) (n:=sz) (by simp [hi',his])]
    rw [if_neg (by omega)]
    simp only [h0,if_false,zeroValue,typeInfo,hi',hiz,Sem.run_bind,run_program,Result.andThen_ok,Sem.run_pure]
    rw [hc]
    simp [newRow]
  obtain⟨cur,hcs,hrun⟩:=key
  have hz0:Rv w (OW C κ) κ (List.replicate (len*sz) .undef) cur.toList:=
   Rv_of (by simp [hcs]) fun k x v hk _=>by
    have:=List.mem_of_getElem? hk
    simp at this; rw [this.2]; simp [R]
  obtain⟨c,hc,hR⟩:=fill_ok (parts:=parts.toList.map fun p=>(p.1,Ql.ev s.tm p.2)) (vs:=parts.toList.map fun p=>(p.1,a.eval p.2)) (by rw [List.map_map,List.map_map]; rfl) (hpart _) hz0 hb
  have hR:=Rv_sub hsub hR
  have h1':=Rv_one hR h1
  refine quiet_new hg hd hn (u:=.slice (some ⟨w.heap.size,0,none⟩) rows.length rows.length) (ob:=.cells c e) ?_ ?_
  ·have he:(parts.map fun(x:Nat × Operand)=>(x.1,a.eval x.2))=(parts.toList.map fun(p:Nat × Operand)=>(p.1,a.eval p.2)).toArray:=by apply Array.ext'; rw [Array.toList_map]
   simp only [execOp,ho]
   rw [he]
   simp [hrun _ c hc,hl]
  ·simp only [R,RI]
   refine⟨_,_,rfl,Nat.le_refl _,?_⟩
   by_cases hr0:rows=[]
   ·exact .inl hr0
   ·exact .inr ⟨_,0,rfl,by simp,not_owned_new hg,chunk_RIr hs (RIc_new hR hi h1')⟩
 | slice_obj ho ht hnn hb hsub hl hs h1 hi=>
  rename_i T len e sz by_ z rows fl id parts
  obtain⟨i,hi',his,hib,hiz⟩:=ht.info
  have hpart:∀ l:List (Nat × Operand),Rv w (OW C κ) κ ((l.map fun p=>(p.1,Ql.ev s.tm p.2)).map (·.2)) ((l.map fun p=>(p.1,a.eval p.2)).map (·.2)):=by
   intro l
   induction l with
   | nil=>simp [Rv]
   | cons x xs ih=>simp only [List.map_cons,Rv]; exact⟨_,_,rfl,hg.ev _,ih⟩
  have key:∃ cur:Array Value,cur.size=len*sz∧∀ (vs:List (Nat × Value)) (c:Array Value),Instr.fill (fun i=>some (i*sz,sz)) cur vs=some c→(Instr.buildSlice T len vs.toArray).run P w=.ok (.slice (some ⟨w.heap.size,0,none⟩) len len) (w.alloc (.cells c e)):=by
   by_cases h0:len*sz=0
   ·refine⟨(Array.range (len*sz)).map ((#[]:Array Value)[· % (#[]:Array Value).size]!),by simp,fun vs c hc=>?_⟩
    simp only [Instr.buildSlice,Sem.run_bind,run_underlying ht.und,Result.andThen_ok,run_size (P:=P) (T:=e) (n:=sz) (by simp [hi',his])]
    rw [if_neg (by omega)]
    simp only [h0,if_true,Sem.run_pure,Result.andThen_ok,Sem.run_bind] at hc ⊢
    rw [hc]
    simp [newRow]
   ·refine⟨(Array.range (len*sz)).map (z.cells[· % z.cells.size]!),by simp,fun vs c hc=>?_⟩
    simp only [Instr.buildSlice,Sem.run_bind,run_underlying ht.und,Result.andThen_ok,run_size (P:=P) (T:=e) (n:=sz) (by simp [hi',his])]
    rw [if_neg (by omega)]
    simp only [h0,if_false,zeroValue,typeInfo,hi',hiz,Sem.run_bind,run_program,Result.andThen_ok,Sem.run_pure]
    rw [hc]
    simp [newRow]
  obtain⟨cur,hcs,hrun⟩:=key
  have hz0:Rv w (OW C κ) κ (List.replicate (len*sz) .undef) cur.toList:=
   Rv_of (by simp [hcs]) fun k x v hk _=>by
    have:=List.mem_of_getElem? hk
    simp at this; rw [this.2]; simp [R]
  obtain⟨c,hc,hR⟩:=fill_ok (parts:=parts.toList.map fun p=>(p.1,Ql.ev s.tm p.2)) (vs:=parts.toList.map fun p=>(p.1,a.eval p.2)) (by rw [List.map_map,List.map_map]; rfl) (hpart _) hz0 hb
  have hR:=Rv_sub hsub hR
  have h1':=Rv_one hR h1
  have hfr:s.fresh C.ob0 id:=(hf (id,_) (List.mem_singleton.2 rfl)).resolve_left (by simp)
  have hrun':(execOp a.eval o).run P w=.ok (.value (.slice (some ⟨w.heap.size,0,none⟩) rows.length rows.length)) (w.alloc (.cells c e)):=by
   have he:(parts.map fun(x:Nat × Operand)=>(x.1,a.eval x.2))=(parts.toList.map fun(p:Nat × Operand)=>(p.1,a.eval p.2)).toArray:=by apply Array.ext'; rw [Array.toList_map]
   simp only [execOp,ho]
   rw [he]
   simp [hrun _ c hc,hl]
  have hfl:=flatten_len (sz:=sz) (rows:=rows) hs
  have hcz:c.size=rows.length*sz:=(Array.length_toList (xs:=c)).symm.trans ((Rv_length hR).trans hfl)
  have hlen63:rows.length≤maxLen:=by
   have h0:=ht.2.2.2
   have:rows.length*1≤rows.length*sz:=Nat.mul_le_mul_left _ h0
   rw [← hl] at hnn
   simp only [maxLen]; omega
  refine wp_value hrun' (hn _ _ ⟨κ.set id (some (.arr (.slice (some ⟨w.heap.size,0,none⟩) rows.length rows.length))),?_⟩)
  have hkp:Keeps w (OW C κ) (w.alloc (.cells c e)) (OW C (κ.set id (some (.arr (.slice (some ⟨w.heap.size,0,none⟩) rows.length rows.length))))):=⟨by simp,fun b hb hno=>⟨by
   rintro(hx | ⟨i,l,hi,hbl⟩)
   ·exact hno (.inl hx)
   ·simp only [Kap.set] at hi
    split at hi
    ·cases hi; simp [KO.blk,vblk] at hbl; omega
    ·exact hno (.inr ⟨i,l,hi,hbl⟩),heap_alloc_old w _ b hb⟩⟩
  have hgc:=hg.create hfr (w':=w.alloc (.cells c e)) (k:=.arr (.slice (some ⟨w.heap.size,0,none⟩) rows.length rows.length)) (o:=.arr e sz rows) (by simp) (fun b hb=>heap_alloc_old w _ b hb) ⟨rfl,rfl,rfl⟩
   (fun b hb=>by simp [KO.blk,vblk] at hb; omega)
   ⟨_,c.toList,rfl,⟨by simpa using hcz,.inr ⟨w.heap.size,rows.length,c,rfl,Nat.zero_le _,heap_alloc_new w _,Nat.le_refl _,hlen63,hcz,by rw [List.take_of_length_le (by simp [hcz])]⟩⟩,
    Rv_of_RIv _ _ (RIv_mono hkp _ _ (RI_all hR hi)),fun r hr=>⟨hs r hr,List.all_eq_true.2 fun x hx=>List.all_eq_true.1 hi x (List.mem_flatten.2 ⟨r,hr,hx⟩)⟩,h1'⟩
  exact hgc.putd hd (by simp only [R]; exact⟨rfl,fun k hk=>by simp [Kap.set] at hk; exact hk.symm⟩)
 | slice_new ho hd' ht=>
  rename_i T e sz by_ z id
  obtain⟨i,hi',his,hib,hiz⟩:=ht.info
  have hfr:s.fresh C.ob0 id:=(hf (id,_) (List.mem_singleton.2 rfl)).resolve_left (by simp)
  refine wp_value (v:=.slice (some ⟨w.heap.size,0,none⟩) 0 0) (w':=w.alloc (.cells #[] e)) ?_ (hn _ _ ⟨κ.set id (some (.arr (.slice (some ⟨w.heap.size,0,none⟩) 0 0))),?_⟩)
  ·simp [execOp,ho,Instr.buildSlice,run_underlying ht.und,run_size (P:=P) (T:=e) (n:=sz) (by simp [hi',his]),Instr.fill,newRow]
   have h0:(Array.range 0:Array Nat)=#[]:=by apply Array.ext' ; simp
   rw [h0]; simp
  ·have hgc:=hg.create hfr (w':=w.alloc (.cells #[] e)) (k:=.arr (.slice (some ⟨w.heap.size,0,none⟩) 0 0)) (o:=.arr e sz []) (by simp) (fun b hb=>heap_alloc_old w _ b hb) ⟨rfl,rfl,rfl⟩
    (fun b hb=>by simp [KO.blk,vblk] at hb; omega)
    ⟨_,[],rfl,World.ownsRow_made w #[] 0 (Nat.zero_le _) (by simp [maxLen]) (by simp),by simp [Rv],by simp,by simp⟩
   exact hgc.putd hd (by simp only [R]; exact⟨rfl,fun k hk=>by simp [Kap.set] at hk; exact hk.symm⟩)
 | extract ho hx hv=>
  rename_i x i vs
  have hR:=hg.ev x; rw [hx] at hR
  simp only [R] at hR
  obtain⟨us,hu,hv'⟩:=hR
  obtain⟨u,hu1,hu2⟩:=Rv_get hv' hv
  refine quiet hg hd hn (u:=u) ?_ hu2
  have:us[i]?=some u:=by simpa using hu1
  simp [execOp,ho,hu,Instr.extract,this]
 | pick ho hc hv=>
  rename_i c x y b
  have hC:=hg.ev c; rw [hc] at hC
  simp only [R] at hC
  cases b with
  | true=>exact quiet hg hd hn (u:=a.eval x) (by simp [execOp,ho,hC,asBool]) (by simp at hv; rw [← hv]; exact hg.ev x)
  | false=>exact quiet hg hd hn (u:=a.eval y) (by simp [execOp,ho,hC,asBool]) (by simp at hv; rw [← hv]; exact hg.ev y)
 | bin ho hx hy hv=>
  rename_i op T x y U k n m v
  have hX:=hg.ev x; rw [hx] at hX; simp only [R] at hX
  have hY:=hg.ev y; rw [hy] at hY; simp only [R] at hY
  refine quiet hg hd hn (u:=v) ?_ (by simp [R])
  have:=run_bin2 (P:=P) (w:=w) (T:=T) (x:=x) (y:=y) hv
  simp only [execOp,ho,hX,hY,Sem.run_bind,this,Result.andThen_ok] at this ⊢
  simp [this]
 | div ho hx hy hop hm=>
  rename_i op T x y U k n m
  have hX:=hg.ev x; rw [hx] at hX; simp only [R] at hX
  have hY:=hg.ev y; rw [hy] at hY; simp only [R] at hY
  refine quiet hg hd hn (u:=.int k (if op=.quo then k.wrap (n.tdiv m) else n.tmod m)) ?_ (by simp [R])
  have:=run_div (P:=P) (w:=w) (T:=T) (x:=x) (y:=y) (k:=k) (n:=n) hm hop
  simp only [execOp,ho,hX,hY,Sem.run_bind,this,Result.andThen_ok] at this ⊢
  simp [this]
 | binc ho hx hy hv=>
  rename_i op T x y U X Y V
  have hX:=hg.ev x; rw [hx] at hX; have hX:=ofConst_eq hX
  have hY:=hg.ev y; rw [hy] at hY; have hY:=ofConst_eq hY
  refine quiet hg hd hn (u:=V) ?_ (R_ofConst V)
  have:=hv w
  simp only [execOp,ho,hX,hY,Sem.run_bind] at this ⊢
  simp [this]
 | nilcmp ho hT hx hne=>
  rename_i T x U e sz rows
  have hR:=hg.ev x; rw [hx] at hR
  simp only [R,RI] at hR
  obtain⟨ad,cap,hv,_,hr⟩:=hR
  obtain⟨b,off,had,_⟩:=hr.resolve_left hne
  subst had
  refine quiet hg hd hn (u:=.bool false) ?_ (by simp [R])
  have h2:∀ v:Value,(Op.equal T (.slice (some ⟨b,off,none⟩) rows.length cap) (.slice none 0 0)).run P w=.ok false w:=by
   intro _
   unfold Op.equal
   rw [show Op.maxDepth=9999+1 from rfl,Op.equalIn]
   simp only [Sem.run_bind,run_underlying hT,Result.andThen_ok]
   rfl
  have hc0:a.eval (.const (.slice none 0 0))=.slice none 0 0:=rfl
  simp [execOp,ho,hv,eqGuard,binOp,h2 .nilFunc,hc0]
 | un ho hx hv=>
  rename_i op T x X V
  have hX:=hg.ev x; rw [hx] at hX; simp only [R] at hX
  refine quiet hg hd hn (u:=V) ?_ (by simp [R])
  simp [execOp,ho,hX,hv w]
 | conv ho hx hv=>
  rename_i S T x X V
  have hX:=hg.ev x; rw [hx] at hX; simp only [R] at hX
  refine quiet hg hd hn (u:=V) ?_ (by simp [R])
  simp [execOp,ho,hX,hv w]
 | len_lst ho ht hx=>
  rename_i T x e sz by_ z rows sz'
  have hX:=hg.ev x; rw [hx] at hX; simp only [R,RI] at hX
  obtain⟨ad,cap,hu,_⟩:=hX
  refine quiet hg hd hn (u:=.int .i64 rows.length) ?_ (by simp [R])
  simp [execOp,ho,resolve,invoke,builtin,hu,run_len_slice ht]
 | len_hnd ho ht hx hb=>
  rename_i T x e sz by_ z id e' sz' rows
  have hR:=hg.ev x; rw [hx] at hR
  obtain⟨ko,hk,hro⟩:=hg.obj hb
  simp only [R] at hR
  have hku:=hR.2 _ hk
  subst hku
  obtain⟨u',vals,hu',hown,hv,hl,h1⟩:=hro
  cases hu'
  refine quiet hg hd hn (u:=.int .i64 rows.length) ?_ (by simp [R])
  rcases hown.2 with ⟨hval,hz⟩ | ⟨g,cap,cur,hval,_⟩
  ·simp [execOp,ho,resolve,invoke,builtin,hval,run_len_slice ht,hz]
  ·simp [execOp,ho,resolve,invoke,builtin,hval,run_len_slice ht]
 | min ho hx hy=>
  rename_i x y ts k n m
  have hX:=hg.ev x; rw [hx] at hX; simp only [R] at hX
  have hY:=hg.ev y; rw [hy] at hY; simp only [R] at hY
  refine quiet hg hd hn (u:=.int k (if m < n then m else n)) ?_ (by simp [R])
  simp [execOp,ho,resolve,invoke,builtin,hX,hY,Builtin.min_,Builtin.min2]
 | max ho hx hy=>
  rename_i x y ts k n m
  have hX:=hg.ev x; rw [hx] at hX; simp only [R] at hX
  have hY:=hg.ev y; rw [hy] at hY; simp only [R] at hY
  refine quiet hg hd hn (u:=.int k (if m > n then m else n)) ?_ (by simp [R])
  simp [execOp,ho,resolve,invoke,builtin,hX,hY,Builtin.max_,Builtin.max2]
 | nil_ipt ho hx=>
  rename_i x cells off
  have hR:=hg.ev x; rw [hx] at hR
  obtain⟨b,p,hu,hb,ho',hc⟩:=R_ipt hR
  refine quiet hg hd hn (u:=a.eval x) ?_ (by rw [← hx]; exact hg.ev x)
  simp [execOp,ho,hu]
 | nil_ptr ho hx hb=>
  rename_i x id off ob
  have hR:=hg.ev x; rw [hx] at hR
  obtain⟨ko,hk,hro⟩:=hg.obj hb
  simp only [R] at hR
  obtain⟨b,rfl,hu⟩:=hR.2 _ hk
  refine quiet hg hd hn (u:=a.eval x) ?_ (by rw [← hx]; exact hg.ev x)
  simp [execOp,ho,hu]
 | func ho hv=>
  rename_i f cs vs
  refine quiet hg hd hn (u:=.func (.func f) #[] (cs.map a.eval)) ?_ ?_
  ·simp [execOp,ho,Instr.makeFunc]
  ·simp only [R]
   refine⟨_,rfl,?_⟩
   subst hv
   simp only [Array.toList_map]
   generalize cs.toList=l
   induction l with
   | nil=>simp [Rv]
   | cons x xs ih=>simp only [List.map_cons,Rv]; exact⟨_,_,rfl,hg.ev x,ih⟩
 | iface ho hd' hni=>
  rename_i T x d
  refine quiet hg hd hn (u:=.iface T (a.eval x)) ?_ (by simp only [R]; exact⟨_,rfl,hg.ev x⟩)
  simp only [execOp,ho,Instr.makeInterface,Sem.run_bind,run_underlying hd',Result.andThen_ok]
  cases d <;> simp at hni ⊢
 | sub ho ht hx hlo hhi h1 h2=>
  rename_i T x lo hi e sz by_ z rows l h
  have hR:=hg.ev x; rw [hx] at hR
  obtain⟨ad,cap,hu,hcap,hrr⟩:=R_lst hR
  obtain⟨i,hi',his,hib,hiz⟩:=ht.info
  have hlen:((rows.drop l).take (h - l)).length=h - l:=by simp; omega
  have hbounds:(Instr.sliceBounds true rows.length cap (lo.map a.eval) (hi.map a.eval) none).run P w=.ok (l,h,cap) w:=by
   have hH:(match hi.map a.eval with | some v=>Instr.sliceBound v cap .sliceAcap | none=>pure rows.length:Sem Nat).run P w=.ok h w:=by
    cases hi with
    | none=>simp only at hhi; subst hhi; simp
    | some y=>
     obtain⟨k,hk⟩:=hhi
     have hy:=hg.ev y; rw [hk] at hy; simp only [R] at hy
     have hle:h≤cap:=by omega
     simp [hy,Instr.sliceBound,asIntOf,hle]
   have hL:(match lo.map a.eval with | some v=>Instr.sliceBound v h .sliceB | none=>pure 0:Sem Nat).run P w=.ok l w:=by
    cases lo with
    | none=>simp only at hlo; subst hlo; simp
    | some y=>
     obtain⟨k,hk⟩:=hlo
     have hy:=hg.ev y; rw [hk] at hy; simp only [R] at hy
     simp [hy,Instr.sliceBound,asIntOf,h1]
   unfold Instr.sliceBounds
   cases hi <;> cases lo <;> simp at hH hL ⊢ <;> simp [hH,hL]
  refine quiet hg hd hn (u:=.slice (if cap=l then ad else ad.map (·.add (l*sz))) (h - l) (cap - l)) ?_ ?_
  ·simp [execOp,ho,Instr.sliceAt,run_underlying ht.und,hu,Instr.slice,hbounds,run_size (P:=P) (T:=e) (n:=sz) (by simp [hi',his])]
  ·simp only [R,RI]
   refine⟨if cap=l then ad else ad.map (·.add (l*sz)),cap - l,by rw [hlen],by omega,?_⟩
   by_cases hcl:cap=l
   ·left; apply List.eq_nil_of_length_eq_zero; omega
   ·rcases hrr with rfl | ⟨b,off,rfl,hb,ho',hrows⟩
    ·left; simp
    ·right
     refine⟨b,off+l*sz,by rw [if_neg hcl]; simp [Addr.add_lit],hb,ho',RIr_of fun q r hq=>?_⟩
     rw [List.getElem?_take] at hq
     split at hq
     ·rw [List.getElem?_drop] at hq
      have:=RIr_get hrows hq
      rwa [show off+(l+q)*sz=off+l*sz+q*sz by rw [Nat.add_mul]; omega] at this
     ·cases hq
 | make ho hd' ht hx hy hb h63 h1=>
  rename_i T x y e sz by_ z k k' n id
  obtain⟨i,hi',his,hib,hiz⟩:=ht.info
  have hX:=hg.ev x; rw [hx] at hX; simp only [R] at hX
  have hY:=hg.ev y; rw [hy] at hY; simp only [R] at hY
  have hfr:s.fresh C.ob0 id:=(hf (id,_) (List.mem_singleton.2 rfl)).resolve_left (by simp)
  obtain⟨w',hr,hown,hgr⟩:=run_make_full (P:=P) w w.heap.size T e i z sz ht.und hi' hiz his k k' n (by rw [hib]; exact hb) h63 (Nat.le_refl _)
  have hold:∀ b,b < w.heap.size→w'.heap[b]?=w.heap[b]?:=fun b hb=>hgr.block b hb (by simp)
  refine wp_value (v:=.slice (some ⟨w.heap.size,0,none⟩) n n) (w':=w') ?_ (hn _ _ ⟨κ.set id (some (.arr (.slice (some ⟨w.heap.size,0,none⟩) n n))),?_⟩)
  ·simp [execOp,ho,hX,hY,hr]
  ·have hzl:(z.cells.toList.map AV.sc).length=sz:=by simpa using ht.2.2.1
   have hsz0:=ht.2.2.2
   have hgc:=hg.create hfr (w':=w') (k:=.arr (.slice (some ⟨w.heap.size,0,none⟩) n n)) (o:=.arr e sz (List.replicate n (z.cells.toList.map .sc))) hgr.size hold ⟨hgr.os,hgr.tape,hgr.output⟩
    (fun b hb=>by simp [KO.blk,vblk] at hb; omega)
    ⟨_,(madeCells z.cells (n*sz)).toList,rfl,⟨by rw [List.length_replicate]; exact hown.1,?_⟩,?_,?_,?_⟩
   ·exact hgc.putd hd (by simp only [R]; exact⟨rfl,fun k hk=>by simp [Kap.set] at hk; exact hk.symm⟩)
   ·rcases hown.2 with hn' | ⟨g,cap,cur,e1,e2,e3⟩
    ·exact .inl (by simpa using hn')
    ·exact .inr ⟨g,cap,cur,by simpa using e1,Nat.zero_le _,by simpa using e3⟩
   ·refine Rv_of (by simp [madeCells,flatten_len (sz:=sz) (rows:=List.replicate n (z.cells.toList.map AV.sc)) (fun r hr=>by rw [(List.mem_replicate.1 hr).2]; exact hzl)]) fun q x v hq hv=>?_
    have hql:q < n*sz:=by
     have:=(List.getElem?_eq_some_iff.1 hv).1
     simpa [madeCells] using this
    rw [repl_flat _ n q (by rw [hzl]; exact hql),hzl,List.getElem?_map] at hq
    have hmod:q % sz < z.cells.size:=by rw [ht.2.2.1]; exact Nat.mod_lt _ hsz0
    have hv2:v=z.cells[q % sz]!:=by
     simp [madeCells,ht.2.2.1] at hv
     obtain⟨q',hq',hv'⟩:=hv
     rw [List.getElem?_range hql] at hq'
     cases hq'
     exact hv'.symm
    rw [Array.getElem?_toList,Array.getElem?_eq_getElem hmod] at hq
    simp at hq
    subst hq
    simp only [R]
    rw [hv2,getElem!_pos z.cells (q % sz) hmod]
   ·intro r hr; rw [(List.mem_replicate.1 hr).2]; exact⟨hzl,by simp [AV.im]⟩
   ·intro v hv
    simp only [madeCells,Array.toList_map,List.mem_map] at hv
    obtain⟨q,_,rfl⟩:=hv
    have hmod:q % z.cells.size < z.cells.size:=Nat.mod_lt _ (by rw [ht.2.2.1]; exact hsz0)
    rw [getElem!_pos z.cells _ hmod]
    exact List.all_eq_true.1 h1 _ (by simp)
 | append ho hd' ht hx hb hy h1 hi hnn h63 hne=>
  rename_i T x y e sz by_ z id d rows news
  have hX:=hg.ev x; rw [hx] at hX; simp only [R] at hX
  have hY:=hg.ev y; rw [hy] at hY
  obtain⟨k0,hk0,u,vals,rfl,hown,hv,hlen,ho1⟩:=hg.obj hb
  have hu:=hX.2 _ hk0
  cases hu
  have hfr:s.fresh C.ob0 d:=(hf (d,_) (List.mem_cons_self ..)).resolve_left (by simpa using hne)
  obtain⟨ad,c,us,hyv,hul,hus,hnone,hu1,huR,hnl⟩:=news_vals hY h1
  obtain⟨v',w',hr,hown',hgr,hblk⟩:=run_app (P:=P) (ty:=o.type) ht hown (c:=c) hul hus hnone hu1 h63 hnn
  refine wp_value (v:=v') (w':=w') ?_ (hn _ _ ⟨(κ.set id none).set d (some (.arr v')),?_⟩)
  ·simp [execOp,ho,resolve,invoke,builtin,hyv,hr]
  ·have hgc:=hg.swap hk0 hfr hne (w':=w') (k:=.arr v') (o:=.arr e sz (rows++news)) hgr.size (fun b hb hn=>hgr.block b hb (fun e=>hn (by rw [← vblk_own hown] at e; exact e.symm))) ⟨hgr.os,hgr.tape,hgr.output⟩ (fun b hb=>by have:=hblk b (by rw [← vblk_own hown']; exact hb); rw [← vblk_own hown] at this; exact this)
    (fun hkp=>⟨v',vals++us,rfl,by simpa using hown',?_,?_,?_⟩)
   ·refine hgc.putd hd ?_
    simp only [R]
    refine⟨?_,fun k hk=>by simp [Kap.set] at hk; exact hk.symm⟩
    rcases hown'.2 with ⟨rfl,_⟩ | ⟨g,cap,cur,rfl,_⟩ <;> rfl
   ·rw [List.flatten_append]
    refine Rv_append (Rv_men hkp _ _ (fun i l e=>?_) hv) (Rv_of_RIv _ _ (RIv_mono hkp _ _ huR))
    simp only [Kap.set] at e
    by_cases h1:i=d
    ·subst h1
     exact .inr (menL_im _ (flat_im hlen))
    ·rw [if_neg h1] at e
     split at e
     ·cases e
     ·exact .inl e
   ·intro r hr
    rcases List.mem_append.1 hr with hr | hr
    ·exact hlen r hr
    ·exact⟨hnl r hr,List.all_eq_true.2 fun x hx=>List.all_eq_true.1 hi x (List.mem_flatten.2 ⟨r,hr,hx⟩)⟩
   ·intro v hv
    rcases List.mem_append.1 hv with hv | hv
    ·exact ho1 v hv
    ·exact hu1 v hv
 | append_nil ho hd' ht hx hy h1 hi hnn h63=>
  rename_i T x y e sz by_ z d news
  have hX:=hg.ev x; rw [hx] at hX; simp only [R] at hX
  have hY:=hg.ev y; rw [hy] at hY
  have hfr:s.fresh C.ob0 d:=(hf (d,_) (List.mem_singleton.2 rfl)).resolve_left (by simp)
  obtain⟨ad,c,us,hyv,hul,hus,hnone,hu1,huR,hnl⟩:=news_vals hY h1
  obtain⟨v',w',hr,hown',hgr,hblk⟩:=run_app (P:=P) (ty:=o.type) ht (World.ownsRow_nil w 0 e sz) (c:=c) hul hus hnone hu1 (by simpa using h63) (by simpa using hnn)
  have hold:∀ b,b < w.heap.size→w'.heap[b]?=w.heap[b]?:=fun b hb=>hgr.block b hb (by simp [Value.ownBlock])
  have hkb:∀ b,(KO.arr v').blk=some b→w.heap.size≤b:=fun b hb=>(hblk b (by rw [← vblk_own hown']; exact hb)).resolve_left (by simp [Value.ownBlock])
  refine wp_value (v:=v') (w':=w') ?_ (hn _ _ ⟨κ.set d (some (.arr v')),?_⟩)
  ·simp [execOp,ho,resolve,invoke,builtin,hX,hyv,hr]
  ·have hkp:Keeps w (OW C κ) w' (OW C (κ.set d (some (.arr v')))):=⟨hgr.size,fun b hb hno=>⟨by
    rintro(hx | ⟨i,l,hi,hbl⟩)
    ·exact hno (.inl hx)
    ·simp only [Kap.set] at hi
     split at hi
     ·cases hi; have:=hkb b hbl; omega
     ·exact hno (.inr ⟨i,l,hi,hbl⟩),hold b hb⟩⟩
   have hgc:=hg.create hfr (w':=w') (k:=.arr v') (o:=.arr e sz news) hgr.size hold ⟨hgr.os,hgr.tape,hgr.output⟩ hkb
    ⟨v',us,rfl,by simpa using hown',Rv_of_RIv _ _ (RIv_mono hkp _ _ huR),fun r hr=>⟨hnl r hr,List.all_eq_true.2 fun x hx=>List.all_eq_true.1 hi x (List.mem_flatten.2 ⟨r,hr,hx⟩)⟩,hu1⟩
   refine hgc.putd hd ?_
   simp only [R]
   refine⟨?_,fun k hk=>by simp [Kap.set] at hk; exact hk.symm⟩
   rcases hown'.2 with ⟨rfl,_⟩ | ⟨g,cap,cur,rfl,_⟩ <;> rfl
 | nil_new e sz ho hx=>
  rename_i x d
  have hX:=hg.ev x; rw [hx] at hX; simp only [R] at hX
  have hfr:s.fresh C.ob0 d:=(hf (d,_) (List.mem_singleton.2 rfl)).resolve_left (by simp)
  refine wp_value (v:=.slice none 0 0) (w':=w) ?_ (hn _ _ ⟨κ.set d (some (.arr (.slice none 0 0))),?_⟩)
  ·rcases ho with ho | ho <;> simp [execOp,ho,hX]
  ·have hgc:=hg.create hfr (w':=w) (k:=.arr (.slice none 0 0)) (o:=.arr e sz []) (Nat.le_refl _) (fun _ _=>rfl) ⟨rfl,rfl,rfl⟩ (fun b hb=>by simp [KO.blk,vblk] at hb)
    ⟨_,[],rfl,World.ownsRow_nil w 0 e sz,by simp [Rv],by simp,by simp⟩
   exact hgc.putd hd (by simp only [R]; exact⟨rfl,fun k hk=>by simp [Kap.set] at hk; exact hk.symm⟩)
end
end Go.Proofs.YthlchdnbokhclaaGreat.Ql
namespace Go.Proofs.YthlchdnbokhclaaGreat.Ql
open Go
def sm (obs:List (Nat × AO)):List (Nat × Option AO):=obs.map fun p=>(p.1,some p.2)
def rmv (obs:List (Nat × AO)):List (Nat × Option AO):=obs.map fun p=>(p.1,none)
def keys (obs:List (Nat × AO)):List Nat:=obs.map (·.1)
theorem lo_sm_mem:∀ {obs:List (Nat × AO)} {id:Nat} {o:AO},lo (sm obs) id=some o→(id,o)∈obs
 | [],_,_,h=>by simp [sm,lo] at h
 | p::r,id,o,h=>by
  rw [show sm (p::r)=(p.1,some p.2)::sm r from rfl,lo_cons] at h
  split at h
  ·rename_i e; cases h; subst e; exact List.mem_cons_self ..
  ·exact List.mem_cons_of_mem _ (lo_sm_mem h)
theorem lo_sm_keys:∀ {obs:List (Nat × AO)} {id:Nat},id∈keys obs→∃ o,lo (sm obs) id=some o
 | [],_,h=>by simp [keys] at h
 | p::r,id,h=>by
  rw [show sm (p::r)=(p.1,some p.2)::sm r from rfl,lo_cons]
  by_cases e:p.1=id
  ·exact⟨_,by rw [if_pos e]⟩
  ·rw [if_neg e]
   refine lo_sm_keys ?_
   simp only [keys,List.map_cons,List.mem_cons] at h
   exact h.resolve_left (fun x=>e x.symm)
theorem keys_of_lo {obs:List (Nat × AO)} {id:Nat} {o:AO} (h:lo (sm obs) id=some o):id∈keys obs:=List.mem_map.2 ⟨(id,o),lo_sm_mem h,rfl⟩
theorem lo_append (l m:List (Nat × Option AO)) (id:Nat):lo (l++m) id=if id∈l.map (·.1) then lo l id else lo m id:=by
 induction l with
 | nil=>simp
 | cons p r ih=>
  obtain⟨i,o⟩:=p
  rw [List.cons_append,lo_cons,lo_cons,ih]
  by_cases e:i=id
  ·simp [e]
  ·have:¬ id=i:=fun x=>e x.symm
   simp only [List.map_cons,List.mem_cons,this,false_or,if_neg e]
theorem lo_rmv (obs:List (Nat × AO)) (id:Nat):lo (rmv obs) id=none:=by
 induction obs with
 | nil=>rfl
 | cons p r ih=>
  rw [show rmv (p::r)=(p.1,none)::rmv r from rfl,lo_cons]
  split
  ·rfl
  ·exact ih
structure Objs (w:World) (ox:Nat→Prop) (κ:Kap) (obs:List (Nat × AO)):Prop where
 ob:∀ id o,lo (sm obs) id=some o→∃ k,κ id=some k∧RO w (fun b=>ox b∨owned κ b) κ o k
 live:∀ id k,κ id=some k→∃ o,lo (sm obs) id=some o
 inj:∀ i j k l b,κ i=some k→κ j=some l→k.blk=some b→l.blk=some b→i=j
 dis:∀ b,owned κ b→¬ ox b
def CallOK (P:Program) (f:FuncId) (args:List AV) (obs:List (Nat × AO)) (r:AV) (obs':List (Nat × AO)):Prop:=
 ∀ (ox:Nat→Prop) (w:World) (κ:Kap) (cargs:Array Value),(∀ b,ox b→b < w.heap.size)→Objs w ox κ obs→Rv w (fun b=>ox b∨owned κ b) κ args cargs.toList →
  Calls P f cargs w fun e w'=>∃ v κ',e=.returned v∧Fr (owned κ) w w'∧Objs w' ox κ' obs'∧R w' (fun b=>ox b∨owned κ' b) κ' r v ∧
   (∀ b,owned κ' b→b < w.heap.size→owned κ b)∧∀ id k,κ id=some k→id∈keys obs'→κ' id=some k
mutual
def AV.only (ks:List Nat):AV→Bool
 | .hnd i | .ptr i _ | .eptr i _ _ _ | .vw i _ _ _ _=>ks.contains i
 | .agg cs | .tup cs | .fn _ cs=>onlyL ks cs
 | .ifc _ x=>x.only ks
 | _=>true
def onlyL (ks:List Nat):List AV→Bool
 | []=>true
 | x::xs=>x.only ks&&onlyL ks xs
end
mutual
theorem only_men {ks:List Nat} {j:Nat} (hj:j∉ks):∀ x:AV,x.only ks=true→x.men j=false
 | .hnd i,h=>by simp [AV.only,AV.men] at h ⊢; rintro rfl; exact hj h
 | .ptr i _,h=>by simp [AV.only,AV.men] at h ⊢; rintro rfl; exact hj h
 | .eptr i _ _ _,h=>by simp [AV.only,AV.men] at h ⊢; rintro rfl; exact hj h
 | .vw i _ _ _ _,h=>by simp [AV.only,AV.men] at h ⊢; rintro rfl; exact hj h
 | .agg cs,h=>by simp only [AV.only,AV.men] at h ⊢; exact onlyL_men hj cs h
 | .tup cs,h=>by simp only [AV.only,AV.men] at h ⊢; exact onlyL_men hj cs h
 | .fn _ cs,h=>by simp only [AV.only,AV.men] at h ⊢; exact onlyL_men hj cs h
 | .ifc _ x,h=>by simp only [AV.only,AV.men] at h ⊢; exact only_men hj x h
 | .fz _,_=>rfl
 | .undef,_=>rfl
 | .sc _,_=>rfl
 | .lst _ _,_=>rfl
 | .ipt _ _,_=>rfl
theorem onlyL_men {ks:List Nat} {j:Nat} (hj:j∉ks):∀ xs:List AV,onlyL ks xs=true→menL j xs=false
 | [],_=>rfl
 | x::xs,h=>by
  simp only [onlyL,Bool.and_eq_true] at h
  simp only [menL,only_men hj x h.1,onlyL_men hj xs h.2,Bool.or_self]
end
def AO.only (ks:List Nat):AO→Bool
 | .box cells=>onlyL ks cells
 | .arr _ _ _=>true
 | .mp _=>true
theorem AO.only_men {ks:List Nat} {j:Nat} (hj:j∉ks) (o:AO) (h:o.only ks=true):o.men j=false:=by
 cases o with
 | box=>exact onlyL_men hj _ h
 | arr=>rfl
 | mp=>rfl
section
variable {C:Ctx} {κ:Kap} {s:AS} {a:Act} {w:World}
def kapP (κ:Kap) (ks:List Nat):Kap:=fun i=>if i∈ks then κ i else none
def kapN (κ κ':Kap) (ks:List Nat):Kap:=fun i=>if i∈ks then κ' i else κ i
theorem G.call0 (h:G C κ s a w) {obs obs':List (Nat × AO)} {ox:Nat→Prop} {κ':Kap} {w':World} (hσ:∀ id o,lo (sm obs) id=some o→lo s.ob id=some o)
  (hfr:∀ id,id∈keys obs'→id∈keys obs∨s.fresh C.ob0 id) (hF:Fr (owned (kapP κ (keys obs))) w w') (hO:Objs w' ox κ' obs')
  (hold:∀ b,owned κ' b→b < w.heap.size→owned (kapP κ (keys obs)) b) (hkeep:∀ id k,kapP κ (keys obs) id=some k→id∈keys obs'→κ' id=some k)
  (honly:obs'.all (fun p=>p.2.only (keys obs'++keys obs))=true)
  (hRO:∀ id o k,(id,o)∈obs'→RO w' (fun b=>ox b∨owned κ' b) κ' o k→RO w' (OW C (kapN κ κ' (keys obs'++keys obs))) κ' o k) :
  G C (kapN κ κ' (keys obs'++keys obs)) { s with ob:=sm obs'++rmv obs++s.ob } a w'∧Keeps w (OW C κ) w' (OW C (kapN κ κ' (keys obs'++keys obs))):=by
 have hκ':∀ i k,κ' i=some k→i∈keys obs':=fun i k e=>by obtain⟨o,ho⟩:=hO.live i k e; exact keys_of_lo ho
 have hp:∀ i k,i∈keys obs→κ i=some k→kapP κ (keys obs) i=some k:=fun i k hi e=>by simp [kapP,hi,e]
 have hpo:∀ b,owned (kapP κ (keys obs)) b→owned κ b:=by
  rintro b ⟨i,k,e,hb⟩
  simp only [kapP] at e
  split at e
  ·exact⟨i,k,e,hb⟩
  ·cases e
 have hnk:∀ i k,i∉keys obs→κ i=some k→i∉keys obs':=fun i k hi e hi'=>by
  rcases hfr i hi' with h1 | h1
  ·exact hi h1
  ·obtain⟨o,ho⟩:=h.live i k e
   rw [h1.n] at ho; cases ho
 have cases_:∀ i k,kapN κ κ' (keys obs'++keys obs) i=some k→(κ' i=some k∧i∈keys obs')∨(κ i=some k∧i∉keys obs'∧i∉keys obs):=by
  intro i k e
  simp only [kapN] at e
  split at e
  ·exact .inl ⟨e,hκ' i k e⟩
  ·rename_i hn; simp at hn; exact .inr ⟨e,hn.1,hn.2⟩
 have hown:∀ b,owned (kapN κ κ' (keys obs'++keys obs)) b→owned κ' b∨∃ i k,κ i=some k∧k.blk=some b∧i∉keys obs'∧i∉keys obs:=by
  rintro b ⟨i,k,e,hb⟩
  rcases cases_ i k e with ⟨e,_⟩ | ⟨e,h1,h2⟩
  ·exact .inl ⟨i,k,e,hb⟩
  ·exact .inr ⟨i,k,e,hb,h1,h2⟩
 have hkp:Keeps w (OW C κ) w' (OW C (kapN κ κ' (keys obs'++keys obs))):=by
  refine⟨hF.size,fun b hb hn=>⟨?_,hF.block b hb fun e=>hn (.inr (hpo b e))⟩⟩
  rintro(hx | hx)
  ·exact hn (.inl hx)
  ·rcases hown b hx with e | ⟨i,k,e,hb',_⟩
   ·exact hn (.inr (hpo b (hold b e hb)))
   ·exact hn (.inr ⟨i,k,e,hb'⟩)
 have hcomp:∀ i k,kapN κ κ' (keys obs'++keys obs) i=some k→κ i=some k∨(i∈keys obs'∧s.fresh C.ob0 i):=by
  intro i k e
  rcases cases_ i k e with ⟨e,hi⟩ | ⟨e,_⟩
  ·rcases hfr i hi with h1 | h1
   ·obtain⟨o,ho⟩:=lo_sm_keys h1
    obtain⟨k1,hk1,_⟩:=h.ob i o (hσ i o ho)
    have:=hkeep i k1 (hp i k1 h1 hk1) hi
    rw [e] at this; cases this; exact .inl hk1
   ·exact .inr ⟨hi,h1⟩
  ·exact .inl e
 have hlo:∀ id,lo (sm obs'++rmv obs++s.ob) id=if id∈keys obs' then lo (sm obs') id else if id∈keys obs then none else lo s.ob id:=by
  intro id
  have e1:(sm obs').map (·.1)=keys obs':=by simp [sm,keys,Function.comp_def]
  have e2:(rmv obs).map (·.1)=keys obs:=by simp [rmv,keys,Function.comp_def]
  rw [List.append_assoc,lo_append,e1,lo_append,e2,lo_rmv]
 refine⟨{
  tm:=fun t=>R_men hkp _ _ (fun i k e=>(hcomp i k e).imp (fun e=>e) (fun e=>e.2.t t)) (h.tm t)
  ob:=fun id o ho=>by
   rw [hlo] at ho
   split at ho
   ·rename_i hi
    obtain⟨k,hk,hr⟩:=hO.ob id o ho
    have hr2:=hRO id o k (lo_sm_mem ho) hr
    refine⟨k,by simp [kapN,hi,hk],RO_men (Keeps.refl _ _) (fun _ _=>rfl) (fun j l e=>?_) hr2⟩
    by_cases hj:j∈keys obs'++keys obs
    ·simp only [kapN,hj,if_true] at e; exact .inl e
    ·exact .inr (AO.only_men hj o (List.all_eq_true.1 honly (id,o) (lo_sm_mem ho)))
   ·split at ho
    ·cases ho
    ·rename_i h1 h2
     obtain⟨k,hk,hr⟩:=h.ob id o ho
     refine⟨k,by simp [kapN,h1,h2,hk],RO_men hkp (fun b hb=>hF.block b (RO_lt hr hb) fun e=>?_) (fun j l e=>(hcomp j l e).imp (fun e=>e) (fun e=>e.2.o id o ho)) hr⟩
     obtain⟨j,l,e,hb'⟩:=e
     simp only [kapP] at e
     split at e
     ·have:=h.inj id j k l b hk e hb hb'; subst this; contradiction
     ·cases e
  live:=fun id k e=>by
   rw [hlo]
   rcases cases_ id k e with ⟨e,hi⟩ | ⟨e,h1,h2⟩
   ·rw [if_pos hi]; exact hO.live id k e
   ·rw [if_neg h1,if_neg h2]; exact h.live id k e
  inj:=fun i j k l b hi hj hb hb'=>by
   rcases cases_ i k hi with ⟨e1,m1⟩ | ⟨e1,m1,n1⟩ <;> rcases cases_ j l hj with ⟨e2,m2⟩ | ⟨e2,m2,n2⟩
   ·exact hO.inj i j k l b e1 e2 hb hb'
   ·exfalso
    have hlt:=h.fresh_lt b (.inr ⟨j,l,e2,hb'⟩)
    obtain⟨q,m,e,hq⟩:=hold b ⟨i,k,e1,hb⟩ hlt
    simp only [kapP] at e
    split at e
    ·have:=h.inj j q l m b e2 e hb' hq; subst this; contradiction
    ·cases e
   ·exfalso
    have hlt:=h.fresh_lt b (.inr ⟨i,k,e1,hb⟩)
    obtain⟨q,m,e,hq⟩:=hold b ⟨j,l,e2,hb'⟩ hlt
    simp only [kapP] at e
    split at e
    ·have:=h.inj i q k m b e1 e hb hq; subst this; contradiction
    ·cases e
   ·exact h.inj i j k l b e1 e2 hb hb'
  size:=h.size
  dfs:=h.dfs
  fr:=⟨hF.os.trans h.fr.os,hF.tape.trans h.fr.tape,hF.output.trans h.fr.output,Nat.le_trans h.fr.size hF.size,fun b hb hn=>
   (hF.block b (Nat.lt_of_lt_of_le hb h.fr.size) fun e=>hn ((h.old b (hpo b e)).1 hb)).trans (h.fr.block b hb hn)⟩
  old:=fun b hb=>by
   rcases hown b hb with e | ⟨i,k,e,hb',_⟩
   ·by_cases hlt:b < w.heap.size
    ·exact h.old b (hpo b (hold b e hlt))
    ·have:=h.fr.size
     exact⟨fun hl=>by omega,fun hx=>by have:=C.hox b hx; omega⟩
   ·exact h.old b ⟨i,k,e,hb'⟩
  keep:=fun id k e=>by
   simp only [kapN]
   split
   ·rename_i hi
    cases hk':κ' id with
    | none=>exact .inl rfl
    | some k1=>
     right
     have hi':=hκ' id k1 hk'
     rcases hfr id hi' with h1 | h1
     ·obtain⟨o,ho⟩:=lo_sm_keys h1
      obtain⟨k2,hk2,_⟩:=h.ob id o (hσ id o ho)
      have:=hkeep id k2 (hp id k2 h1 hk2) hi'
      rw [hk'] at this; cases this
      rcases h.keep id k e with e' | e'
      ·rw [hk2] at e'; cases e'
      ·rw [hk2] at e'; exact e'
     ·obtain⟨o,ho⟩:=C.hk0 id k e; rw [h1.c] at ho; cases ho
   ·exact h.keep id k e },hkp⟩
theorem Objs.pass (h:G C κ s a w) {obs:List (Nat × AO)} (hσ:∀ id o,lo (sm obs) id=some o→lo s.ob id=some o) :
  (fun b=>(OW C κ b∧¬ owned (kapP κ (keys obs)) b)∨owned (kapP κ (keys obs)) b)=OW C κ∧Objs w (fun b=>OW C κ b∧¬ owned (kapP κ (keys obs)) b) (kapP κ (keys obs)) obs:=by
 have hpo:∀ b,owned (kapP κ (keys obs)) b→owned κ b:=by
  rintro b ⟨i,k,e,hb⟩
  simp only [kapP] at e
  split at e
  ·exact⟨i,k,e,hb⟩
  ·cases e
 have hle:∀ i k,kapP κ (keys obs) i=some k→κ i=some k∧i∈keys obs:=by
  intro i k e
  simp only [kapP] at e
  split at e
  ·exact⟨e,‹_›⟩
  ·cases e
 have hE:(fun b=>(OW C κ b∧¬ owned (kapP κ (keys obs)) b)∨owned (kapP κ (keys obs)) b)=OW C κ:=by
  funext b
  apply propext
  constructor
  ·rintro(h1 | h1)
   ·exact h1.1
   ·exact .inr (hpo b h1)
  ·intro h1
   by_cases h2:owned (kapP κ (keys obs)) b
   ·exact .inr h2
   ·exact .inl ⟨h1,h2⟩
 refine⟨hE,?_,?_,?_,?_⟩
 ·intro id o ho
  obtain⟨k,hk,hr⟩:=h.ob id o (hσ id o ho)
  refine⟨k,by simp [kapP,keys_of_lo ho,hk],?_⟩
  rw [hE]
  exact RO_men (Keeps.refl _ _) (fun _ _=>rfl) (fun i l e=>.inl (hle i l e).1) hr
 ·intro id k e; exact lo_sm_keys (hle id k e).2
 ·intro i j k l b hi hj hb hb'; exact h.inj i j k l b (hle i k hi).1 (hle j l hj).1 hb hb'
 ·intro b hb hx; exact hx.2 hb
end
end Go.Proofs.YthlchdnbokhclaaGreat.Ql
namespace Go.Proofs.YthlchdnbokhclaaGreat.Ql
open Go
def FnOK (P : Program) (g : FuncId) : Prop := (P.funcs[g]?).map (fun fn => (fn.name == "runtime.NumGoroutine", fn.body.isNone)) = some (false, false)
def MethOK (P:Program) (t:TypeId) (name:String) (g:FuncId):Prop:=∀ (w:World) (v:Value),(∀ a,v=.pointer a→a≠none)→(method (P.types.size+Made.depth) t v name).run P w=.ok (g,v) w
def AV.recv:AV→Bool
 | .agg _ | .ipt _ _=>true
 | .fz (.agg _) | .fz (.ipt _ _)=>true
 | _=>false
inductive Cal (P:Program):Oper→(Operand→AV)→FuncId→List AV→Prop
 | value {o ρ f xs ts g caps args} (ho:o.op=.call { callee:=.value f,args:=xs,argTypes:=ts }) (hf:ρ f=.fn g caps) (hg:FnOK P g) (ha:SubV (xs.toList.map ρ++caps) args):Cal P o ρ g args
 | invoke {o ρ x name ts t y g} (ho:o.op=.call { callee:=.invoke x name,args:=#[],argTypes:=ts }) (hx:ρ x=.ifc t y) (hg:FnOK P g) (hm:MethOK P t name g)
   (hy:y.recv=true):Cal P o ρ g [y]
inductive Dr (σ:Nat→Option AO) (ks:List Nat):AV→AV→Prop
 | imm {x} (h:x.im=true):Dr σ ks x x
 | clean {x} (h:x.only []=true):Dr σ ks x x
 | fz {x y} (h:Dr σ ks x y):Dr σ ks x (.fz y)
 | unfz {x}:Dr σ ks (.fz x) x
 | hnd {id e sz rows} (hk:id∈ks) (h:σ id=some (.arr e sz rows)) (hi:rows.flatten.all AV.im=true):Dr σ ks (.hnd id) (.lst sz rows)
 | ptr {id off cells cells'} (hk:id∈ks) (h:σ id=some (.box cells)) (hl:cells.length=cells'.length) (hc:∀ (i:Nat) (x y:AV),cells[i]?=some x→cells'[i]?=some y→Dr σ ks x y):Dr σ ks (.ptr id off) (.ipt cells' off)
 | agg {cs cs'} (hl:cs.length=cs'.length) (hc:∀ (i:Nat) (x y:AV),cs[i]?=some x→cs'[i]?=some y→Dr σ ks x y):Dr σ ks (.agg cs) (.agg cs')
 | fn {f cs cs'} (hl:cs.length=cs'.length) (hc:∀ (i:Nat) (x y:AV),cs[i]?=some x→cs'[i]?=some y→Dr σ ks x y):Dr σ ks (.fn f cs) (.fn f cs')
 | ifc {t x y} (h:Dr σ ks x y):Dr σ ks (.ifc t x) (.ifc t y)
mutual
def AV.solid:AV→Bool
 | .lst _ _ | .ipt _ _ | .fz _=>false
 | .agg cs | .tup cs | .fn _ cs=>solidL cs
 | .ifc _ x=>x.solid
 | _=>true
def solidL:List AV→Bool
 | []=>true
 | x::xs=>x.solid&&solidL xs
end
mutual
theorem R_solid {w:World} {ow ow':Nat→Prop} {κ:Kap}:∀ (x:AV) (v:Value),x.solid=true→R w ow κ x v→R w ow' κ x v
 | .undef,_,_,_=>by simp [R]
 | .sc _,_,_,h=>by simpa [R] using h
 | .hnd _,_,_,h=>by simpa only [R] using h
 | .ptr _ _,_,_,h=>by simpa only [R] using h
 | .eptr _ _ _ _,_,_,h=>by simpa only [R] using h
 | .vw _ _ _ _ _,_,_,h=>by simpa only [R] using h
 | .fz _,_,hs,_=>by simp [AV.solid] at hs
 | .agg cs,v,hs,h=>by
  simp only [R,AV.solid] at h hs ⊢; obtain⟨vs,rfl,hv⟩:=h; exact⟨vs,rfl,Rv_solid cs _ hs hv⟩
 | .tup cs,v,hs,h=>by
  simp only [R,AV.solid] at h hs ⊢; obtain⟨vs,rfl,hv⟩:=h; exact⟨vs,rfl,Rv_solid cs _ hs hv⟩
 | .fn _ cs,v,hs,h=>by
  simp only [R,AV.solid] at h hs ⊢; obtain⟨vs,rfl,hv⟩:=h; exact⟨vs,rfl,Rv_solid cs _ hs hv⟩
 | .ifc _ x,v,hs,h=>by
  simp only [R,AV.solid] at h hs ⊢; obtain⟨y,rfl,hv⟩:=h; exact⟨y,rfl,R_solid x _ hs hv⟩
 | .lst _ _,_,hs,_=>by simp [AV.solid] at hs
 | .ipt _ _,_,hs,_=>by simp [AV.solid] at hs
theorem Rv_solid {w:World} {ow ow':Nat→Prop} {κ:Kap}:∀ (xs:List AV) (vs:List Value),solidL xs=true→Rv w ow κ xs vs→Rv w ow' κ xs vs
 | [],vs,_,h=>by simpa [Rv] using h
 | x::xs,vs,hs,h=>by
  simp only [Rv,solidL,Bool.and_eq_true] at h hs ⊢
  obtain⟨v,r,rfl,hv,hr⟩:=h
  exact⟨v,r,rfl,R_solid x v hs.1 hv,Rv_solid xs r hs.2 hr⟩
end
def AO.solid:AO→Bool
 | .box cells=>solidL cells
 | .arr _ _ rows=>solidL rows.flatten
 | .mp _=>true
theorem RO_solid {w:World} {ow ow':Nat→Prop} {κ:Kap} {o:AO} {k:KO} (hs:o.solid=true) (h:RO w ow κ o k):RO w ow' κ o k:=by
 cases o with
 | box cells=>obtain⟨b,cur,e,h1,h2,h3,h4⟩:=h; exact⟨b,cur,e,h1,h2,Rv_solid _ _ hs h3,h4⟩
 | arr e sz rows=>obtain⟨u,vals,h1,h2,h3,h4⟩:=h; exact⟨u,vals,h1,h2,Rv_solid _ _ hs h3,h4⟩
 | mp es=>exact h
inductive Cl (P:Program):Oper→(Operand→AV)→(Nat→Option AO)→List Nat→AV→List (Nat × Option AO)→Prop
 | call {o ρ σ g args obs r obs'} (hc:Cal P o ρ g args) (hok:CallOK P g args obs r obs') (hσ:∀ id o,lo (sm obs) id=some o→σ id=some o)
   (hr:r.only (keys obs'++keys obs)=true) (ho:obs'.all (fun p=>p.2.only (keys obs'++keys obs))=true):Cl P o ρ σ (keys obs) r (sm obs'++rmv obs)
 | lend {o ρ σ g args args' ks r obs'} (hc:Cal P o ρ g args) (hl:args.length=args'.length) (hd:∀ (i:Nat) (x y:AV),args[i]?=some x→args'[i]?=some y→Dr σ ks x y) (hok:CallOK P g args' [] r obs')
   (hr:r.only (keys obs')=true) (ho:obs'.all (fun p=>p.2.only (keys obs'))=true) (hs:r.solid=true) (hs':obs'.all (fun p=>p.2.solid)=true) (hk:(keys obs').all (fun i=>!ks.contains i)=true):Cl P o ρ σ ks r (sm obs')
section
variable {P:Program} {C:Ctx} {κ:Kap} {s:AS} {a:Act} {w:World} {o:Oper}
theorem run_callFunc {g:FuncId} (hg:FnOK P g) (args:Array Value):(callFunc g args).run P w=.ok (.enter g args) w:=by
 unfold FnOK at hg
 cases hf:P.funcs[g]? with
 | none=>simp [hf] at hg
 | some fn=>
  simp [hf] at hg
  have h2:¬ fn.body=none:=by
   intro h; rw [h] at hg; simp at hg
  simp [callFunc,hf,hg.1]
  exact fun h=>absurd h h2
theorem Rv_map (hg:G C κ s a w):∀ xs:List Operand,Rv w (OW C κ) κ (xs.map (Ql.ev s.tm)) (xs.map a.eval)
 | []=>by simp [Rv]
 | x::xs=>by simp only [List.map_cons,Rv]; exact⟨_,_,rfl,hg.ev x,Rv_map hg xs⟩
theorem Cal.run {g:FuncId} {args:List AV} (hc:Cal P o (Ql.ev s.tm) g args) (hg:G C κ s a w) :
  ∃ cargs:Array Value,(execOp a.eval o).run P w=.ok (.enter g cargs) w∧Rv w (OW C κ) κ args cargs.toList:=by
 cases hc with
 | value ho hf hgk ha=>
  rename_i f xs ts caps
  have hF:=hg.ev f; rw [hf] at hF; simp only [R] at hF
  obtain⟨vs,hfv,hcaps⟩:=hF
  refine⟨xs.map a.eval++vs,?_,?_⟩
  ·simp [execOp,ho,resolve,hfv,Deferred.ofValue,Go.invoke,run_callFunc hgk]
  ·simp only [Array.toList_append,Array.toList_map]
   exact Rv_sub ha (Rv_append (Rv_map hg xs.toList) hcaps)
 | invoke ho hx hgk hm hy=>
  rename_i x name ts t y
  have hX:=hg.ev x; rw [hx] at hX; simp only [R] at hX
  obtain⟨u,hxu,hu⟩:=hX
  refine⟨#[u],?_,by simp only [Rv]; exact⟨u,[],rfl,hu,rfl⟩⟩
  have hm':=hm w u (fun p hp=>by
   subst hp
   cases y with
   | agg cs=>simp only [R] at hu; obtain⟨_,e,_⟩:=hu; cases e
   | ipt cells off=>simp only [R,RI] at hu; obtain⟨_,_,e,_⟩:=hu; cases e; simp
   | fz y=>
    cases y with
    | agg cs=>simp only [R,RI] at hu; obtain⟨_,e,_⟩:=hu; cases e
    | ipt cells off=>simp only [R,RI] at hu; obtain⟨_,_,e,_⟩:=hu; cases e; simp
    | _=>simp [AV.recv] at hy
   | _=>simp [AV.recv] at hy)
  simp [execOp,ho,resolve,Go.invoke,hxu,callMethod,hm',run_callFunc hgk]
theorem wp_enter {next:Act→World→Prop} {Q:Exit→Act→World→Prop} {g:FuncId} {cargs:Array Value} {Rr:Ending→World→Prop} (h:(execOp a.eval o).run P w=.ok (.enter g cargs) w)
  (hc:Calls P g cargs w Rr) (hn:∀ e w',Rr e w'→∃ v,e=.returned v∧next (a.put o.dst v) w'):o.wp P a w next Q:=by
 unfold Oper.wp
 rw [h]
 simp only [Oper.upon]
 refine hc.mono fun e w' hr=>?_
 obtain⟨v,rfl,hv⟩:=hn e w' hr
 exact hv
mutual
theorem RI_of_only {w:World} {ow:Nat→Prop} {κ:Kap}:∀ (x:AV) (v:Value),x.only []=true→R w ow κ x v→RI w ow x v
 | .hnd id,v,ho,hx=>by simp [AV.only] at ho
 | .ptr id off,v,ho,hx=>by simp [AV.only] at ho
 | .eptr id sz i j,v,ho,hx=>by simp [AV.only] at ho
 | .vw _ _ _ _ _,v,ho,hx=>by simp [AV.only] at ho
 | .fz x,v,_,hx=>by simp only [R] at hx; exact hx
 | .undef,_,_,_=>by simp [RI]
 | .sc _,_,_,hx=>by simpa [R,RI] using hx
 | .agg cs,v,ho,hx=>by
  simp only [R,RI,AV.only] at ho hx ⊢
  obtain⟨vs,rfl,hv⟩:=hx
  exact⟨vs,rfl,RIv_of_only cs vs.toList ho hv⟩
 | .tup cs,v,ho,hx=>by
  simp only [R,RI,AV.only] at ho hx ⊢
  obtain⟨vs,rfl,hv⟩:=hx
  exact⟨vs,rfl,RIv_of_only cs vs.toList ho hv⟩
 | .fn f caps,v,ho,hx=>by
  simp only [R,RI,AV.only] at ho hx ⊢
  obtain⟨vs,rfl,hv⟩:=hx
  exact⟨vs,rfl,RIv_of_only caps vs.toList ho hv⟩
 | .ifc t x,v,ho,hx=>by
  simp only [R,RI,AV.only] at ho hx ⊢
  obtain⟨y,rfl,hv⟩:=hx
  exact⟨y,rfl,RI_of_only x y ho hv⟩
 | .lst sz rows,v,_,hx=>by simp only [R] at hx; exact hx
 | .ipt cells off,v,_,hx=>by simp only [R] at hx; exact hx
theorem RIv_of_only {w:World} {ow:Nat→Prop} {κ:Kap}:∀ (xs:List AV) (vs:List Value),onlyL [] xs=true→Rv w ow κ xs vs→RIv w ow xs vs
 | [],vs,_,hx=>by simpa [Rv,RIv] using hx
 | x::xs,vs,ho,hx=>by
  simp only [Rv,RIv,onlyL,Bool.and_eq_true] at ho hx ⊢
  obtain⟨v,r,rfl,hv,hr⟩:=hx
  exact⟨v,r,rfl,RI_of_only x v ho.1 hv,RIv_of_only xs r ho.2 hr⟩
end
theorem Dr.sound0 (hg:G C κ s a w) {ow':Nat→Prop} (hK:Keeps w (OW C κ) w ow') {ks:List Nat} (hks:∀ id∈ks,∀ k b,κ id=some k→k.blk=some b→¬ ow' b) {x y:AV} (h:Dr (lo s.ob) ks x y):∀ u,R w (OW C κ) κ x u→RI w ow' y u:=by
 have lst:∀ {xs ys:List AV} {vs:List Value},xs.length=ys.length→Rv w (OW C κ) κ xs vs→(∀ (i:Nat) (x y:AV),xs[i]?=some x→ys[i]?=some y→∀ u,R w (OW C κ) κ x u→RI w ow' y u)→RIv w ow' ys vs:=by
  intro xs
  induction xs with
  | nil=>intro ys vs hl hv _; cases ys with
   | nil=>simp only [Rv] at hv; simp [RIv,hv]
   | cons _ _=>simp at hl
  | cons x xs ih=>
   intro ys vs hl hv hh
   cases ys with
   | nil=>simp at hl
   | cons y ys=>
    simp only [Rv] at hv; obtain⟨v,r,rfl,h1,h2⟩:=hv
    simp only [RIv]
    exact⟨v,r,rfl,hh 0 x y rfl rfl v h1,ih (by simpa using hl) h2 fun i x y hx hy=>hh (i+1) x y (by simpa using hx) (by simpa using hy)⟩
 induction h with
 | imm hi=>intro u hu; exact RI_mono hK _ _ (RI_of_R hi hu)
 | fz _ ih=>intro u hu; simp only [RI]; exact ih u hu
 | unfz=>intro u hu; simp only [R,RI] at hu; exact RI_mono hK _ _ hu
 | clean hi=>intro u hu; exact RI_mono hK _ _ (RI_of_only _ _ hi hu)
 | @hnd id e sz rows hid h hi=>
  intro u hu
  obtain⟨k,hk,hro⟩:=hg.obj h
  simp only [R] at hu
  have hku:=hu.2 _ hk
  subst hku
  obtain⟨u',vals,hu',hown,hv,hl,h1⟩:=hro
  cases hu'
  have hvI:=RIv_mono hK _ _ (RI_all hv hi)
  simp only [RI]
  rcases hown.2 with ⟨hval,hz⟩ | ⟨g,cap,cur,hval,hb0,hgg,hnc,hcm,hcs,htk⟩
  ·refine⟨none,0,by rw [hval]; simp [hz],by omega,.inl (List.eq_nil_of_length_eq_zero hz)⟩
  ·refine⟨_,cap,hval,hnc,.inr ⟨g,0,rfl,(Array.getElem?_eq_some_iff.1 hgg).1,hks id hid _ g hk (by rw [hval]; rfl),chunk_RIr (fun r hr=>(hl r hr).1) (RIc_of fun q x hq=>?_)⟩⟩
   obtain⟨v,hv1,hv2⟩:=RIv_get hvI hq
   refine⟨v,?_,hv2,h1 v (List.mem_of_getElem? hv1)⟩
   have:=hown.cells (g:=g) (by rw [hval]; rfl) q v hv1
   rwa [Addr.add_lit] at this
 | @ptr id off cells cells' hid h hl hc ih=>
  intro u hu
  obtain⟨k,hk,b,cur,e,rfl,hh,hv,h1⟩:=hg.obj h
  simp only [R] at hu
  obtain⟨b',hb',rfl⟩:=hu.2 _ hk
  cases hb'
  simp only [RI]
  refine⟨b,0,by simp,(Array.getElem?_eq_some_iff.1 hh).1,hks id hid _ b hk rfl,RIc_of fun q y hq=>?_⟩
  have hql:=(List.getElem?_eq_some_iff.1 hq).1
  have hx:cells[q]?=some (cells[q]'(by omega)):=List.getElem?_eq_getElem _
  obtain⟨v,hv1,hv2⟩:=Rv_get hv hx
  refine⟨v,?_,?_,h1 v (List.mem_of_getElem? hv1)⟩
  ·rw [Nat.zero_add,cell_of_row w b q cur e (0,0) hh]; simpa using hv1
  ·exact ih q _ y hx hq v hv2
 | agg hl hc ih=>
  intro u hu
  simp only [R] at hu; obtain⟨vs,rfl,hv⟩:=hu
  simp only [RI]
  exact⟨vs,rfl,lst hl hv fun i x y hx hy u hu=>ih i x y hx hy u hu⟩
 | fn hl hc ih=>
  intro u hu
  simp only [R] at hu; obtain⟨vs,rfl,hv⟩:=hu
  simp only [RI]
  exact⟨vs,rfl,lst hl hv fun i x y hx hy u hu=>ih i x y hx hy u hu⟩
 | ifc _ ih=>
  intro u hu
  simp only [R] at hu; obtain⟨v,rfl,hv⟩:=hu
  simp only [RI]
  exact⟨v,rfl,ih v hv⟩
theorem Dr.sound (hg:G C κ s a w) {ks:List Nat} {x y:AV} (h:Dr (lo s.ob) ks x y):∀ u,R w (OW C κ) κ x u→RI w (fun _=>False) y u:=
 h.sound0 hg ⟨Nat.le_refl _,fun _ _ _=>⟨fun h=>h,rfl⟩⟩ (fun _ _ _ _ _ _ h=>h)
end
end Go.Proofs.YthlchdnbokhclaaGreat.Ql
namespace Go.Proofs.YthlchdnbokhclaaGreat.Ql
open Go
section
variable {P:Program} {C:Ctx} {κ:Kap} {s:AS} {a:Act} {w:World} {o:Oper}
theorem G.apply_ob {dst:Option Tmp} (hd:∀ d,dst=some d→d < C.n) {v:AV} {u:Value} {wr:List (Nat × Option AO)} {κ':Kap} {w':World}
  (h:G C κ' { s with ob:=wr++s.ob } a w') (hr:R w' (OW C κ') κ' v u):G C κ' (apply s dst v wr) (a.put dst u) w':=by
 have:=h.putd hd hr
 cases dst <;> simpa [apply] using this
theorem Cl.sound {rd:List Nat} {v:AV} {wr:List (Nat × Option AO)} (hcl:Cl P o (Ql.ev s.tm) (lo s.ob) rd v wr) (hg:G C κ s a w) (hd:∀ d,o.dst=some d→d < C.n)
  (hf:∀ p∈wr,p.1∈rd∨s.fresh C.ob0 p.1)
  {next:Act→World→Prop} {Q:Exit→Act→World→Prop} (hn:Fin C s o v wr next):o.wp P a w next Q:=by
 cases hcl with
 | call hc hok hσ hr ho=>
  rename_i g args obs obs'
  obtain⟨cargs,hrun,hargs⟩:=hc.run hg
  obtain⟨hE,hO⟩:=Objs.pass hg hσ
  have hle:∀ i k,kapP κ (keys obs) i=some k→κ i=some k:=by
   intro i k e
   simp only [kapP] at e
   split at e
   ·exact e
   ·cases e
  have hcall:=hok (fun b=>OW C κ b∧¬ owned (kapP κ (keys obs)) b) w (kapP κ (keys obs)) cargs (fun b hb=>hg.fresh_lt b hb.1) hO (by rw [hE]; exact Rv_mono (Keeps.refl _ _) hle _ _ hargs)
  refine wp_enter hrun hcall ?_
  rintro e w' ⟨u,κ',rfl,hF,hO',hR,hold,hkeep⟩
  refine⟨u,rfl,hn _ _ ⟨kapN κ κ' (keys obs'++keys obs),?_⟩⟩
  have hfr:∀ id,id∈keys obs'→id∈keys obs∨s.fresh C.ob0 id:=fun id hid=>by
   obtain⟨p,hp,rfl⟩:=List.mem_map.1 hid
   exact hf (p.1,some p.2) (List.mem_append.2 (.inl (List.mem_map.2 ⟨p,hp,rfl⟩)))
  have hpo:∀ b,owned (kapP κ (keys obs)) b→owned κ b:=by
   rintro b ⟨i,k,e,hb⟩; exact⟨i,k,hle i k e,hb⟩
  have hκ':∀ i k,κ' i=some k→i∈keys obs':=fun i k e=>by obtain⟨o,ho⟩:=hO'.live i k e; exact keys_of_lo ho
  have hOW:(fun b=>(OW C κ b∧¬ owned (kapP κ (keys obs)) b)∨owned κ' b)=OW C (kapN κ κ' (keys obs'++keys obs)):=by
   funext b
   apply propext
   constructor
   ·rintro(⟨h1 | ⟨i,k,e,hb⟩,h2⟩ | ⟨i,k,e,hb⟩)
    ·exact .inl h1
    ·have hi:i∉keys obs:=fun hi=>h2 ⟨i,k,by simp [kapP,hi,e],hb⟩
     have hi':i∉keys obs':=fun hi'=>by
      rcases hfr i hi' with h3 | h3
      ·exact hi h3
      ·obtain⟨o,ho⟩:=hg.live i k e; rw [h3.n] at ho; cases ho
     exact .inr ⟨i,k,by simp [kapN,hi,hi',e],hb⟩
    ·exact .inr ⟨i,k,by simp [kapN,hκ' i k e,e],hb⟩
   ·rintro(h1 | ⟨i,k,e,hb⟩)
    ·by_cases h2:owned (kapP κ (keys obs)) b
     ·exact absurd h1 (hg.old b (hpo b h2)).2
     ·exact .inl ⟨.inl h1,h2⟩
    ·simp only [kapN] at e
     split at e
     ·exact .inr ⟨i,k,e,hb⟩
     ·rename_i hi
      simp at hi
      refine .inl ⟨.inr ⟨i,k,e,hb⟩,?_⟩
      rintro⟨j,l,ej,hbj⟩
      simp only [kapP] at ej
      split at ej
      ·have:=hg.inj i j k l b e ej hb hbj; subst this; exact hi.2 ‹_›
      ·cases ej
  have hcore:=hg.call0 hσ hfr hF hO' hold hkeep ho (fun id o k hm hro=>by rw [← hOW]; exact hro)
  refine G.apply_ob hd hcore.1 ?_
  rw [← hOW]
  refine R_men (Keeps.refl _ _) _ _ (fun id k e=>?_) hR
  by_cases hj:id∈keys obs'++keys obs
  ·simp only [kapN,hj,if_true] at e; exact .inl e
  ·exact .inr (only_men hj _ hr)
 | lend hc hl hdr hok hr ho hs hs' hkk=>
  rename_i g args args' obs'
  obtain⟨cargs,hrun,hargs⟩:=hc.run hg
  have hnone:∀ b,¬ owned (kapP κ (keys [])) b:=by
   rintro b ⟨i,k,e,_⟩; simp [kapP,keys] at e
  have hE:(fun b:Nat=>False∨owned (kapP κ (keys [])) b)=fun _=>False:=by funext b; apply propext; simp [hnone b]
  have hO:Objs w (fun _=>False) (kapP κ (keys [])) []:=⟨fun id o ho=>by simp [sm,lo] at ho,fun id k e=>by simp [kapP,keys] at e,fun i j k l b e=>by simp [kapP,keys] at e,fun b hb=>absurd hb (hnone b)⟩
  have hA:RIv w (fun _=>False) args' cargs.toList:=by
   have:∀ {xs ys:List AV} {vs:List Value},xs.length=ys.length→Rv w (OW C κ) κ xs vs→(∀ (i:Nat) (x y:AV),xs[i]?=some x→ys[i]?=some y→∀ u,R w (OW C κ) κ x u→RI w (fun _=>False) y u)→RIv w (fun _=>False) ys vs:=by
    intro xs
    induction xs with
    | nil=>intro ys vs hl hv _; cases ys with
     | nil=>simp only [Rv] at hv; simp [RIv,hv]
     | cons _ _=>simp at hl
    | cons x xs ih=>
     intro ys vs hl hv hh
     cases ys with
     | nil=>simp at hl
     | cons y ys=>
      simp only [Rv] at hv; obtain⟨v,r,rfl,h1,h2⟩:=hv
      simp only [RIv]
      exact⟨v,r,rfl,hh 0 x y rfl rfl v h1,ih (by simpa using hl) h2 fun i x y hx hy=>hh (i+1) x y (by simpa using hx) (by simpa using hy)⟩
   exact this hl hargs fun i x y hx hy=>(hdr i x y hx hy).sound hg
  have hcall:=hok (fun _=>False) w (kapP κ (keys [])) cargs (fun b hb=>hb.elim) hO (by rw [hE]; exact Rv_of_RIv _ _ hA)
  refine wp_enter hrun hcall ?_
  rintro e w' ⟨u,κ',rfl,hF,hO',hR,hold,hkeep⟩
  refine⟨u,rfl,hn _ _ ⟨kapN κ κ' (keys obs'++keys []),?_⟩⟩
  have hfr:∀ id,id∈keys obs'→id∈keys []∨s.fresh C.ob0 id:=fun id hid=>by
   obtain⟨p,hp,rfl⟩:=List.mem_map.1 hid
   rcases hf (p.1,some p.2) (List.mem_map.2 ⟨p,hp,rfl⟩) with h1 | h1
   ·have:=List.all_eq_true.1 hkk _ hid
    simp at this
    exact absurd h1 this
   ·exact .inr h1
  have hcore:=hg.call0 (obs:=[]) (obs':=obs') (by intro id o h; simp [sm,lo] at h) hfr hF hO' hold hkeep (by simpa [keys] using ho)
   (fun id o k hm hro=>RO_solid (List.all_eq_true.1 hs' (id,o) hm) hro)
  have hcore1:=hcore.1
  simp only [rmv,List.map_nil,List.append_nil] at hcore1
  refine G.apply_ob hd hcore1 ?_
  refine R_men (Keeps.refl _ _) _ _ (fun id k e=>?_) (R_solid _ _ hs hR)
  by_cases hj:id∈keys obs'++keys []
  ·simp only [kapN,hj,if_true] at e; exact .inl e
  ·exact .inr (only_men (by simpa [keys] using hj) _ hr)
end
end Go.Proofs.YthlchdnbokhclaaGreat.Ql
namespace Go.Proofs.YthlchdnbokhclaaGreat.Ql
open Go
section loc
variable {P:Program} {o:Oper} {ρ ρ':Operand→AV} {σ σ':Nat→Option AO} {rd:List Nat} {v:AV} {wr:List (Nat × Option AO)}
theorem Ax.loc (h:Ax P o ρ σ rd v wr) (H:∀ x∈o.op.operands,ρ' x=ρ x) (S:∀ i∈rd,σ' i=σ i):Ax P o ρ' σ' rd v wr:=by
 cases h
 case ext h=>exact .ext (h.loc H S)
 case move ho hs=>
  refine .move ho ?_
  rw [H _ (by rcases ho with ho | ho <;> simp [ho,Op.operands])]; exact hs
 case load_ipt ho hz hx hs hl=>exact .load_ipt ho hz (by rw [H _ (by simp [ho,Op.operands])]; exact hx) hs hl
 case load_box ho hz hx hb hs hl=>exact .load_box ho hz (by rw [H _ (by simp [ho,Op.operands])]; exact hx) (by rw [S _ (by simp)]; exact hb) hs hl
 case load_arr ho hz hx hb hr hs hl=>exact .load_arr ho hz (by rw [H _ (by simp [ho,Op.operands])]; exact hx) (by rw [S _ (by simp)]; exact hb) hr hs hl
 case field_ipt ho hf hx=>exact .field_ipt ho hf (by rw [H _ (by simp [ho,Op.operands])]; exact hx)
 case field_ptr ho hf hx hb=>exact .field_ptr ho hf (by rw [H _ (by simp [ho,Op.operands])]; exact hx) (by rw [S _ (by simp)]; exact hb)
 case field_eptr ho hf hx hb=>exact .field_eptr ho hf (by rw [H _ (by simp [ho,Op.operands])]; exact hx) (by rw [S _ (by simp)]; exact hb)
 case index_lst ho ht hx hi h0 hr=>exact .index_lst ho ht (by rw [H _ (by simp [ho,Op.operands])]; exact hx) (by rw [H _ (by simp [ho,Op.operands])]; exact hi) h0 hr
 case index_hnd ho ht hx hb hi h0 hr=>exact .index_hnd ho ht (by rw [H _ (by simp [ho,Op.operands])]; exact hx) (by rw [S _ (by simp)]; exact hb) (by rw [H _ (by simp [ho,Op.operands])]; exact hi) h0 hr
 case index_ipt ho ht hx hi h0 hr=>exact .index_ipt ho ht (by rw [H _ (by simp [ho,Op.operands])]; exact hx) (by rw [H _ (by simp [ho,Op.operands])]; exact hi) h0 hr
 case index_ptr ho ht hx hb hi h0 hr=>exact .index_ptr ho ht (by rw [H _ (by simp [ho,Op.operands])]; exact hx) (by rw [S _ (by simp)]; exact hb) (by rw [H _ (by simp [ho,Op.operands])]; exact hi) h0 hr
 case store_box ho hz hx hb hy hl h1 hn=>exact .store_box ho hz (by rw [H _ (by simp [ho,Op.operands])]; exact hx) (by rw [S _ (by simp)]; exact hb) (by rw [H _ (by simp [ho,Op.operands])]; exact hy) hl h1 hn
 case store_arr ho hz hx hb hr hy hl h1 hi hn=>exact .store_arr ho hz (by rw [H _ (by simp [ho,Op.operands])]; exact hx) (by rw [S _ (by simp)]; exact hb) hr (by rw [H _ (by simp [ho,Op.operands])]; exact hy) hl h1 hi hn
 case alloc ho hd hz h1 hs=>exact .alloc ho hd hz h1 hs
 case box_ipt ho hx h1 hi=>exact .box_ipt ho (by rw [H _ (by simp [ho,Op.operands])]; exact hx) h1 hi
 case box_ptr ho hd hx h1=>exact .box_ptr ho hd (by rw [H _ (by simp [ho,Op.operands])]; exact hx) h1
 case build T z cs0 cs ps parts ho hz hp hb hs=>
  refine .build ho hz hp ?_ hs
  rw [List.map_congr_left (g:=fun p=>(p.1,ρ p.2)) (fun p hp=>by rw [H p.2 (by simp only [ho,Op.operands,List.mem_toArray,List.mem_map]; exact⟨p,hp,rfl⟩)])]
  exact hb
 case slice_lit T len e sz by_ z rows fl parts ho ht hn hb hsub hl hs h1 hi=>
  refine .slice_lit ho ht hn ?_ hsub hl hs h1 hi
  rw [List.map_congr_left (g:=fun p=>(p.1,ρ p.2)) (fun p hp=>by rw [H p.2 (by simp only [ho,Op.operands,List.mem_toArray,List.mem_map]; exact⟨p,hp,rfl⟩)])]
  exact hb
 case slice_obj T len e sz by_ z rows fl id parts ho ht hn hb hsub hl hs h1 hi=>
  refine .slice_obj ho ht hn ?_ hsub hl hs h1 hi
  rw [List.map_congr_left (g:=fun p=>(p.1,ρ p.2)) (fun p hp=>by rw [H p.2 (by simp only [ho,Op.operands,List.mem_toArray,List.mem_map]; exact⟨p,hp,rfl⟩)])]
  exact hb
 case slice_new ho hd ht=>exact .slice_new ho hd ht
 case extract ho hx hv=>exact .extract ho (by rw [H _ (by simp [ho,Op.operands])]; exact hx) hv
 case pick ho hc hv=>exact .pick ho (by rw [H _ (by simp [ho,Op.operands])]; exact hc) (by rw [H _ (by simp [ho,Op.operands]),H _ (by simp [ho,Op.operands])]; exact hv)
 case bin ho hx hy hv=>exact .bin ho (by rw [H _ (by simp [ho,Op.operands])]; exact hx) (by rw [H _ (by simp [ho,Op.operands])]; exact hy) hv
 case div ho hx hy hop hm=>exact .div ho (by rw [H _ (by simp [ho,Op.operands])]; exact hx) (by rw [H _ (by simp [ho,Op.operands])]; exact hy) hop hm
 case binc ho hx hy hv=>exact .binc ho (by rw [H _ (by simp [ho,Op.operands])]; exact hx) (by rw [H _ (by simp [ho,Op.operands])]; exact hy) hv
 case nilcmp ho hT hx hne=>exact .nilcmp ho hT (by rw [H _ (by simp [ho,Op.operands])]; exact hx) hne
 case un ho hx hv=>exact .un ho (by rw [H _ (by simp [ho,Op.operands])]; exact hx) hv
 case conv ho hx hv=>exact .conv ho (by rw [H _ (by simp [ho,Op.operands])]; exact hx) hv
 case len_lst ho ht hx=>exact .len_lst ho ht (by rw [H _ (by simp [ho,Op.operands,Call.operands])]; exact hx)
 case len_hnd ho ht hx hb=>exact .len_hnd ho ht (by rw [H _ (by simp [ho,Op.operands,Call.operands])]; exact hx) (by rw [S _ (by simp)]; exact hb)
 case min ho hx hy=>exact .min ho (by rw [H _ (by simp [ho,Op.operands,Call.operands])]; exact hx) (by rw [H _ (by simp [ho,Op.operands,Call.operands])]; exact hy)
 case max ho hx hy=>exact .max ho (by rw [H _ (by simp [ho,Op.operands,Call.operands])]; exact hx) (by rw [H _ (by simp [ho,Op.operands,Call.operands])]; exact hy)
 case nil_ipt ho hx=>exact .nil_ipt ho (by rw [H _ (by simp [ho,Op.operands])]; exact hx)
 case nil_ptr ho hx hb=>exact .nil_ptr ho (by rw [H _ (by simp [ho,Op.operands])]; exact hx) (by rw [S _ (by simp)]; exact hb)
 case func f cs vs ho hv=>
  refine .func ho ?_
  rw [List.map_congr_left (g:=ρ) (fun x hx=>H x (by simp only [ho,Op.operands]; simpa using hx))]
  exact hv
 case iface ho hd hn=>
  rw [← H _ (by simp [ho,Op.operands])]
  exact .iface ho hd hn
 case sub T x lo hi e sz by_ z rows l h ho ht hx hlo hhi h1 h2=>
  refine .sub ho ht (by rw [H _ (by simp [ho,Op.operands])]; exact hx) ?_ ?_ h1 h2
  ·cases lo with
   | none=>exact hlo
   | some y=>simp only at hlo ⊢; rw [H y (by simp [ho,Op.operands])]; exact hlo
  ·cases hi with
   | none=>exact hhi
   | some y=>simp only at hhi ⊢; rw [H y (by simp [ho,Op.operands])]; exact hhi
 case make ho hd ht hx hy hb h63 h1=>exact .make ho hd ht (by rw [H _ (by simp [ho,Op.operands])]; exact hx) (by rw [H _ (by simp [ho,Op.operands])]; exact hy) hb h63 h1
 case append ho hd ht hx hb hy h1 hi hn h63 hne=>exact .append ho hd ht (by rw [H _ (by simp [ho,Op.operands,Call.operands])]; exact hx) (by rw [S _ (by simp)]; exact hb) (by rw [H _ (by simp [ho,Op.operands,Call.operands])]; exact hy) h1 hi hn h63 hne
 case append_nil ho hd ht hx hy h1 hi hn h63=>exact .append_nil ho hd ht (by rw [H _ (by simp [ho,Op.operands,Call.operands])]; exact hx) (by rw [H _ (by simp [ho,Op.operands,Call.operands])]; exact hy) h1 hi hn h63
 case nil_new e sz ho hx=>
  refine .nil_new e sz ho ?_
  rw [H _ (by rcases ho with ho | ho <;> simp [ho,Op.operands])]; exact hx
theorem Dr.loc {ks:List Nat} {x y:AV} (h:Dr σ ks x y) (S:∀ i∈ks,σ' i=σ i):Dr σ' ks x y:=by
 induction h with
 | imm h=>exact .imm h
 | clean h=>exact .clean h
 | fz h ih=>exact .fz ih
 | unfz=>exact .unfz
 | hnd hk h hi=>exact .hnd hk (by rw [S _ hk]; exact h) hi
 | ptr hk h hl hc ih=>exact .ptr hk (by rw [S _ hk]; exact h) hl ih
 | agg hl hc ih=>exact .agg hl ih
 | fn hl hc ih=>exact .fn hl ih
 | ifc h ih=>exact .ifc ih
theorem Cal.loc {g:FuncId} {args:List AV}:Cal P o ρ g args→(∀ x∈o.op.operands,ρ' x=ρ x)→Cal P o ρ' g args
 | .value (xs:=xs) ho hf hg ha,H=>by
  rw [List.map_congr_left (f:=ρ) (g:=ρ') (fun x hx=>(H x (by simp only [ho,Op.operands,Call.operands]; simp; right; simpa using hx)).symm)] at ha
  exact .value ho (by rw [H _ (by simp [ho,Op.operands,Call.operands])]; exact hf) hg ha
 | .invoke ho hx hg hm hy,H=>.invoke ho (by rw [H _ (by simp [ho,Op.operands,Call.operands])]; exact hx) hg hm hy
theorem Cl.loc:Cl P o ρ σ rd v wr→(∀ x∈o.op.operands,ρ' x=ρ x)→(∀ i∈rd,σ' i=σ i)→Cl P o ρ' σ' rd v wr
 | .call hc hok hσ hr ho,H,S=>.call (hc.loc H) hok (fun id o h=>by rw [S id (keys_of_lo h)]; exact hσ id o h) hr ho
 | .lend hc hl hd hok hr ho hs hs' hk,H,S=>.lend (hc.loc H) hl (fun i x y hx hy=>(hd i x y hx hy).loc S) hok hr ho hs hs' hk
end loc
structure It where
 o:Oper
 want:Bool
 v:AV
 rd:List Nat
 wr:List (Nat × Option AO)
def want (ops:Array Oper) (tm:List (Nat × AV)) (o:Oper):Option Bool:=
 match o.guard with
 | none=>some true
 | some (j,b)=>match (ops[j]?).bind (·.dst) with
  | some d=>match lk tm d with
   | .sc (.bool c)=>some (c==b)
   | .tup []=>some false
   | _=>none
  | none=>none
def ap (s:AS) (it:It):AS:=apply s it.o.dst it.v it.wr
def keysW (it:It):List Nat:=it.wr.map (·.1)
def newK (it:It):List Nat:=(keysW it).filter fun k=>!it.rd.contains k
def St (P:Program) (n:Nat) (ops:Array Oper) (it:It) (s:AS):Prop:=
 want ops s.tm it.o=some it.want∧(∀ d,it.o.dst=some d→d < n) ∧
 (it.want=true→Ax P it.o (Ql.ev s.tm) (lo s.ob) it.rd it.v it.wr∨Cl P it.o (Ql.ev s.tm) (lo s.ob) it.rd it.v it.wr) ∧
 (it.want=false→it.v=.tup []∧it.wr=[])
def RunD (P:Program) (n:Nat) (ob0:List (Nat × Option AO)) (ops:Array Oper):List Oper→List It→AS→(List It→AS→Prop)→Prop
 | [],d,s,K=>K d s
 | o::rest,d,s,K=>∃ it:It,it.o=o∧St P n ops it s∧(∀ k∈newK it,s.fresh ob0 k)∧RunD P n ob0 ops rest (it::d) (ap s it) K
section step
variable {P:Program} {C:Ctx} {κ:Kap} {s:AS} {a:Act} {w:World} {ops:Array Oper}
theorem want_sound (hg:G C κ s a w) {o:Oper} {b:Bool} (h:want ops s.tm o=some b):Region.wanted o (yielded ops a.tmps)=b:=by
 unfold want at h
 unfold Region.wanted
 cases hgd:o.guard with
 | none=>simp [hgd] at h; simp [h]
 | some p=>
  obtain⟨j,c⟩:=p
  simp only [hgd] at h
  cases hd:(ops[j]?).bind (·.dst) with
  | none=>simp [hd] at h
  | some d=>
   simp only [hd] at h
   split at h
   ·rename_i e he
    have hR:=hg.tm d
    rw [he] at hR
    simp only [R] at hR
    have hlt:d < a.tmps.size:=by
     rcases Nat.lt_or_ge d a.tmps.size with h1 | h1
     ·exact h1
     ·rw [Array.getD_eq_getD_getElem?,Array.getElem?_eq_none h1] at hR; simp [undef] at hR
    have hy:yielded ops a.tmps j=some e:=by
     unfold yielded
     rw [hd]
     simp only [Option.bind_some]
     rw [Array.getD_eq_getD_getElem?,Array.getElem?_eq_getElem hlt] at hR
     simp at hR
     rw [Array.getElem?_eq_getElem hlt,hR]
    simp at h
    subst h
    simp [hy]
   ·rename_i he
    have hR:=hg.tm d
    rw [he] at hR
    simp only [R,Rv] at hR
    obtain⟨vs,hv,hvs⟩:=hR
    have hy:yielded ops a.tmps j=none:=by
     unfold yielded
     rw [hd]
     simp only [Option.bind_some]
     rcases Nat.lt_or_ge d a.tmps.size with hlt | hlt
     ·rw [Array.getD_eq_getD_getElem?,Array.getElem?_eq_getElem hlt] at hv
      simp at hv
      rw [Array.getElem?_eq_getElem hlt,hv]
     ·rw [Array.getElem?_eq_none hlt]
    simp at h
    subst h
    simp [hy]
   ·cases h
theorem St.sound {it:It} {n:Nat} (hs:St P n ops it s) (hg:G C κ s a w) (hn:n≤C.n) (hf:∀ k∈newK it,s.fresh C.ob0 k) {next:Act→World→Prop} {Q:Exit→Act→World→Prop}
  (hk:∀ a' w',γ C (ap s it) a' w'→next a' w') :
  (if Region.wanted it.o (yielded ops a.tmps) then it.o.wp P a w next Q∨(it.o.asks P a w∧LetsOut Q) else next (a.put it.o.dst undef) w):=by
 obtain⟨hw,hd,h1,h2⟩:=hs
 rw [want_sound hg hw]
 have hd':∀ d,it.o.dst=some d→d < C.n:=fun d e=>Nat.lt_of_lt_of_le (hd d e) hn
 cases hwt:it.want with
 | true=>
  simp only [if_true]
  left
  have hf':∀ p∈it.wr,p.1∈it.rd∨s.fresh C.ob0 p.1:=by
   intro p hp
   by_cases hr:p.1∈it.rd
   ·exact .inl hr
   ·exact .inr (hf p.1 (List.mem_filter.2 ⟨List.mem_map.2 ⟨p,hp,rfl⟩,by simpa using hr⟩))
  rcases h1 hwt with hax | hcl
  ·exact hax.sound hg hd' hf' hk
  ·exact hcl.sound hg hd' hf' hk
 | false=>
  simp only [Bool.false_eq_true,if_false]
  obtain⟨hv,hwr⟩:=h2 hwt
  refine hk _ _ ⟨κ,?_⟩
  unfold ap
  rw [hv,hwr]
  exact hg.putd hd' (by simp only [R,Rv]; exact⟨#[],rfl,rfl⟩)
theorem range_ops {ops:Array Oper}:(List.range ops.size).map (ops[·]?)=ops.toList.map some:=by
 apply List.ext_getElem?
 intro i
 simp only [List.getElem?_map]
 by_cases h:i < ops.size
 ·simp [List.getElem?_range h,Array.getElem?_eq_getElem h]
 ·simp [Nat.le_of_not_lt h]
theorem RunD.text {n:Nat} (hn:n≤C.n) {Q:Exit→Act→World→Prop} {K:List It→AS→Prop}:∀ (is:List Nat) (os:List Oper) (d:List It) (s:AS) (a:Act) (w:World),is.map (ops[·]?)=os.map some →
  RunD P n C.ob0 ops os d s K→γ C s a w→(∀ d s a w,K d s→γ C s a w→Q .normal a w)→wpOps P ops Q is a w
 | [],os,d,s,a,w,he,hr,hg,hq=>by
  have:os=[]:=by simpa using he.symm
  subst this
  exact hq d s a w hr hg
 | i::is,os,d,s,a,w,he,hr,hg,hq=>by
  cases os with
  | nil=>simp at he
  | cons o os=>
   simp only [List.map_cons,List.cons.injEq] at he
   obtain⟨ho,he⟩:=he
   simp only [RunD] at hr
   obtain⟨it,rfl,hst,hf,hr⟩:=hr
   obtain⟨κ,hg⟩:=hg
   simp only [wpOps,ho]
   exact hst.sound hg hn hf fun a' w' hg'=>RunD.text hn is os _ _ a' w' he hr hg' hq
end step
end Go.Proofs.YthlchdnbokhclaaGreat.Ql
namespace Go.Proofs.YthlchdnbokhclaaGreat.Ql
open Go
def Eqv (s s':AS):Prop:=(∀ t,lk s.tm t=lk s'.tm t)∧∀ i,lo s.ob i=lo s'.ob i
theorem Eqv.refl (s:AS):Eqv s s:=⟨fun _=>rfl,fun _=>rfl⟩
theorem Eqv.trans {a b c:AS} (h:Eqv a b) (k:Eqv b c):Eqv a c:=⟨fun t=>(h.1 t).trans (k.1 t),fun i=>(h.2 i).trans (k.2 i)⟩
theorem Eqv.symm {a b:AS} (h:Eqv a b):Eqv b a:=⟨fun t=>(h.1 t).symm,fun i=>(h.2 i).symm⟩
theorem G.eqv {C:Ctx} {κ:Kap} {s s':AS} {a:Act} {w:World} (h:G C κ s a w) (e:Eqv s s'):G C κ s' a w where
 tm t:=by rw [← e.1 t]; exact h.tm t
 ob id o ho:=h.ob id o (by rw [e.2 id]; exact ho)
 live id k hk:=by obtain⟨o,ho⟩:=h.live id k hk; exact⟨o,by rw [← e.2 id]; exact ho⟩
 inj:=h.inj
 size:=h.size
 dfs:=h.dfs
 fr:=h.fr
 old:=h.old
 keep:=h.keep
theorem γ.eqv {C:Ctx} {s s':AS} {a:Act} {w:World} (h:γ C s a w) (e:Eqv s s'):γ C s' a w:=let ⟨κ,g⟩:=h; ⟨κ,g.eqv e⟩
theorem lk_ap (s:AS) (it:It) (t:Nat):lk (ap s it).tm t=if it.o.dst=some t then it.v else lk s.tm t:=by
 unfold ap apply
 cases h:it.o.dst with
 | none=>simp
 | some d=>simp [lk_cons]
theorem lo_ap (s:AS) (it:It) (i:Nat):lo (ap s it).ob i=if i∈keysW it then lo it.wr i else lo s.ob i:=by
 unfold ap apply keysW
 exact lo_append _ _ _
theorem ap_eqv {s s':AS} (e:Eqv s s') (it:It):Eqv (ap s it) (ap s' it):=
 ⟨fun t=>by rw [lk_ap,lk_ap,e.1 t],fun i=>by rw [lo_ap,lo_ap,e.2 i]⟩
section
variable {P:Program} {n:Nat} {ops:Array Oper}
theorem looks_op {o:Oper} {t:Nat} (h:Operand.tmp t∈o.op.operands):t∈o.looksAt ops:=by
 unfold Oper.looksAt
 refine List.mem_append.2 (.inl (List.mem_filterMap.2 ⟨.tmp t,by simpa using h,rfl⟩))
theorem St.loc {it:It} {s s':AS} (h:St P n ops it s) (ht:∀ t∈it.o.looksAt ops,lk s'.tm t=lk s.tm t) (ho:∀ i∈it.rd,lo s'.ob i=lo s.ob i):St P n ops it s':=by
 obtain⟨h1,h2,h3,h4⟩:=h
 have H:∀ x∈it.o.op.operands,Ql.ev s'.tm x=Ql.ev s.tm x:=by
  intro x hx
  cases x with
  | tmp t=>exact ht t (looks_op hx)
  | _=>rfl
 refine⟨?_,h2,fun hw=>(h3 hw).imp (fun h=>h.loc H ho) (fun h=>h.loc H ho),h4⟩
 unfold want at h1 ⊢
 cases hg:it.o.guard with
 | none=>simpa [hg] using h1
 | some p=>
  obtain⟨j,b⟩:=p
  simp only [hg] at h1 ⊢
  cases hd:(ops[j]?).bind (·.dst) with
  | none=>simp [hd] at h1
  | some d=>
   simp only [hd] at h1 ⊢
   rw [ht d (by unfold Oper.looksAt; simp [hg,hd])]
   exact h1
def chain (P:Program) (n:Nat) (ops:Array Oper):List It→AS→Prop
 | [],_=>True
 | it::r,s=>St P n ops it s∧chain P n ops r (ap s it)
def fin (s:AS) (l:List It):AS:=l.foldl ap s
theorem chain_eqv:∀ {l:List It} {s s':AS},chain P n ops l s→Eqv s s'→chain P n ops l s'∧Eqv (fin s l) (fin s' l)
 | [],_,_,_,e=>⟨trivial,e⟩
 | it::r,s,s',h,e=>by
  obtain⟨h1,h2⟩:=h
  have hst:St P n ops it s':=h1.loc (fun t _=>(e.1 t).symm) (fun i _=>(e.2 i).symm)
  obtain⟨h3,h4⟩:=chain_eqv h2 (ap_eqv e it)
  exact⟨⟨hst,h3⟩,h4⟩
def menIt (k:Nat) (it:It):Bool:=it.v.men k||it.wr.any fun p=>match p.2 with | some o=>o.men k | none=>false
def apartB (ops:Array Oper) (a b:It):Bool:=
 a.o.apart ops b.o&&(keysW a).all (fun k=>!b.rd.contains k&&!(keysW b).contains k)&&(keysW b).all (fun k=>!a.rd.contains k)&&(newK a).all (fun k=>!menIt k b)
theorem swap {a b:It} {s:AS} (ha:St P n ops a s) (hb:St P n ops b (ap s a)) (h:apartB ops a b=true):St P n ops b s∧St P n ops a (ap s b)∧Eqv (ap (ap s a) b) (ap (ap s b) a):=by
 simp only [apartB,Bool.and_eq_true,List.all_eq_true,Bool.not_eq_true'] at h
 obtain⟨⟨⟨h1,h2⟩,h3⟩,_⟩:=h
 obtain⟨d1,d2,d3⟩:=Oper.apart_spec h1
 have k1:∀ k∈keysW a,k∉b.rd∧k∉keysW b:=fun k hk=>by simpa using h2 k hk
 have k2:∀ k∈keysW b,k∉a.rd:=fun k hk=>by simpa using h3 k hk
 refine⟨hb.loc (fun t ht=>?_) (fun i hi=>?_),ha.loc (fun t ht=>?_) (fun i hi=>?_),⟨fun t=>?_,fun i=>?_⟩⟩
 ·rw [lk_ap,if_neg (fun e=>d1 t e ht)]
 ·rw [lo_ap,if_neg (fun e=>(k1 i e).1 hi)]
 ·rw [lk_ap,if_neg (fun e=>d3 t e ht)]
 ·rw [lo_ap,if_neg (fun e=>k2 i e hi)]
 ·rw [lk_ap,lk_ap,lk_ap,lk_ap]
  by_cases e1:a.o.dst=some t
  ·have e2:¬ b.o.dst=some t:=d2 t e1
   simp [e1,e2]
  ·simp [e1]
 ·rw [lo_ap,lo_ap,lo_ap,lo_ap]
  by_cases e1:i∈keysW a
  ·simp [e1,(k1 i e1).2]
  ·simp [e1]
theorem front {x:It} {B:List It}:∀ {A:List It} {s:AS},chain P n ops (A++x::B) s→(∀ a∈A,apartB ops a x=true)→St P n ops x s∧chain P n ops (A++B) (ap s x)∧Eqv (fin s (A++x::B)) (fin (ap s x) (A++B))
 | [],_,h,_=>⟨h.1,h.2,Eqv.refl _⟩
 | a::A,s,h,hh=>by
  obtain⟨h1,h2⟩:=h
  obtain⟨i1,i2,i3⟩:=front h2 fun b hb=>hh b (List.mem_cons_of_mem _ hb)
  obtain⟨j1,j2,j3⟩:=swap h1 i1 (hh a (List.mem_cons_self ..))
  obtain⟨c1,c2⟩:=chain_eqv i2 j3
  exact⟨j1,⟨j2,c1⟩,i3.trans c2⟩
theorem men_lo {k:Nat} {it:It} (h:menIt k it=false) {i:Nat} {o:AO} (ho:lo it.wr i=some o):o.men k=false:=by
 simp only [menIt,Bool.or_eq_false_iff] at h
 obtain⟨_,h⟩:=h
 generalize it.wr=l at h ho
 induction l with
 | nil=>simp [lo] at ho
 | cons p r ih=>
  obtain⟨j,q⟩:=p
  simp only [List.any_cons,Bool.or_eq_false_iff] at h
  rw [lo_cons] at ho
  split at ho
  ·subst ho; exact h.1
  ·exact ih h.2 ho
theorem fresh_ap {ob0:List (Nat × Option AO)} {s:AS} {k:Nat} {x:It} (h:s.fresh ob0 k) (h1:menIt k x=false) (h2:k∉keysW x):(ap s x).fresh ob0 k where
 t t:=by
  rw [lk_ap]
  split
  ·simp only [menIt,Bool.or_eq_false_iff] at h1; exact h1.1
  ·exact h.t t
 n:=by rw [lo_ap,if_neg h2]; exact h.n
 o i o ho:=by
  rw [lo_ap] at ho
  split at ho
  ·exact men_lo h1 ho
  ·exact h.o i o ho
 c:=h.c
def idx:Nat→List It→List (Nat × It)
 | _,[]=>[]
 | i,a::r=>(i,a)::idx (i+1) r
def ancOK (ops:Array Oper) (A:List (List Nat)):Bool:=
 (List.range A.length).all fun j=>(A.getD j []).all fun i=>match ops[j]? with
  | some o=>o.after.any fun e=>Region.binds .any e&&decide (e.on < j)&&(e.on==i||(A.getD e.on []).contains i)
  | none=>false
def direct (x:It) (i:Nat):Bool:=x.o.after.any fun e=>Region.binds .any e&&e.on==i
def pairOK (A:List (List Nat)) (ops:Array Oper) (i:Nat) (a:It) (j:Nat) (b:It):Bool:=
 (newK b).all (fun k=>!menIt k a&&!(keysW a).contains k)&&(direct b i||apartB ops a b||(A.getD j []).contains i)
def headOK (j:Nat) (b:It):Bool:=b.o.after.all fun e=>!Region.binds .any e||decide (e.on < j)
def okD (A:List (List Nat)) (ops:Array Oper):Nat→List It→Bool
 | _,[]=>true
 | i,a::r=>headOK i a&&(idx (i+1) r).all (fun q=>pairOK A ops i a q.1 q.2)&&okD A ops (i+1) r
theorem idx_ge:∀ {l:List It} {i:Nat} {p:Nat × It},p∈idx i l→i≤p.1
 | [],_,_,h=>by simp [idx] at h
 | a::r,i,p,h=>by
  simp only [idx,List.mem_cons] at h
  rcases h with rfl | h
  ·exact Nat.le_refl _
  ·have:=idx_ge h; omega
theorem idx_snd:∀ {l:List It} {i:Nat},(idx i l).map (·.2)=l
 | [],_=>rfl
 | a::r,i=>by simp [idx,idx_snd]
theorem idx_fst:∀ {l:List It} {i j:Nat},j∈(idx i l).map (·.1)↔i≤j∧j < i+l.length
 | [],i,j=>by simp [idx] <;> omega
 | a::r,i,j=>by
  simp only [idx,List.map_cons,List.mem_cons,idx_fst,List.length_cons]; omega
theorem idx_ops:∀ {l:List It} {i:Nat} {os:List Oper},l.map (·.o)=os→∀ p∈idx i l,os[p.1 - i]?=some p.2.o∧i≤p.1
 | [],_,_,_,p,h=>by simp [idx] at h
 | a::r,i,os,e,p,h=>by
  subst e
  simp only [idx,List.mem_cons] at h
  rcases h with rfl | h
  ·simp
  ·have hg:=idx_ge h
   have:=(idx_ops (i:=i+1) (l:=r) rfl p h).1
   refine⟨?_,by omega⟩
   rw [show p.1 - i=(p.1 - (i+1))+1 by omega]
   simpa using this
def PW (A:List (List Nat)) (ops:Array Oper) (p q:Nat × It):Prop:=p.1 < q.1∧pairOK A ops p.1 p.2 q.1 q.2=true
theorem okD_pw {A:List (List Nat)}:∀ {l:List It} {i:Nat},okD A ops i l=true→(idx i l).Pairwise (PW A ops)∧∀ p∈idx i l,headOK p.1 p.2=true
 | [],_,_=>by simp [idx]
 | a::r,i,h=>by
  simp only [okD,Bool.and_eq_true] at h
  obtain⟨⟨h1,h2⟩,h3⟩:=h
  obtain⟨i1,i2⟩:=okD_pw h3
  refine⟨List.Pairwise.cons (fun q hq=>⟨by have:=idx_ge hq; omega,?_⟩) i1,fun p hp=>?_⟩
  ·exact List.all_eq_true.1 h2 q hq
  ·simp only [idx,List.mem_cons] at hp
   rcases hp with rfl | hp
   ·exact h1
   ·exact i2 p hp
def Down (ops:Array Oper) (listed:Array Bool):Prop:=∀ j o,ops[j]?=some o→listed.getD j false=true→∀ e∈o.after,Region.binds .any e=true→listed.getD e.on false=true
theorem anc_listed {A:List (List Nat)} (hA:ancOK ops A=true) {listed:Array Bool} (hd:Down ops listed):∀ (j:Nat) (i:Nat),i∈A.getD j []→(∀ o,ops[j]?=some o→∀ e∈o.after,Region.binds .any e=true→listed.getD e.on false=true)→listed.getD i false=true:=by
 intro j
 induction j using Nat.strongRecOn with
 | _ j ih=>
  intro i hi hpre
  have hj:j < A.length:=by
   rcases Nat.lt_or_ge j A.length with h | h
   ·exact h
   ·rw [List.getD_eq_getElem?_getD,List.getElem?_eq_none h] at hi; simp at hi
  have h1:=List.all_eq_true.1 (List.all_eq_true.1 hA j (List.mem_range.2 hj)) i hi
  cases ho:ops[j]? with
  | none=>rw [ho] at h1; simp at h1
  | some o=>
   rw [ho] at h1
   simp only at h1
   obtain⟨e,he,hb⟩:=Array.any_eq_true'.1 h1
   simp only [Bool.and_eq_true,Bool.or_eq_true,decide_eq_true_eq,beq_iff_eq] at hb
   obtain⟨⟨hbb,hlt⟩,hor⟩:=hb
   have hl:=hpre o ho e he hbb
   rcases hor with rfl | hin
   ·exact hl
   ·exact ih e.on hlt i (by simpa using hin) fun o' ho' e' he' hb'=>hd e.on o' ho' hl e' he' hb'
variable {C:Ctx}
theorem any_ready {i:Nat} {listed:Array Bool} (h:i∈Region.ready .any ops listed):i < ops.size∧listed.getD i true=false∧∃ o,ops[i]?=some o∧∀ e∈o.after,Region.binds .any e=true→listed.getD e.on false=true:=by
 unfold Region.ready at h
 simp only [List.mem_filter,List.mem_range,Bool.and_eq_true,Bool.not_eq_true'] at h
 obtain⟨h1,h2,h3⟩:=h
 refine⟨h1,h2,ops[i],Array.getElem?_eq_getElem h1,?_⟩
 rw [Array.getElem?_eq_getElem h1] at h3
 simp only [Option.map_some,Option.getD_some] at h3
 intro e he hb
 have:=Array.all_eq_true'.1 h3 e he
 simpa [hb] using this
theorem drawn {Q:Exit→Act→World→Prop} (hn:n≤C.n) {A:List (List Nat)} (hA:ancOK ops A=true):∀ (f:Nat) (rem:List (Nat × It)) (s:AS) (a:Act) (w:World) (listed:Array Bool),rem.length=f →
  listed.size=ops.size→Down ops listed→(∀ i,i < ops.size→(listed.getD i true=false↔i∈rem.map (·.1)))→(∀ p∈rem,ops[p.1]?=some p.2.o)→rem.Pairwise (PW A ops)→(∀ p∈rem,headOK p.1 p.2=true) →
  chain P n ops (rem.map (·.2)) s→(∀ p∈rem,∀ k∈newK p.2,s.fresh C.ob0 k)→γ C s a w→(∀ a' w',γ C (fin s (rem.map (·.2))) a' w'→Q .normal a' w') →
  wpAny P .any ops Q f listed a w:=by
 intro f
 induction f with
 | zero=>
  intro rem s a w listed hl hsz hdown hlist hops hpw hhd hch hfr hg hq
  have:rem=[]:=List.eq_nil_of_length_eq_zero hl
  subst this
  refine⟨?_,hq a w hg⟩
  rw [List.eq_nil_iff_forall_not_mem]
  intro i hi
  obtain⟨h1,h2,_⟩:=any_ready hi
  have:=(hlist i h1).1 h2
  simp at this
 | succ f ih=>
  intro rem s a w listed hl hsz hdown hlist hops hpw hhd hch hfr hg hq
  refine⟨fun hnone=>?_,fun i hi=>?_⟩
  ·exfalso
   cases rem with
   | nil=>simp at hl
   | cons p r=>
    have hp:=hops p (List.mem_cons_self ..)
    have hlt:p.1 < ops.size:=(Array.getElem?_eq_some_iff.1 hp).1
    have hun:listed.getD p.1 true=false:=(hlist p.1 hlt).2 (by simp)
    have:p.1∈Region.ready .any ops listed:=by
     unfold Region.ready
     simp only [List.mem_filter,List.mem_range,Bool.and_eq_true,Bool.not_eq_true']
     refine⟨hlt,hun,?_⟩
     rw [hp]
     simp only [Option.map_some,Option.getD_some]
     rw [Array.all_eq_true']
     intro e he
     cases hb:Region.binds .any e with
     | false=>simp
     | true=>
      have hh:=Array.all_eq_true'.1 (hhd p (List.mem_cons_self ..)) e he
      rw [hb] at hh
      simp at hh
      have hnot:e.on∉(p::r).map (·.1):=by
       intro hm
       simp only [List.map_cons,List.mem_cons] at hm
       rcases hm with hm | hm
       ·omega
       ·obtain⟨q,hq1,hq2⟩:=List.mem_map.1 hm
        have:=((List.pairwise_cons.1 hpw).1 q hq1).1
        omega
      have h3:¬ listed.getD e.on true=false:=fun h=>hnot ((hlist e.on (by omega)).1 h)
      have hls:e.on < listed.size:=by omega
      simp only [Array.getD_eq_getD_getElem?,Array.getElem?_eq_getElem hls,Option.getD_some] at h3 ⊢
      simpa using h3
    rw [hnone] at this
    simp at this
  ·obtain⟨h1,h2,o,ho,hpre⟩:=any_ready hi
   have hm:=(hlist i h1).1 h2
   obtain⟨p,hp,hpi⟩:=List.mem_map.1 hm
   obtain⟨AA,B,hAB⟩:=List.append_of_mem hp
   subst hAB
   obtain⟨i',x⟩:=p
   simp only at hpi
   subst hpi
   have hxo:=hops (i',x) hp
   rw [hxo] at ho
   cases ho
   have hpwA:=List.pairwise_append.1 hpw
   have hapart:∀ b∈AA,apartB ops b.2 x=true:=by
    intro b hb
    have hpk:=(hpwA.2.2 b hb (i',x) (List.mem_cons_self ..))
    simp only [PW,pairOK,Bool.and_eq_true,Bool.or_eq_true] at hpk
    have hnl:∀ {i:Nat},b.1=i→listed.getD i false=true→False:=by
     intro i hbi h4
     subst hbi
     have hbl:b.1 < ops.size:=by have:=hpk.1; omega
     have h5:listed.getD b.1 true=false:=(hlist b.1 hbl).2 (List.mem_map.2 ⟨b,List.mem_append.2 (.inl hb),rfl⟩)
     have hls:b.1 < listed.size:=by omega
     simp only [Array.getD_eq_getD_getElem?,Array.getElem?_eq_getElem hls,Option.getD_some] at h4 h5
     rw [h4] at h5; cases h5
    rcases hpk.2.2 with (hd | hd) | hd
    ·exfalso
     obtain⟨e,he,hbe⟩:=Array.any_eq_true'.1 hd
     simp only [Bool.and_eq_true,beq_iff_eq] at hbe
     have h4:=hpre e he hbe.1
     rw [hbe.2] at h4
     have hbl:b.1 < ops.size:=by have:=hpk.1; omega
     have h5:listed.getD b.1 true=false:=(hlist b.1 hbl).2 (List.mem_map.2 ⟨b,List.mem_append.2 (.inl hb),rfl⟩)
     have hls:b.1 < listed.size:=by omega
     simp only [Array.getD_eq_getD_getElem?,Array.getElem?_eq_getElem hls,Option.getD_some] at h4 h5
     rw [h4] at h5; cases h5
    ·exact hd
    ·exact(hnl rfl (anc_listed hA hdown i' b.1 (by simpa using hd) (fun o ho' e he hbe=>by
      rw [hxo] at ho'; cases ho'; exact hpre e he hbe))).elim
   simp only [List.map_append,List.map_cons] at hch
   obtain⟨f1,f2,f3⟩:=front hch (by intro b hb; obtain⟨q,hq1,rfl⟩:=List.mem_map.1 hb; exact hapart q hq1)
   obtain⟨κ,hgκ⟩:=hg
   unfold wpOp
   rw [hxo]
   simp only
   refine f1.sound hgκ hn (hfr (i',x) hp) fun a' w' hg'=>?_
   have hpwB:=List.pairwise_cons.1 hpwA.2.1
   refine ih (AA++B) (ap s x) a' w' (listed.setIfInBounds i' true) (by simp at hl ⊢; omega) (by simpa using hsz) ?_ ?_ (fun q hq=>hops q ?_) ?_ (fun q hq=>hhd q ?_) (by simpa using f2) (fun q hq k hk=>?_) hg' (fun a' w' hg''=>hq a' w' (hg''.eqv ?_))
   ·intro j o' ho' hlj e he hbe
    have key:∀ m,listed.getD m false=true→(listed.setIfInBounds i' true).getD m false=true:=by
     intro m hm
     by_cases hmi:i'=m
     ·subst hmi
      have:i' < listed.size:=by omega
      simp [Array.getD_eq_getD_getElem?,this]
     ·rw [getD_set_ne false hmi]; exact hm
    by_cases hji:i'=j
    ·subst hji
     rw [hxo] at ho'; cases ho'
     exact key _ (hpre e he hbe)
    ·rw [getD_set_ne false hji] at hlj
     exact key _ (hdown j o' ho' hlj e he hbe)
   ·intro j hj
    by_cases hji:i'=j
    ·subst hji
     have:i' < listed.size:=by omega
     constructor
     ·intro h; simp [Array.getD_eq_getD_getElem?,this] at h
     ·intro h
      exfalso
      obtain⟨q,hq1,hq2⟩:=List.mem_map.1 h
      rcases List.mem_append.1 hq1 with hq1 | hq1
      ·have:=(hpwA.2.2 q hq1 (i',x) (List.mem_cons_self ..)).1; simp at this; omega
      ·have:=(hpwB.1 q hq1).1; simp at this; omega
    ·rw [getD_set_ne true hji,hlist j hj]
     simp only [List.map_append,List.map_cons,List.mem_append,List.mem_cons]
     constructor
     ·rintro(h | h | h)
      ·exact .inl h
      ·exact absurd h.symm hji
      ·exact .inr h
     ·rintro(h | h)
      ·exact .inl h
      ·exact .inr (.inr h)
   ·rcases List.mem_append.1 hq with h | h
    ·exact List.mem_append.2 (.inl h)
    ·exact List.mem_append.2 (.inr (List.mem_cons_of_mem _ h))
   ·exact List.pairwise_append.2 ⟨hpwA.1,hpwB.2,fun p hp q hq=>hpwA.2.2 p hp q (List.mem_cons_of_mem _ hq)⟩
   ·rcases List.mem_append.1 hq with h | h
    ·exact List.mem_append.2 (.inl h)
    ·exact List.mem_append.2 (.inr (List.mem_cons_of_mem _ h))
   ·have hmem:q∈AA++(i',x)::B:=by
     rcases List.mem_append.1 hq with h | h
     ·exact List.mem_append.2 (.inl h)
     ·exact List.mem_append.2 (.inr (List.mem_cons_of_mem _ h))
    refine fresh_ap (hfr q hmem k hk) ?_ ?_
    ·rcases List.mem_append.1 hq with h | h
     ·have:=hapart q h
      simp only [apartB,Bool.and_eq_true,List.all_eq_true,Bool.not_eq_true'] at this
      exact this.2 k hk
     ·have:=(hpwB.1 q h).2
      simp only [pairOK,Bool.and_eq_true,List.all_eq_true,Bool.not_eq_true'] at this
      exact(this.1 k hk).1
    ·rcases List.mem_append.1 hq with h | h
     ·have:=hapart q h
      simp only [apartB,Bool.and_eq_true,List.all_eq_true,Bool.not_eq_true'] at this
      have:=(this.1.1.2 k (List.mem_filter.1 hk).1).2
      simpa using this
     ·have:=(hpwB.1 q h).2
      simp only [pairOK,Bool.and_eq_true,List.all_eq_true,Bool.not_eq_true'] at this
      have:=(this.1 k hk).2
      simpa using this
   ·simp only [List.map_append,List.map_cons]
    exact f3.symm
end
end Go.Proofs.YthlchdnbokhclaaGreat.Ql
namespace Go.Proofs.YthlchdnbokhclaaGreat.Ql
open Go
inductive Nz (σ:Nat→Option AO) (ks:List Nat) (js:List (Nat × Nat)):AV→AV→Prop
 | imm {x y} (h:Sub x y) (hy:y.only []=true):Nz σ ks js x y
 | frz {x y} (h:Dr σ ks x y) (hy:y.only []=true):Nz σ ks js x y
 | hnd {i j} (h:(j,i)∈js):Nz σ ks js (.hnd i) (.hnd j)
 | ptr {i j off} (h:(j,i)∈js):Nz σ ks js (.ptr i off) (.ptr j off)
 | vw {i j sz lo hi c} (h:(j,i)∈js):Nz σ ks js (.vw i sz lo hi c) (.vw j sz lo hi c)
 | agg {cs cs'} (hl:cs.length=cs'.length) (hc:∀ (i:Nat) (x y:AV),cs[i]?=some x→cs'[i]?=some y→Nz σ ks js x y):Nz σ ks js (.agg cs) (.agg cs')
 | tup {cs cs'} (hl:cs.length=cs'.length) (hc:∀ (i:Nat) (x y:AV),cs[i]?=some x→cs'[i]?=some y→Nz σ ks js x y):Nz σ ks js (.tup cs) (.tup cs')
 | fn {f cs cs'} (hl:cs.length=cs'.length) (hc:∀ (i:Nat) (x y:AV),cs[i]?=some x→cs'[i]?=some y→Nz σ ks js x y):Nz σ ks js (.fn f cs) (.fn f cs')
 | ifc {t x y} (h:Nz σ ks js x y):Nz σ ks js (.ifc t x) (.ifc t y)
inductive NzO (σ:Nat→Option AO) (ks:List Nat) (js:List (Nat × Nat)):AO→AO→Prop
 | box {cs cs'} (hl:cs.length=cs'.length) (hc:∀ (i:Nat) (x y:AV),cs[i]?=some x→cs'[i]?=some y→Nz σ ks js x y):NzO σ ks js (.box cs) (.box cs')
 | arr {e sz rows} (h:rows.flatten.all AV.im=true):NzO σ ks js (.arr e sz rows) (.arr e sz rows)
 | mp {es}:NzO σ ks js (.mp es) (.mp es)
abbrev Mv:=List (Nat × Nat × AO)
def Mv.js (m:Mv):List (Nat × Nat):=m.map fun p=>(p.1,p.2.1)
def Mv.ob (m:Mv):List (Nat × AO):=m.map fun p=>(p.1,p.2.2)
def nodupB:List Nat→Bool
 | []=>true
 | x::r=>!r.contains x&&nodupB r
theorem nodupB_spec:∀ {l:List Nat},nodupB l=true→l.Nodup
 | [],_=>List.nodup_nil
 | x::r,h=>by
  simp [nodupB] at h
  exact List.nodup_cons.2 ⟨h.1,nodupB_spec h.2⟩
def Mv.ok (ob0:List (Nat × Option AO)) (ks:List Nat) (m:Mv):Bool:=
 nodupB (m.map (·.1))&&nodupB (m.map (·.2.1))&&m.all (fun p=>!ks.contains p.2.1)&&m.all (fun p=>match lo ob0 p.1 with | none=>true | some _=>p.1==p.2.1)
section
variable {P:Program} {C:Ctx} {κ:Kap} {s:AS} {a:Act} {w:World}
def kapM (κ:Kap) (m:Mv):Kap:=fun j=>match m.find? (fun p=>p.1==j) with
 | some p=>κ p.2.1
 | none=>none
theorem kapM_some {κ:Kap} {m:Mv} {j:Nat} {k:KO} (h:kapM κ m j=some k):∃ p∈m,p.1=j∧κ p.2.1=some k∧m.find? (fun p=>p.1==j)=some p:=by
 unfold kapM at h
 split at h
 ·rename_i p hp
  exact⟨p,List.mem_of_find?_eq_some hp,by simpa using List.find?_some hp,h,hp⟩
 ·cases h
theorem kapM_mem {κ:Kap} {m:Mv} (hn:(m.map (·.1)).Nodup) {p:Nat × Nat × AO} (hp:p∈m):kapM κ m p.1=κ p.2.1∧m.find? (fun q=>q.1==p.1)=some p:=by
 have:m.find? (fun q=>q.1==p.1)=some p:=by
  induction m with
  | nil=>simp at hp
  | cons q r ih=>
   simp only [List.map_cons,List.nodup_cons] at hn
   rcases List.mem_cons.1 hp with rfl | hp
   ·simp
   ·have:¬ q.1=p.1:=fun e=>hn.1 (e ▸ List.mem_map.2 ⟨p,hp,rfl⟩)
    have hb:(q.1==p.1)=false:=by simpa using this
    rw [List.find?_cons,hb]
    exact ih hn.2 hp
 exact⟨by simp [kapM,this],this⟩
theorem lo_mv {m:Mv} {j:Nat} {o:AO} (h:lo (sm m.ob) j=some o):∃ p∈m,p.1=j∧p.2.2=o:=by
 have:=lo_sm_mem h
 obtain⟨p,hp,he⟩:=List.mem_map.1 this
 cases he
 exact⟨p,hp,rfl,rfl⟩
theorem G.norm (hg:G C κ s a w) {ks:List Nat} {m:Mv} (hok:m.ok C.ob0 ks=true) (hm:∀ p∈m,∃ o0,lo s.ob p.2.1=some o0∧NzO (lo s.ob) ks m.js o0 p.2.2) {l:List (Nat × AV)}
  (hl:∀ t,Nz (lo s.ob) ks m.js (lk s.tm t) (lk l t)) :
  G C (kapM κ m) ⟨l,sm m.ob⟩ a w∧∀ x y u,Nz (lo s.ob) ks m.js x y→R w (OW C κ) κ x u→R w (OW C (kapM κ m)) (kapM κ m) y u:=by
 simp only [Mv.ok,Bool.and_eq_true] at hok
 obtain⟨⟨⟨hn1,hn2⟩,hdis⟩,hnm⟩:=hok
 have hn1:=nodupB_spec hn1
 have hn2:=nodupB_spec hn2
 have hown:∀ b,owned (kapM κ m) b→∃ p∈m,∃ k,κ p.2.1=some k∧k.blk=some b:=by
  rintro b ⟨j,k,e,hb⟩
  obtain⟨p,hp,_,he,_⟩:=kapM_some e
  exact⟨p,hp,k,he,hb⟩
 have how:∀ b,OW C (kapM κ m) b→OW C κ b:=by
  rintro b (hb | hb)
  ·exact .inl hb
  ·obtain⟨p,_,k,e,hb⟩:=hown b hb; exact .inr ⟨_,k,e,hb⟩
 have hK:Keeps w (OW C κ) w (OW C (kapM κ m)):=⟨Nat.le_refl _,fun b _ hn=>⟨fun e=>hn (how b e),rfl⟩⟩
 have hks:∀ id∈ks,∀ k b,κ id=some k→k.blk=some b→¬ OW C (kapM κ m) b:=by
  intro id hid k b hk hb
  rintro(hx | hx)
  ·exact(hg.old b ⟨id,k,hk,hb⟩).2 hx
  ·obtain⟨p,hp,k',e,hb'⟩:=hown b hx
   have:=hg.inj id p.2.1 k k' b hk e hb hb'
   have h1:=List.all_eq_true.1 hdis p hp
   simp at h1
   exact h1 (this ▸ hid)
 have hjs:∀ j i,(j,i)∈m.js→kapM κ m j=κ i:=by
  intro j i h
  obtain⟨p,hp,he⟩:=List.mem_map.1 h
  cases he
  exact(kapM_mem hn1 hp).1
 have hR:∀ x y u,Nz (lo s.ob) ks m.js x y→R w (OW C κ) κ x u→R w (OW C (kapM κ m)) (kapM κ m) y u:=by
  have lst:∀ {xs ys:List AV} {vs:List Value},xs.length=ys.length→Rv w (OW C κ) κ xs vs→(∀ (i:Nat) (x y:AV),xs[i]?=some x→ys[i]?=some y→∀ u,R w (OW C κ) κ x u→R w (OW C (kapM κ m)) (kapM κ m) y u)→Rv w (OW C (kapM κ m)) (kapM κ m) ys vs:=by
   intro xs
   induction xs with
   | nil=>intro ys vs hl hv _; cases ys with
    | nil=>simp only [Rv] at hv; simp [Rv,hv]
    | cons _ _=>simp at hl
   | cons x xs ih=>
    intro ys vs hl hv hh
    cases ys with
    | nil=>simp at hl
    | cons y ys=>
     simp only [Rv] at hv; obtain⟨v,r,rfl,h1,h2⟩:=hv
     simp only [Rv]
     exact⟨v,r,rfl,hh 0 x y rfl rfl v h1,ih (by simpa using hl) h2 fun i x y hx hy=>hh (i+1) x y (by simpa using hx) (by simpa using hy)⟩
  intro x y u h
  induction h generalizing u with
  | imm h hy=>
   intro hx
   exact R_men hK _ _ (fun id k _=>.inr (only_men (by simp) _ hy)) (h _ _ _ _ hx)
  | frz h hy=>intro hx; exact R_of_RI _ _ (h.sound0 hg hK hks u hx)
  | @hnd i j h=>
   intro hx
   simp only [R] at hx ⊢
   exact⟨hx.1,fun k e=>hx.2 k (by rw [← hjs j i h]; exact e)⟩
  | @ptr i j off h=>
   intro hx
   simp only [R] at hx ⊢
   exact⟨hx.1,fun k e=>hx.2 k (by rw [← hjs j i h]; exact e)⟩
  | @vw i j sz lo hi c h=>
   intro hx
   simp only [R] at hx ⊢
   exact⟨hx.1,fun k e=>hx.2 k (by rw [← hjs j i h]; exact e)⟩
  | agg hl hc ih=>
   intro hx
   simp only [R] at hx ⊢; obtain⟨vs,rfl,hv⟩:=hx
   exact⟨vs,rfl,lst hl hv fun i x y hx hy u=>ih i x y hx hy u⟩
  | tup hl hc ih=>
   intro hx
   simp only [R] at hx ⊢; obtain⟨vs,rfl,hv⟩:=hx
   exact⟨vs,rfl,lst hl hv fun i x y hx hy u=>ih i x y hx hy u⟩
  | fn hl hc ih=>
   intro hx
   simp only [R] at hx ⊢; obtain⟨vs,rfl,hv⟩:=hx
   exact⟨vs,rfl,lst hl hv fun i x y hx hy u=>ih i x y hx hy u⟩
  | ifc _ ih=>
   intro hx
   simp only [R] at hx ⊢; obtain⟨v,rfl,hv⟩:=hx
   exact⟨v,rfl,ih v hv⟩
 refine⟨{
  tm:=fun t=>hR _ _ _ (hl t) (hg.tm t)
  ob:=fun j o ho=>by
   obtain⟨p,hp,rfl,rfl⟩:=lo_mv ho
   obtain⟨o0,ho0,hnz⟩:=hm p hp
   obtain⟨k,hk,hro⟩:=hg.ob _ _ ho0
   refine⟨k,(kapM_mem hn1 hp).1.trans hk,?_⟩
   obtain⟨j,i,o⟩:=p
   dsimp only at hnz ⊢
   cases hnz with
   | box hl hc=>
    obtain⟨b,cur,e,h1,h2,h3,h4⟩:=hro
    refine⟨b,cur,e,h1,h2,?_,h4⟩
    refine Rv_of ((Rv_length h3).trans hl) fun q y v hy hv=>?_
    have hq:q < cur.toList.length:=(List.getElem?_eq_some_iff.1 hv).1
    have hlen:=Rv_length h3
    have hx:=List.getElem?_eq_getElem (l:=_) (i:=q) (show q < _ from hlen ▸ hq)
    obtain⟨v',hv',hr⟩:=Rv_get h3 hx
    rw [hv] at hv'; cases hv'
    exact hR _ _ _ (hc q _ y hx hy) hr
   | arr h=>
    obtain⟨u,vals,h1,h2,h3,h4⟩:=hro
    exact⟨u,vals,h1,h2,Rv_of_RIv _ _ (RIv_mono hK _ _ (RI_all h3 h)),h4⟩
   | mp=>exact hro
  live:=fun j k e=>by
   obtain⟨p,hp,rfl,_⟩:=kapM_some e
   exact lo_sm_keys (List.mem_map.2 ⟨(p.1,p.2.2),List.mem_map.2 ⟨p,hp,rfl⟩,rfl⟩)
  inj:=fun i j k l b hi hj hb hb'=>by
   obtain⟨p,hp,rfl,e1,_⟩:=kapM_some hi
   obtain⟨q,hq,rfl,e2,_⟩:=kapM_some hj
   have:=hg.inj _ _ _ _ b e1 e2 hb hb'
   have h1:∀ {m:Mv} {p q:Nat × Nat × AO},(m.map (·.2.1)).Nodup→p∈m→q∈m→p.2.1=q.2.1→p=q:=by
    intro m
    induction m with
    | nil=>intro p q _ hp; simp at hp
    | cons r m ih=>
     intro p q hn hp hq he
     simp only [List.map_cons,List.nodup_cons] at hn
     rcases List.mem_cons.1 hp with hp' | hp' <;> rcases List.mem_cons.1 hq with hq' | hq'
     ·rw [hp',hq']
     ·exact absurd (List.mem_map.2 ⟨q,hq',by rw [← he,hp']⟩) hn.1
     ·exact absurd (List.mem_map.2 ⟨p,hp',by rw [he,hq']⟩) hn.1
     ·exact ih hn.2 hp' hq' he
   rw [h1 hn2 hp hq this]
  size:=hg.size
  dfs:=hg.dfs
  fr:=hg.fr
  old:=fun b hb=>by
   obtain⟨p,hp,k,e,hb⟩:=hown b hb
   exact hg.old b ⟨_,k,e,hb⟩
  keep:=fun j k e=>by
   cases hk:kapM κ m j with
   | none=>exact .inl rfl
   | some k'=>
    right
    obtain⟨p,hp,rfl,e2,_⟩:=kapM_some hk
    obtain⟨o,ho⟩:=C.hk0 _ k e
    have h1:=List.all_eq_true.1 hnm p hp
    simp only [ho,beq_iff_eq] at h1
    rcases hg.keep _ k e with e3 | e3
    ·rw [h1] at e3; rw [e3] at e2; cases e2
    ·rw [h1] at e3; rw [e3] at e2; exact e2.symm },hR⟩
end
section tri
variable {P:Program} {n:Nat} {ob0:List (Nat × Option AO)}
def Tri (P:Program) (n:Nat) (ob0:List (Nat × Option AO)) (c:Code) (s:AS) (Q:Exit→AS→Prop):Prop:=
 ∀ C:Ctx,C.n=n→C.ob0=ob0→∀ a w,γ C s a w→c.wp P (fun e a' w'=>∃ s',Q e s'∧γ C s' a' w') a w
variable {s:AS} {Q:Exit→AS→Prop}
theorem Tri.mono {c:Code} {Q':Exit→AS→Prop} (h:Tri P n ob0 c s Q) (hq:∀ e x,Q e x→Q' e x):Tri P n ob0 c s Q':=
 fun C hn h0 a w hg=>wp_mono (h C hn h0 a w hg) fun _ _ _ ⟨s',q,g⟩=>⟨s',hq _ _ q,g⟩
def Ent (n:Nat) (ob0:List (Nat × Option AO)) (s s':AS):Prop:=∀ C:Ctx,C.n=n→C.ob0=ob0→∀ a w,γ C s a w→γ C s' a w
theorem Ent.refl (s:AS):Ent n ob0 s s:=fun _ _ _ _ _ h=>h
theorem Tri.ent {c:Code} {s':AS} (he:Ent n ob0 s s') (h:Tri P n ob0 c s' Q):Tri P n ob0 c s Q:=fun C hn h0 a w hg=>h C hn h0 a w (he C hn h0 a w hg)
theorem Tri.post {c:Code} {Q':Exit→AS→Prop} (h:Tri P n ob0 c s Q') (hq:∀ e x,Q' e x→∃ s'',Ent n ob0 x s''∧Q e s''):Tri P n ob0 c s Q:=
 fun C hn h0 a w hg=>wp_mono (h C hn h0 a w hg) fun _ _ _ ⟨s',q,g⟩=>let ⟨s'',he,hq'⟩:=hq _ _ q; ⟨s'',hq',he C hn h0 _ _ g⟩
def NzT (σ:Nat→Option AO) (ks:List Nat) (js:List (Nat × Nat)) (tm:List (Nat × AV)):List (Nat × AV)→Prop
 | []=>True
 | p::r=>Nz σ ks js (lk tm p.1) p.2∧NzT σ ks js tm r
theorem NzT_lk {σ:Nat→Option AO} {ks:List Nat} {js:List (Nat × Nat)} {tm:List (Nat × AV)}:∀ {l:List (Nat × AV)},NzT σ ks js tm l→∀ t,Nz σ ks js (lk tm t) (lk l t)
 | [],_,t=>.imm (Sub.undef _) rfl
 | p::r,h,t=>by
  obtain⟨i,v⟩:=p
  obtain⟨h1,h2⟩:=h
  rw [lk_cons]
  split
  ·rename_i e; subst e; exact h1
  ·exact NzT_lk h2 t
def NzM (σ:Nat→Option AO) (ks:List Nat) (js:List (Nat × Nat)):Mv→Prop
 | []=>True
 | p::r=>(∃ o0,σ p.2.1=some o0∧NzO σ ks js o0 p.2.2)∧NzM σ ks js r
theorem NzM_mem {σ:Nat→Option AO} {ks:List Nat} {js:List (Nat × Nat)}:∀ {m:Mv},NzM σ ks js m→∀ p∈m,∃ o0,σ p.2.1=some o0∧NzO σ ks js o0 p.2.2
 | [],_,p,hp=>by simp at hp
 | q::r,h,p,hp=>by
  rcases List.mem_cons.1 hp with rfl | hp
  ·exact h.1
  ·exact NzM_mem h.2 p hp
theorem Ent.norm (ks:List Nat) (m:Mv) (l:List (Nat × AV)) (hok:m.ok ob0 ks=true) (hm:NzM (lo s.ob) ks m.js m) (hl:NzT (lo s.ob) ks m.js s.tm l):Ent n ob0 s ⟨l,sm m.ob⟩:=by
 rintro C rfl rfl a w ⟨κ,hg⟩
 exact⟨_,(hg.norm hok (NzM_mem hm) (NzT_lk hl)).1⟩
theorem RunD_chain {ops:Array Oper} {K:List It→AS→Prop}:∀ {os:List Oper} {d:List It} {s:AS},RunD P n ob0 ops os d s K→∃ l:List It,l.map (·.o)=os∧chain P n ops l s∧K (l.reverse++d) (fin s l)
 | [],d,s,h=>⟨[],rfl,trivial,h⟩
 | o::os,d,s,h=>by
  obtain⟨it,rfl,hst,_,hr⟩:=h
  obtain⟨l,h1,h2,h3⟩:=RunD_chain hr
  exact⟨it::l,by simp [h1],⟨hst,h2⟩,by simpa [fin] using h3⟩
theorem Tri.region {id:Nat} {ops:Array Oper} (h:RunD P n ob0 ops ops.toList [] s fun _ s'=>Q .normal s'):Tri P n ob0 (.region id ops false) s Q:=by
 rintro C rfl rfl a w hg
 refine wp_region (RunD.text (Nat.le_refl _) _ _ [] s a w range_ops h hg fun d s' a' w' hk hg'=>⟨s',hk,hg'⟩)
def freshL (ob0:List (Nat × Option AO)) (s:AS) (l:List It):Prop:=∀ it∈l,∀ k∈newK it,s.fresh ob0 k
theorem Tri.drawn {id:Nat} {ops:Array Oper} (A:List (List Nat)) (hm:P.follows .mixedOrders=true) (hA:ancOK ops A=true) (h:RunD P n ob0 ops ops.toList [] s fun d s'=>okD A ops 0 d.reverse=true∧freshL ob0 s d∧Q .normal s'):Tri P n ob0 (.region id ops true) s Q:=by
 rintro C rfl rfl a w hg
 obtain⟨l,hlo,hch,hok,hfr,hq⟩:=RunD_chain h
 simp only [List.append_nil,List.reverse_reverse] at hok hfr
 obtain⟨hpw,hhd⟩:=okD_pw hok
 have hlen:l.length=ops.size:=by
  have:=congrArg List.length hlo
  simpa using this
 refine wp_region_any hm ?_
 obtain⟨κ,hg⟩:=hg
 have hsnd:=idx_snd (l:=l) (i:=0)
 refine Ql.drawn (Nat.le_refl _) hA ops.size (idx 0 l) s a _ _ (by rw [← hlen,← List.length_map (f:=(·.2)),hsnd]) (by simp) (fun j o _ hl=>by simp [Array.getD_eq_getD_getElem?,Array.getElem?_replicate] at hl; split at hl <;> simp at hl) ?_ ?_ hpw hhd (by rw [hsnd]; exact hch) ?_ ⟨κ,hg.drew⟩ (fun a' w' hg'=>⟨_,hq,by rw [hsnd] at hg'; exact hg'⟩)
 ·intro i hi
  rw [idx_fst]
  simp [Array.getD_eq_getD_getElem?,hi,hlen]
 ·intro p hp
  have:=(idx_ops hlo p hp).1
  simpa using this
 ·intro p hp k hk
  have:p.2∈l:=by rw [← hsnd]; exact List.mem_map.2 ⟨p,hp,rfl⟩
  exact hfr p.2 (by simpa using this) k hk
theorem Tri.seq {c d:Code} (h:Tri P n ob0 c s fun e s'=>match e with | .normal=>Tri P n ob0 d s' Q | e=>Q e s'):Tri P n ob0 (.seq c d) s Q:=by
 intro C hn h0 a w hg
 refine wp_seq (wp_mono (h C hn h0 a w hg) ?_)
 rintro e a' w' ⟨s',hq,hg'⟩
 cases e <;> first | exact hq C hn h0 a' w' hg' | exact⟨s',hq,hg'⟩
theorem Tri.skip (h:Q .normal s):Tri P n ob0 .skip s Q:=fun _ _ _ _ _ hg=>wp_skip ⟨s,h,hg⟩
theorem Tri.ret (h:Q .ret s):Tri P n ob0 .ret s Q:=fun _ _ _ _ _ hg=>wp_ret ⟨s,h,hg⟩
theorem Tri.exit {id:Nat} (h:Q (.exit id) s):Tri P n ob0 (.exit id) s Q:=fun _ _ _ _ _ hg=>wp_exit ⟨s,h,hg⟩
theorem Tri.goto {l:Nat} (h:Q (.goto l) s):Tri P n ob0 (.goto l) s Q:=fun _ _ _ _ _ hg=>wp_goto ⟨s,h,hg⟩
theorem Tri.label {l:Nat} (h:Q .normal s):Tri P n ob0 (.label l) s Q:=fun _ _ _ _ _ hg=>wp_label ⟨s,h,hg⟩
theorem γ_bool {C:Ctx} {a:Act} {w:World} {c:Operand} {b:Bool} (hg:γ C s a w) (hc:ev s.tm c=.sc (.bool b)):a.eval c=.bool b:=by
 obtain⟨κ,hg⟩:=hg
 have:=hg.ev c; rw [hc] at this; simpa [R] using this
theorem Tri.cond_t {c:Operand} {x y:Code} (hc:ev s.tm c=.sc (.bool true)) (h:Tri P n ob0 x s Q):Tri P n ob0 (.cond c x y) s Q:=
 fun C hn h0 a w hg=>wp_cond_true (γ_bool hg hc) (h C hn h0 a w hg)
theorem Tri.cond_f {c:Operand} {x y:Code} (hc:ev s.tm c=.sc (.bool false)) (h:Tri P n ob0 y s Q):Tri P n ob0 (.cond c x y) s Q:=
 fun C hn h0 a w hg=>wp_cond_false (γ_bool hg hc) (h C hn h0 a w hg)
theorem Tri.cond {c:Operand} {x y:Code} {b:Bool} (hc:ev s.tm c=.sc (.bool b)) (h1:b=true→Tri P n ob0 x s Q) (h2:b=false→Tri P n ob0 y s Q):Tri P n ob0 (.cond c x y) s Q:=by
 cases b
 ·exact .cond_f hc (h2 rfl)
 ·exact .cond_t hc (h1 rfl)
theorem Tri.block {id:Nat} {c:Code} (h:Tri P n ob0 c s fun e s'=>match e with | .exit id'=>(if id'=id then Q .normal s' else Q (.exit id') s') | e=>Q e s'):Tri P n ob0 (.block id c) s Q:=by
 intro C hn h0 a w hg
 refine wp_block (wp_mono (h C hn h0 a w hg) ?_)
 rintro e a' w' ⟨s',hq,hg'⟩
 cases e with
 | exit id'=>
  simp only [Exit.inBlock] at hq ⊢
  split <;> rename_i hid
  ·rw [if_pos hid] at hq; exact⟨s',hq,hg'⟩
  ·rw [if_neg hid] at hq; exact⟨s',hq,hg'⟩
 | _=>exact⟨s',hq,hg'⟩
open Classical in
theorem Tri.loop {c:Code} (J:Nat→AS→Prop) (k0:Nat) (h0:J k0 s) (round:∀ k s,J k s→Tri P n ob0 c s fun e s'=>match e with | .normal=>∃ k' < k,∃ s'',Ent n ob0 s' s''∧J k' s'' | e=>Q e s'):Tri P n ob0 (.loop c) s Q:=by
 intro C hn hob a w hg
 have ex:∀ a w,(∃ k s,J k s∧γ C s a w)→∃ k,(∃ s,J k s∧γ C s a w)∧∀ k',(∃ s,J k' s∧γ C s a w)→k≤k':=by
  intro a w h
  obtain⟨k,hk⟩:=h
  induction k using Nat.strongRecOn with
  | _ k ih=>
   by_cases hm:∃ k' < k,∃ s,J k' s∧γ C s a w
   ·obtain⟨k',hlt,hk'⟩:=hm; exact ih k' hlt hk'
   ·exact⟨k,hk,fun k' hk'=>Nat.le_of_not_lt fun hlt=>hm ⟨k',hlt,hk'⟩⟩
 let μ:Act→World→Nat:=fun a w=>if h:∃ k s,J k s∧γ C s a w then Classical.choose (ex a w h) else 0
 have hμ:∀ a w (h:∃ k s,J k s∧γ C s a w),(∃ s,J (μ a w) s∧γ C s a w)∧∀ k',(∃ s,J k' s∧γ C s a w)→μ a w≤k':=by
  intro a w h
  have:=Classical.choose_spec (ex a w h)
  simpa [μ,h] using this
 refine wp_loop (fun a w=>∃ k s,J k s∧γ C s a w) μ ⟨k0,s,h0,hg⟩ fun a w hI=>?_
 obtain⟨⟨s1,hJ,hg1⟩,_⟩:=hμ a w hI
 refine wp_mono (round _ s1 hJ C hn hob a w hg1) ?_
 rintro e a' w' ⟨s',hq,hg'⟩
 cases e with
 | normal=>
  obtain⟨k',hlt,s'',he,hJ'⟩:=hq
  have hI':∃ k s,J k s∧γ C s a' w':=⟨k',s'',hJ',he C hn hob a' w' hg'⟩
  exact⟨hI',Nat.lt_of_le_of_lt ((hμ a' w' hI').2 k' ⟨s'',hJ',he C hn hob a' w' hg'⟩) hlt⟩
 | _=>exact⟨s',hq,hg'⟩
open Classical in
theorem Tri.scope {c rest:Code} (l:Nat) (J:Nat→AS→Prop) (hf:findLabel c l=some rest)
  (first:Tri P n ob0 c s fun e s'=>match e with | .goto l'=>l'=l∧∃ k s'',Ent n ob0 s' s''∧J k s'' | e=>Q e s')
  (pass:∀ k s,J k s→Tri P n ob0 rest s fun e s'=>match e with | .goto l'=>l'=l∧∃ k' < k,∃ s'',Ent n ob0 s' s''∧J k' s'' | e=>Q e s'):Tri P n ob0 (.scope c) s Q:=by
 intro C hn hob a w hg
 have ex:∀ a w,(∃ k s,J k s∧γ C s a w)→∃ k,(∃ s,J k s∧γ C s a w)∧∀ k',(∃ s,J k' s∧γ C s a w)→k≤k':=by
  intro a w h
  obtain⟨k,hk⟩:=h
  induction k using Nat.strongRecOn with
  | _ k ih=>
   by_cases hm:∃ k' < k,∃ s,J k' s∧γ C s a w
   ·obtain⟨k',hlt,hk'⟩:=hm; exact ih k' hlt hk'
   ·exact⟨k,hk,fun k' hk'=>Nat.le_of_not_lt fun hlt=>hm ⟨k',hlt,hk'⟩⟩
 let μ:Act→World→Nat:=fun a w=>if h:∃ k s,J k s∧γ C s a w then Classical.choose (ex a w h) else 0
 have hμ:∀ a w (h:∃ k s,J k s∧γ C s a w),(∃ s,J (μ a w) s∧γ C s a w)∧∀ k',(∃ s,J k' s∧γ C s a w)→μ a w≤k':=by
  intro a w h
  have:=Classical.choose_spec (ex a w h)
  simpa [μ,h] using this
 refine wp_scope_jumps l (fun a w=>∃ k s,J k s∧γ C s a w) μ hf (wp_mono (first C hn hob a w hg) ?_) fun a w hI=>?_
 ·rintro e a' w' ⟨s',hq,hg'⟩
  cases e with
  | goto l'=>
   obtain⟨hl,k,s'',he,hJ⟩:=hq
   exact⟨hl,k,s'',hJ,he C hn hob a' w' hg'⟩
  | _=>exact⟨s',hq,hg'⟩
 ·obtain⟨⟨s1,hJ,hg1⟩,_⟩:=hμ a w hI
  refine wp_mono (pass _ s1 hJ C hn hob a w hg1) ?_
  rintro e a' w' ⟨s',hq,hg'⟩
  cases e with
  | goto l'=>
   obtain⟨hl,k',hlt,s'',he,hJ'⟩:=hq
   have hI':∃ k s,J k s∧γ C s a' w':=⟨k',s'',hJ',he C hn hob a' w' hg'⟩
   exact⟨hl,hI',Nat.lt_of_le_of_lt ((hμ a' w' hI').2 k' ⟨s'',hJ',he C hn hob a' w' hg'⟩) hlt⟩
  | _=>exact⟨s',hq,hg'⟩
def enumA:Nat→List AV→List (Nat × AV)
 | _,[]=>[]
 | i,x::r=>(i,x)::enumA (i+1) r
inductive RV (P:Program) (s:AS):ResultVar→AV→Prop
 | tmp {t v} (h:lk s.tm t=v):RV P s (.tmp t) v
 | cell_ipt {t T n ag cells off cs} (h:lk s.tm t=.ipt cells off) (hz:Siz P T n ag) (hs:(cells.drop off).take n=cs) (hl:cs.length=n):RV P s (.cell t T) (AV.pack ag cs)
 | cell_box {t T n ag id off cells cs} (h:lk s.tm t=.ptr id off) (hz:Siz P T n ag) (hb:lo s.ob id=some (.box cells)) (hs:(cells.drop off).take n=cs) (hl:cs.length=n):RV P s (.cell t T) (AV.pack ag cs)
def RVs (P:Program) (s:AS):List ResultVar→List AV→Prop
 | [],vs=>vs=[]
 | r::rs,vs=>∃ v us,vs=v::us∧RV P s r v∧RVs P s rs us
def resOf:List AV→AV
 | [v]=>v
 | vs=>.tup vs
theorem RV.sound {C:Ctx} {κ:Kap} {a:Act} {w:World} (hg:G C κ s a w) {r:ResultVar} {v:AV} (h:RV P s r v) :
  ∃ u,(match r with | .tmp t=>pure (a.tmps.getD t undef) | .cell x T=>do loadVar T (← asAddr (a.tmps.getD x undef)):Sem Value).run P w=.ok u w∧R w (OW C κ) κ v u:=by
 cases h with
 | tmp h=>subst h; exact⟨_,rfl,hg.tm _⟩
 | cell_ipt h hz hs hl=>
  rename_i t T n ag cells off cs
  have hR:=hg.tm t; rw [h] at hR
  obtain⟨b,p,hu,hb,ho',hc⟩:=R_ipt hR
  obtain⟨vs,hvl,hvc,hvR,hv1⟩:=RIc_vals (RIc_seg hc hs)
  refine⟨_,?_,R_pack (Rv_of_RIv _ _ hvR)⟩
  simp [hu,asAddr,run_loadVar hz (hvl.trans hl) hvc]
 | cell_box h hz hb hs hl=>
  rename_i t T n ag id off cells cs
  have hR:=hg.tm t; rw [h] at hR
  obtain⟨k,hk,b,cur,e,rfl,hh,hv,h1⟩:=hg.obj hb
  simp only [R] at hR
  obtain⟨b',hb',hu⟩:=hR.2 _ hk
  cases hb'
  have hseg:=Rv_seg off n hv
  rw [hs] at hseg
  refine⟨_,?_,R_pack hseg⟩
  simp [hu,asAddr]
  refine run_loadVar hz ((Rv_length hseg).trans hl) (fun j v hj=>?_)
  rw [List.getElem?_take] at hj
  split at hj
  ·rw [List.getElem?_drop] at hj
   rw [cell_of_row w b (off+j) cur e (0,0) hh]
   simpa using hj
  ·cases hj
theorem RVs.sound {C:Ctx} {κ:Kap} {a:Act} {w:World} (hg:G C κ s a w):∀ {rs:List ResultVar} {vs:List AV},RVs P s rs vs →
  ∃ us:List Value,(rs.mapM fun r=>(match r with | .tmp t=>pure (a.tmps.getD t undef) | .cell x T=>do loadVar T (← asAddr (a.tmps.getD x undef)):Sem Value)).run P w=.ok us w∧Rv w (OW C κ) κ vs us
 | [],vs,h=>by simp only [RVs] at h; subst h; exact⟨[],by simp,by simp [Rv]⟩
 | r::rs,vs,h=>by
  simp only [RVs] at h
  obtain⟨v,us,rfl,h1,h2⟩:=h
  obtain⟨u,e1,r1⟩:=h1.sound hg
  obtain⟨us',e2,r2⟩:=RVs.sound hg h2
  refine⟨u::us',?_,by simp only [Rv]; exact⟨u,us',rfl,r1,r2⟩⟩
  simp only [List.mapM_cons,Sem.run_bind,e1,Result.andThen_ok,e2,Sem.run_pure]
def RetQ (P:Program) (ob0:List (Nat × Option AO)) (rs:Array ResultVar) (r:AV) (obs':List (Nat × AO)) (e:Exit) (s:AS):Prop:=
 (e=.normal∨e=.ret)∧∃ vs,RVs P s rs.toList vs∧∃ (ks:List Nat) (m:Mv),m.ok ob0 ks=true∧m.ob=obs'∧NzM (lo s.ob) ks m.js m∧Nz (lo s.ob) ks m.js (resOf vs) r
theorem lk_enum:∀ {args:List AV} {i t:Nat},i≤t→lk (enumA i args) t=(args[t - i]?).getD .undef
 | [],i,t,_=>by simp [enumA,lk]
 | x::r,i,t,h=>by
  rw [enumA,lk_cons]
  by_cases e:i=t
  ·subst e; simp
  ·rw [if_neg e,lk_enum (by omega),show t - i=(t - (i+1))+1 by omega]; simp
theorem CallOK.of_tri {f:FuncId} {fn:Func} {c:Code} {args:List AV} {obs obs':List (Nat × AO)} {r:AV} (hf:P.funcs[f]?=some fn) (hb:fn.body=some c) (hn:fn.ntmps=n) (ha:args.length≤n)
  (h:Tri P n (sm obs) c ⟨enumA 0 args,sm obs⟩ (RetQ P (sm obs) fn.results r obs')):CallOK P f args obs r obs':=by
 intro ox w κ cargs hox hO hA
 refine calls_of_wp hf hb ?_
 let C:Ctx:=⟨w,owned κ,ox,hox,n,sm obs,κ,hO.live⟩
 have hcl:cargs.size=args.length:=by have:=Rv_length hA; simpa using this
 have hg:G C κ ⟨enumA 0 args,sm obs⟩ { tmps:=cargs++Array.replicate (fn.ntmps - cargs.size) undef,defers:=[] } w:={
  tm:=fun t=>by
   rw [lk_enum (Nat.zero_le _),Nat.sub_zero]
   cases hx:args[t]? with
   | none=>simp [R]
   | some x=>
    obtain⟨v,hv,hr⟩:=Rv_get hA hx
    have hlt:t < cargs.size:=by have:=(List.getElem?_eq_some_iff.1 hx).1; omega
    have hv':cargs[t]?=some v:=by simpa using hv
    simp only [Option.getD_some,Array.getD_eq_getD_getElem?]
    rw [Array.getElem?_append_left hlt,hv']
    exact hr
  ob:=hO.ob
  live:=hO.live
  inj:=hO.inj
  size:=by simp [hn,hcl,C]; omega
  dfs:=rfl
  fr:=Fr.refl _ _
  old:=fun b hb=>⟨fun _=>hb,hO.dis b hb⟩
  keep:=fun id k e=>.inr e }
 refine wp_mono (h C rfl rfl _ _ ⟨κ,hg⟩) ?_
 rintro e a' w' ⟨s',⟨he,vs,hvs,ks,m,hok,hmo,hnm,hnz⟩,κ1,hg'⟩
 obtain⟨us,hus,hR⟩:=hvs.sound hg'
 have hres:(results fn a'.tmps).run P w'=.ok (if h:us.length=1 then us[0] else .tuple us.toArray) w':=by
  have hq:(fn.results.mapM fun r=>(match r with | .tmp t=>pure (a'.tmps.getD t undef) | .cell x T=>do loadVar T (← asAddr (a'.tmps.getD x undef)):Sem Value)).run P w'=.ok us.toArray w':=by
   rw [Array.mapM_eq_mapM_toList,Sem.run_map,hus]
   rfl
  unfold results
  simp only [Sem.run_bind,Sem.run_pure]
  refine(congrArg (fun r:Result (Array Value)=>r.andThen fun a w'=>Result.ok (if h:a.size=1 then a[0] else Value.tuple a) w') hq).trans ?_
  simp only [Result.andThen_ok,List.size_toArray,List.getElem_toArray]
 have hRr:R w' (OW C κ1) κ1 (resOf vs) (if h:us.length=1 then us[0] else .tuple us.toArray):=by
  have hl:=Rv_length hR
  match vs,hR,hl with
  | [v],hR,hl=>
   simp only [Rv] at hR
   obtain⟨u,r',rfl,h1,rfl⟩:=hR
   simpa [resOf] using h1
  | [],hR,hl=>
   simp only [Rv] at hR; subst hR
   simp [resOf,R,Rv]
  | v1::v2::vs,hR,hl=>
   have:¬ us.length=1:=by simp at hl; omega
   rw [dif_neg this]
   simp only [resOf,R]
   exact⟨_,rfl,by simpa using hR⟩
 obtain⟨hg2,hconv⟩:=hg'.norm hok (NzM_mem hnm) (l:=[]) (fun t=>.imm (Sub.undef _) rfl)
 have hR2:=hconv _ _ _ hnz hRr
 rw [hmo] at hg2
 have post:∃ v,(results fn a'.tmps).run P w'=.ok v w'∧∃ v' κ',Ending.returned v=.returned v'∧Fr (owned κ) w w'∧Objs w' ox κ' obs'∧R w' (fun b=>ox b∨owned κ' b) κ' r v' ∧
   (∀ b,owned κ' b→b < w.heap.size→owned κ b)∧∀ id k,κ id=some k→id∈keys obs'→κ' id=some k:=
  ⟨_,hres,_,kapM κ1 m,rfl,hg2.fr,⟨fun id o ho=>hg2.ob id o ho,hg2.live,hg2.inj,fun b hb=>(hg2.old b hb).2⟩,hR2,fun b hb hlt=>(hg2.old b hb).1 hlt,fun id k e hid=>by
   rcases hg2.keep id k e with e' | e'
   ·obtain⟨o,ho⟩:=lo_sm_keys hid
    obtain⟨k',hk',_⟩:=hg2.ob id o ho
    rw [e'] at hk'; cases hk'
   ·exact e'⟩
 rcases he with rfl | rfl
 ·exact⟨hg'.dfs,post⟩
 ·exact⟨hg'.dfs,post⟩
end tri
end Go.Proofs.YthlchdnbokhclaaGreat.Ql
namespace Go.Proofs.YthlchdnbokhclaaGreat.Ql
open Go
abbrev Ai (n:Int):AV:=.sc (.int .i64 n)
abbrev Au (n:Int):AV:=.sc (.int .u64 n)
abbrev Ab (b:Bool):AV:=.sc (.bool b)
abbrev icl (n:Int):List AV:=[Ai n]
abbrev bcl (b:Bool):List AV:=[Ab b]
abbrev W (n:Int):Int:=IntKind.i64.wrap n
def ix {α:Type} (xs:List α) (i:Int):Option α:=if 0≤i then xs[i.toNat]? else none
theorem ix_spec {α:Type} {xs:List α} {i:Int} {x:α} (h:ix xs i=some x):0≤i∧xs[i.toNat]?=some x:=by
 unfold ix at h
 split at h
 ·exact⟨‹_›,h⟩
 ·cases h
def upd {α:Type} (xs:List α) (i:Int) (v:α):Option (List α):=if 0≤i∧i.toNat < xs.length then some (xs.set i.toNat v) else none
def app {α:Type} (xs ys:List α):Option (List α):=if xs.length+ys.length≤1073741824 then some (xs++ys) else none
theorem app_spec {α:Type} {xs ys zs:List α} (h:app xs ys=some zs):xs.length+ys.length≤1073741824∧zs=xs++ys:=by
 unfold app at h
 split at h
 ·cases h; exact⟨‹_›,rfl⟩
 ·cases h
def sub {α:Type} (xs:List α) (l h:Int):Option (List α):=if 0≤l∧l≤h∧h.toNat≤xs.length then some ((xs.drop l.toNat).take (h.toNat - l.toNat)) else none
theorem sub_spec {α:Type} {xs zs:List α} {l h:Int} (hh:sub xs l h=some zs):0≤l∧l≤h∧h.toNat≤xs.length∧zs=(xs.drop l.toNat).take (h.toNat - l.toNat):=by
 unfold sub at hh
 split at hh
 ·cases hh; rename_i h; exact⟨h.1,h.2.1,h.2.2,rfl⟩
 ·cases hh
def mk {α:Type} (n:Int) (v:α):Option (List α):=if 0≤n∧n≤1073741824 then some (List.replicate n.toNat v) else none
theorem mk_spec {α:Type} {n:Int} {v:α} {zs:List α} (h:mk n v=some zs):0≤n∧n≤1073741824∧zs=List.replicate n.toNat v:=by
 unfold mk at h
 split at h
 ·cases h; rename_i h; exact⟨h.1,h.2,rfl⟩
 ·cases h
theorem bind_some {α β:Type} {o:Option α} {f:α→Option β} {r:β} (h:o.bind f=some r):∃ x,o=some x∧f x=some r:=Option.bind_eq_some_iff.1 h
theorem cond_t {α:Type} {b:Bool} {x y:α} {r:α} (hb:b=true) (h:(bif b then x else y)=r):x=r:=by subst hb; exact h
theorem cond_f {α:Type} {b:Bool} {x y:α} {r:α} (hb:b=false) (h:(bif b then x else y)=r):y=r:=by subst hb; exact h
def Jn {α ρ:Type} (rest:α→ρ) (body:(α→ρ)→ρ):ρ:=body rest
section run
variable {P:Program} {n:Nat} {ob0:List (Nat × Option AO)} {ops:Array Oper} {o:Oper} {rest:List Oper} {d:List It} {s:AS} {K:List It→AS→Prop} {t:Nat} {rd:List Nat} {v:AV} {wr:List (Nat × Option AO)}
theorem RunD.ax (hw:want ops s.tm o=some true) (hd:o.dst=some t) (hn:Nat.blt t n=true) (hax:Ax P o (ev s.tm) (lo s.ob) rd v wr)
  (hf:∀ k∈(wr.map (·.1)).filter (fun k=>!rd.contains k),s.fresh ob0 k) (h:RunD P n ob0 ops rest (⟨o,true,v,rd,wr⟩::d) ⟨(t,v)::s.tm,wr++s.ob⟩ K):RunD P n ob0 ops (o::rest) d s K:=by
 refine⟨⟨o,true,v,rd,wr⟩,rfl,⟨hw,fun t' e=>?_,fun _=>.inl hax,fun e=>by cases e⟩,hf,?_⟩
 ·rw [hd] at e; cases e; exact Nat.le_of_ble_eq_true hn
 ·unfold ap apply; simp only [hd]; exact h
theorem RunD.st (hw:want ops s.tm o=some true) (hd:o.dst=none) (hax:Ax P o (ev s.tm) (lo s.ob) rd v wr)
  (hf:∀ k∈(wr.map (·.1)).filter (fun k=>!rd.contains k),s.fresh ob0 k) (h:RunD P n ob0 ops rest (⟨o,true,v,rd,wr⟩::d) ⟨s.tm,wr++s.ob⟩ K):RunD P n ob0 ops (o::rest) d s K:=by
 refine⟨⟨o,true,v,rd,wr⟩,rfl,⟨hw,fun t' e=>?_,fun _=>.inl hax,fun e=>by cases e⟩,hf,?_⟩
 ·rw [hd] at e; cases e
 ·unfold ap apply; simp only [hd]; exact h
theorem RunD.cl (hw:want ops s.tm o=some true) (hd:o.dst=some t) (hn:Nat.blt t n=true) (hax:Cl P o (ev s.tm) (lo s.ob) rd v wr)
  (hf:∀ k∈(wr.map (·.1)).filter (fun k=>!rd.contains k),s.fresh ob0 k) (h:RunD P n ob0 ops rest (⟨o,true,v,rd,wr⟩::d) ⟨(t,v)::s.tm,wr++s.ob⟩ K):RunD P n ob0 ops (o::rest) d s K:=by
 refine⟨⟨o,true,v,rd,wr⟩,rfl,⟨hw,fun t' e=>?_,fun _=>.inr hax,fun e=>by cases e⟩,hf,?_⟩
 ·rw [hd] at e; cases e; exact Nat.le_of_ble_eq_true hn
 ·unfold ap apply; simp only [hd]; exact h
theorem RunD.no (hw:want ops s.tm o=some false) (hd:o.dst=some t) (hn:Nat.blt t n=true) (h:RunD P n ob0 ops rest (⟨o,false,.tup [],[],[]⟩::d) ⟨(t,.tup [])::s.tm,s.ob⟩ K):RunD P n ob0 ops (o::rest) d s K:=by
 refine⟨⟨o,false,.tup [],[],[]⟩,rfl,⟨hw,fun t' e=>?_,fun e=>(by cases e),fun _=>⟨rfl,rfl⟩⟩,fun k hk=>by simp [newK,keysW] at hk,?_⟩
 ·rw [hd] at e; cases e; exact Nat.le_of_ble_eq_true hn
 ·unfold ap apply; simp only [hd]; exact h
theorem RunD.done (h:K d s):RunD P n ob0 ops [] d s K:=h
theorem fresh1 {l:List Nat} {i:Nat} (h:l=[i]) (h1:menT i s.tm=false) (h2:lo s.ob i=none) (h3:menO i s.ob=false) (h4:lo ob0 i=none):∀ k∈l,s.fresh ob0 k:=by
 subst h
 intro k hk
 simp at hk; subst hk
 exact AS.fresh_of h1 h2 h3 h4
theorem lst_get {α:Type} {cl:α→List AV} {xs:List α} {i:Int} {x:α} (h:ix xs i=some x):0≤i∧(xs.map cl)[i.toNat]?=some (cl x):=by
 obtain⟨h0,h1⟩:=ix_spec h
 exact⟨h0,by simp [h1]⟩
theorem RunD.q (hw:want ops s.tm o=some true) (hd:o.dst=some t) (hn:Nat.blt t n=true) (hax:Ax P o (ev s.tm) (lo s.ob) rd v [])
  (h:RunD P n ob0 ops rest (⟨o,true,v,rd,[]⟩::d) ⟨(t,v)::s.tm,s.ob⟩ K):RunD P n ob0 ops (o::rest) d s K:=
 RunD.ax hw hd hn hax (by simp) h
theorem RunD.c (hw:want ops s.tm o=some true) (hd:o.dst=some t) (hn:Nat.blt t n=true) {g:FuncId} {args:List AV} {r:AV} (hc:Cal P o (ev s.tm) g args) (hok:CallOK P g args [] r []) (hr:r.only []=true)
  (h:RunD P n ob0 ops rest (⟨o,true,r,[],[]⟩::d) ⟨(t,r)::s.tm,s.ob⟩ K):RunD P n ob0 ops (o::rest) d s K:=
 RunD.cl hw hd hn (.call (obs:=[]) (obs':=[]) hc hok (fun id o h=>by simp [sm,lo] at h) hr rfl) (by simp [sm,rmv]) h
theorem calv {ρ:Operand→AV} {f:Operand} {xs:Array Operand} {ts:Array TypeId} {g:FuncId} {caps args:List AV} (ho:o.op=.call { callee:=.value f,args:=xs,argTypes:=ts }) (hf:ρ f=.fn g caps) (hg:FnOK P g) (ha:xs.toList.map ρ++caps=args):Cal P o ρ g args:=
 .value ho hf hg (ha ▸ SubV.refl _)
theorem calw {ρ:Operand→AV} {f:Operand} {xs:Array Operand} {ts:Array TypeId} {g:FuncId} {caps args:List AV} (ho:o.op=.call { callee:=.value f,args:=xs,argTypes:=ts }) (hf:ρ f=.fn g caps) (hg:FnOK P g) (ha:SubV (xs.toList.map ρ++caps) args):Cal P o ρ g args:=
 .value ho hf hg ha
end run
theorem RetQ.mk {P:Program} {ob0:List (Nat × Option AO)} {rs:Array ResultVar} {r:AV} {obs':List (Nat × AO)} {e:Exit} {s:AS} {vs:List AV} (he:e=.normal∨e=.ret) (hv:RVs P s rs.toList vs) (ks:List Nat) (m:Mv) (hok:m.ok ob0 ks=true) (hm:m.ob=obs')
  (hn:NzM (lo s.ob) ks m.js m) (hz:Nz (lo s.ob) ks m.js (resOf vs) r):RetQ P ob0 rs r obs' e s:=⟨he,vs,hv,ks,m,hok,hm,hn,hz⟩
end Go.Proofs.YthlchdnbokhclaaGreat.Ql
namespace Go.Proofs.YthlchdnbokhclaaGreat.Ql
open Go
theorem one_flat {α:Type} {cl:α→List AV} (h:∀ x,(cl x).all AV.one=true):∀ xs:List α,(xs.map cl).flatten.all AV.one=true
 | []=>rfl
 | x::xs=>by simp only [List.map_cons,List.flatten_cons,List.all_append,h x,one_flat h xs,Bool.and_self]
theorem im_flat {α:Type} {cl:α→List AV} (h:∀ x,(cl x).all AV.im=true):∀ xs:List α,(xs.map cl).flatten.all AV.im=true
 | []=>rfl
 | x::xs=>by simp only [List.map_cons,List.flatten_cons,List.all_append,h x,im_flat h xs,Bool.and_self]
section
variable {P:Program} {o:Oper} {ρ:Operand→AV} {σ:Nat→Option AO}
theorem Ax.mv {x:Operand} {v:AV} (ho:o.op=.move x) (hx:ρ x=v):Ax P o ρ σ [] v []:=.move (.inl ho) (hx ▸ Sub.refl _)
theorem Ax.as {x:Operand} {v:AV} (ho:o.op=.assign x) (hx:ρ x=v):Ax P o ρ σ [] v []:=.move (.inr ho) (hx ▸ Sub.refl _)
theorem Ax.nl {x:Operand} (sz:Nat) (ho:o.op=.assign x) (hx:ρ x=.sc (.slice none 0 0)):Ax P o ρ σ [] (.lst sz []) []:=.move (.inr ho) (hx ▸ Sub.nil sz)
theorem Ax.l1_arr {α:Type} {T id e sz off:Nat} {i:Int} {x:Operand} {cl:α→List AV} {xs:List α} {y:α} {v:AV} (ho:o.op=.load T x) (hz:Siz P T 1 false) (hx:ρ x=.eptr id sz i.toNat off) (hb:σ id=some (.arr e sz (xs.map cl))) (hi:ix xs i=some y) (hc:(cl y)[off]?=some v):Ax P o ρ σ [id] v []:=by
 have h1:((cl y).drop off).take 1=[v]:=by
  apply List.ext_getElem?
  intro i
  cases i with
  | zero=>simp [hc]
  | succ i=>simp [List.getElem?_take]
 exact Ax.load_arr ho hz hx hb (lst_get hi).2 h1 rfl
theorem Ax.la_arr {α:Type} {T n id e sz off:Nat} {i:Int} {x:Operand} {cl:α→List AV} {xs:List α} {y:α} {cs:List AV} (ho:o.op=.load T x) (hz:Siz P T n true) (hx:ρ x=.eptr id sz i.toNat off) (hb:σ id=some (.arr e sz (xs.map cl))) (hi:ix xs i=some y) (hs:((cl y).drop off).take n=cs) (hl:cs.length=n):Ax P o ρ σ [id] (.agg cs) []:=
 Ax.load_arr ho hz hx hb (lst_get hi).2 hs hl
theorem Ax.ix {α:Type} {T e sz by_:Nat} {z:Value} {x i:Operand} {k:IntKind} {n:Int} {cl:α→List AV} {xs:List α} {y:α} (ho:o.op=.indexAddr T x i) (ht:Slc P T e sz by_ z) (hx:ρ x=.lst sz (xs.map cl)) (hi:ρ i=.sc (.int k n)) (h:Ql.ix xs n=some y):Ax P o ρ σ [] (.ipt (cl y) 0) []:=
 Ax.index_lst ho ht hx hi (lst_get (cl:=cl) h).1 (lst_get h).2
theorem Ax.ixh {α:Type} {T e sz by_ id e':Nat} {z:Value} {x i:Operand} {k:IntKind} {n:Int} {cl:α→List AV} {xs:List α} {y:α} (ho:o.op=.indexAddr T x i) (ht:Slc P T e sz by_ z) (hx:ρ x=.hnd id) (hb:σ id=some (.arr e' sz (xs.map cl))) (hi:ρ i=.sc (.int k n)) (h:Ql.ix xs n=some y):Ax P o ρ σ [id] (.eptr id sz n.toNat 0) []:=
 Ax.index_hnd ho ht hx hb hi (lst_get (cl:=cl) h).1 (List.getElem?_eq_some_iff.1 (lst_get (cl:=cl) h).2).1
theorem Ax.st_box {T n id off:Nat} {ag:Bool} {x y:Operand} {cells cs cells':List AV} (ho:o.op=.store T x y) (hz:Siz P T n ag) (hx:ρ x=.ptr id off) (hb:σ id=some (.box cells)) (hy:(ρ y).cl=cs) (hl:cs.length=n) (h1:cs.all AV.one=true) (hn:Nat.ble (off+n) cells.length=true) (hc:aset cells off cs=cells') :
  Ax P o ρ σ [id] .undef [(id,some (.box cells'))]:=hc ▸ Ax.store_box ho hz hx hb hy hl h1 (Nat.le_of_ble_eq_true hn)
theorem Ax.st_arr {α:Type} {T n id e sz off:Nat} {ag:Bool} {i:Int} {x y:Operand} {cl:α→List AV} {xs:List α} {p q:α} {cs:List AV} (ho:o.op=.store T x y) (hz:Siz P T n ag) (hx:ρ x=.eptr id sz i.toNat off) (hb:σ id=some (.arr e sz (xs.map cl))) (hi:Ql.ix xs i=some p) (hy:(ρ y).cl=cs) (hl:cs.length=n) (h1:cs.all AV.one=true) (him:cs.all AV.im=true) (hn:Nat.ble (off+n) sz=true)
  (hc:aset (cl p) off cs=cl q):Ax P o ρ σ [id] .undef [(id,some (.arr e sz ((xs.set i.toNat q).map cl)))]:=by
 have:=Ax.store_arr ho hz hx hb (lst_get hi).2 hy hl h1 him (Nat.le_of_ble_eq_true hn)
 rw [hc,← List.map_set] at this
 exact this
theorem Ax.app_l {α:Type} {T e sz by_ id d:Nat} {z:Value} {x y:Operand} {cl:α→List AV} {xs ys zs:List α} (ho:o.op=.call { callee:=.builtin .append,args:=#[x,y],argTypes:=#[T,T] }) (hd:o.dst=some d) (ht:Slc P T e sz by_ z)
  (hx:ρ x=.hnd id) (hb:σ id=some (.arr e sz (xs.map cl))) (hy:ρ y=.lst sz (ys.map cl)) (h1:∀ y,(cl y).all AV.one=true) (h2:∀ y,(cl y).all AV.im=true) (h:Ql.app xs ys=some zs) (hby:Nat.ble by_ 65536=true) (hne:Nat.beq d id=false) :
  Ax P o ρ σ [id] (.hnd d) [(d,some (.arr e sz (zs.map cl))),(id,none)]:=by
 obtain⟨h3,rfl⟩:=app_spec h
 have hb':=Nat.le_of_ble_eq_true hby
 have hm:(xs.length+ys.length)*by_≤1073741824*65536:=Nat.mul_le_mul h3 hb'
 rw [List.map_append]
 exact Ax.append ho hd ht hx hb hy (one_flat h1 ys) (im_flat h2 ys) (by simp only [List.length_map]; omega) (by simp only [List.length_map,maxLen]; omega) (Nat.ne_of_beq_eq_false hne)
theorem Ax.mk {α:Type} {T e sz by_ id:Nat} {z:Value} {x y:Operand} {k k':IntKind} {n:Int} {cl:α→List AV} {v:α} {zs:List α} (ho:o.op=.makeSlice T x y) (hd:o.dst=some id) (ht:Slc P T e sz by_ z) (hx:ρ x=.sc (.int k n)) (hy:ρ y=.sc (.int k' n))
  (h:Ql.mk n v=some zs) (hz:z.cells.toList.map AV.sc=cl v) (h1:z.cells.toList.all Value.oneCell'=true) (hby:Nat.ble by_ 65536=true):Ax P o ρ σ [] (.hnd id) [(id,some (.arr e sz (zs.map cl)))]:=by
 obtain⟨h0,h2,rfl⟩:=mk_spec h
 obtain⟨m,rfl⟩:=Int.eq_ofNat_of_zero_le h0
 have hb':=Nat.le_of_ble_eq_true hby
 have hm:by_*m≤65536*1073741824:=Nat.mul_le_mul hb' (by omega)
 rw [Int.toNat_natCast,List.map_replicate,← hz]
 exact Ax.make ho hd ht hx hy (by omega) (by simp only [maxLen]; omega) h1
theorem Ax.sb {α:Type} {T e sz by_:Nat} {z:Value} {x y y':Operand} {k k':IntKind} {l h:Int} {cl:α→List AV} {xs zs:List α} (ho:o.op=.slice T x (some y) (some y') none) (ht:Slc P T e sz by_ z) (hx:ρ x=.lst sz (xs.map cl)) (hl:ρ y=.sc (.int k l)) (hh:ρ y'=.sc (.int k' h))
  (hs:Ql.sub xs l h=some zs):Ax P o ρ σ [] (.lst sz (zs.map cl)) []:=by
 obtain⟨h0,h1,h2,rfl⟩:=sub_spec hs
 obtain⟨l,rfl⟩:=Int.eq_ofNat_of_zero_le h0
 obtain⟨h,rfl⟩:=Int.eq_ofNat_of_zero_le (Int.le_trans h0 h1)
 rw [List.map_take,List.map_drop]
 exact Ax.sub (l:=l) (h:=h) ho ht hx ⟨k,hl⟩ ⟨k',hh⟩ (by omega) (by simpa using h2)
theorem Ax.ln {T e sz by_ sz':Nat} {z:Value} {x:Operand} {α:Type} {cl:α→List AV} {xs:List α} (ho:o.op=.call { callee:=.builtin .len,args:=#[x],argTypes:=#[T] }) (ht:Slc P T e sz by_ z) (hx:ρ x=.lst sz' (xs.map cl)):Ax P o ρ σ [] (Ai xs.length) []:=by
 have:=Ax.len_lst (σ:=σ) ho ht hx
 simpa using this
theorem Ax.lnh {T e sz by_ id e' sz':Nat} {z:Value} {x:Operand} {α:Type} {cl:α→List AV} {xs:List α} (ho:o.op=.call { callee:=.builtin .len,args:=#[x],argTypes:=#[T] }) (ht:Slc P T e sz by_ z) (hx:ρ x=.hnd id) (hb:σ id=some (.arr e' sz' (xs.map cl))):Ax P o ρ σ [id] (Ai xs.length) []:=by
 have:=Ax.len_hnd (σ:=σ) ho ht hx hb
 simpa using this
theorem Ax.sl {α:Type} {T len e sz by_:Nat} {z:Value} {parts:Array (Nat × Operand)} {cl:α→List AV} {xs:List α} {fl:List AV} (ho:o.op=.buildSlice T len parts) (ht:Slc P T e sz by_ z) (hn:Nat.ble (len*sz) 16777216=true)
  (hb:bfill (fun i=>some (i*sz,sz)) (List.replicate (len*sz) .undef) (parts.toList.map fun p=>(p.1,ρ p.2))=some fl) (hsub:SubV fl (xs.map cl).flatten) (hl:(xs.map cl).length=len) (hs:∀ x,(cl x).length=sz) (h1:∀ x,(cl x).all AV.one=true) (hi:∀ x,(cl x).all AV.im=true):Ax P o ρ σ [] (.lst sz (xs.map cl)) []:=
 Ax.slice_lit ho ht (Nat.le_of_ble_eq_true hn) hb hsub hl (by intro r hr; obtain⟨x,_,rfl⟩:=List.mem_map.1 hr; exact hs x) (one_flat h1 xs) (im_flat hi xs)
end
def Plc (P:Program) (T:Nat) (ps:List (Nat × Nat)):Prop:=(match P.underlying T with | some (.struct fs)=>fs.toList.mapM (fun f=>(P.info? f.type).map fun i=>(f.offset,i.size)) | _=>none)=some ps
theorem bld {P:Program} {T:Nat} {ps:List (Nat × Nat)} {z:Value} (hp:Plc P T ps) (hz:Zer P T z) (w:World) (vs:List (Nat × Value)) (c:Array Value) (h:Instr.fill (fun i=>ps[i]?) z.cells vs=some c):(Instr.build T vs.toArray).run P w=.ok (.agg c) w:=by
 unfold Plc at hp
 unfold Zer at hz
 cases hi:P.info? T with
 | none=>simp [hi] at hz
 | some it=>
  simp [hi] at hz
  cases hu:P.underlying T with
  | none=>simp [hu] at hp
  | some d=>
   cases d <;> simp [hu] at hp
   rename_i fs
   have hpl:=run_places (P:=P) w fs.toList ps hp
   have h2:(fs.mapM fun f=>Prod.mk f.offset <$> sizeOf f.type).run P w=.ok ps.toArray w:=by
    rw [Array.mapM_eq_mapM_toList,Sem.run_map,hpl]; rfl
   have h4:(fs.mapM fun f=>do pure (f.offset,← sizeOf f.type):Sem (Array (Nat × Nat))).run P w=.ok ps.toArray w:=h2
   simp only [Instr.build,zeroValue,typeInfo,Sem.run_bind,run_program,Result.andThen_ok,hi,hz,Sem.run_pure,run_underlying hu]
   rw [h4]
   simp [h]
theorem freshL_of {ob0:List (Nat × Option AO)} {s:AS} {d:List It} (l:List Nat) (h:(d.all fun it=>(newK it).all fun k=>l.contains k)=true)
  (hl:(l.all fun k=>!menT k s.tm&&(match lo s.ob k with | none=>true | some _=>false)&&!menO k s.ob&&(match lo ob0 k with | none=>true | some _=>false))=true):freshL ob0 s d:=by
 intro it hit k hk
 have h1:=List.all_eq_true.1 (List.all_eq_true.1 h it hit) k hk
 have h2:=List.all_eq_true.1 hl k (by simpa using h1)
 simp only [Bool.and_eq_true,Bool.not_eq_true'] at h2
 obtain⟨⟨⟨a1,a2⟩,a3⟩,a4⟩:=h2
 refine AS.fresh_of a1 ?_ a3 ?_
 ·cases e:lo s.ob k with
  | none=>rfl
  | some o=>rw [e] at a2; cases a2
 ·cases e:lo ob0 k with
  | none=>rfl
  | some o=>rw [e] at a4; cases a4
end Go.Proofs.YthlchdnbokhclaaGreat.Ql
namespace Go.Proofs.YthlchdnbokhclaaGreat.Ql
open Go
section
variable {P:Program} {n:Nat} {ob0:List (Nat × Option AO)} {s:AS} {Q:Exit→AS→Prop}
theorem Tri.join {c:Code} {I:Type} (S:I→AS) (H:I→Prop) (hrest:∀ i,H i→Q .normal (S i)) (h:Tri P n ob0 c s fun e s'=>match e with | .normal=>∃ i,H i∧Ent n ob0 s' (S i) | e=>Q e s'):Tri P n ob0 c s Q:=
 Tri.post h fun e x hx=>by
  cases e with
  | normal=>obtain⟨i,hi,he⟩:=hx; exact⟨S i,he,hrest i hi⟩
  | _=>exact⟨x,Ent.refl x,hx⟩
theorem Tri.loop1 {c:Code} {I:Type} (id:Nat) (S:I→AS) (H:I→Prop) (J:Nat→AS→Prop) (k0:Nat) (h0:J k0 s) (hrest:∀ i,H i→Q (.exit id) (S i))
  (round:∀ k s,J k s→Tri P n ob0 c s fun e s'=>match e with | .normal=>∃ k' < k,∃ s'',Ent n ob0 s' s''∧J k' s'' | .exit id'=>(if id'=id then ∃ i,H i∧Ent n ob0 s' (S i) else Q (.exit id') s') | e=>Q e s'):Tri P n ob0 (.loop c) s Q:=by
 have:=Tri.loop (P:=P) (n:=n) (ob0:=ob0) (s:=s) (c:=c) (Q:=fun e s'=>match e with | .exit id'=>(if id'=id then ∃ i,H i∧Ent n ob0 s' (S i) else Q (.exit id') s') | e=>Q e s') J k0 h0 (fun k s hJ=>(round k s hJ).mono fun e x hx=>by
  cases e <;> exact hx)
 refine Tri.post this fun e x hx=>?_
 cases e with
 | exit id'=>
  dsimp only at hx
  split at hx
  ·rename_i e; subst e; obtain⟨i,hi,he⟩:=hx; exact⟨S i,he,hrest i hi⟩
  ·exact⟨x,Ent.refl x,hx⟩
 | _=>exact⟨x,Ent.refl x,hx⟩
theorem Sub.of_eq {x y:AV} (h:y=x):Sub x y:=h ▸ Sub.refl _
end
def Jo {α ρ:Type} (rest:α) (body:α→ρ):ρ:=body rest
theorem jo {α ρ:Type} {rest:α} {body:α→ρ} {r:ρ} (h:Jo rest body=r):∃ j,j=rest∧body j=r:=⟨_,rfl,h⟩
end Go.Proofs.YthlchdnbokhclaaGreat.Ql

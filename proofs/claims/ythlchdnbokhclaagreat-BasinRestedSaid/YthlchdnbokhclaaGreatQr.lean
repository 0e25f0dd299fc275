import Derived.Test.YthlchdnbokhclaaGreatQa3
import Derived.ChangeArms
import Derived.OpenShut
import Derived.ChangeSlices
import Derived.Test.YthlchdnbokhclaaGreatQt
import Derived.Test.YthlchdnbokhclaaGreatProg
import Derived.KernelRfl
import Derived.Test.YthlchdnbokhclaaGreatRows
import Derived.ProofKit
set_option linter.all false
namespace Go.Proofs.YthlchdnbokhclaaGreat.Ql
open Go
theorem one_of_RI {w:World} {ow:Nat→Prop} {x:AV} {v:Value} (h1:x.one=true) (h:RI w ow x v):v.oneCell'=true:=by
  cases x <;> simp [AV.one] at h1
  · simp only [RI] at h; subst h; exact h1
  · simp only [RI] at h; obtain⟨_,_,rfl,_⟩:=h; rfl
  · simp only [RI] at h; obtain⟨_,_,rfl,_⟩:=h; rfl
  · simp [RI] at h
  · simp [RI] at h
  · simp [RI] at h
  · simp only [RI] at h; obtain⟨_,rfl,_⟩:=h; rfl
  · simp only [RI] at h; obtain⟨_,rfl,_⟩:=h; rfl
def Rdr (P:Program) (T:TypeId) {τ:Type} (cl:τ→List AV) (wf:τ→Prop):Prop:=
  ∀ {H:Type} (enc:TypeId × Value→H) (W:World) (spare:Nat→Bool) (fuel:Nat) (cs:List Value) (x:DataW H × List MemPlace),DataW.trod enc P W 0 spare true fuel T cs=some x→∃ a,wf a∧RIv W (fun _=>False) (cl a) cs
section
variable {P:Program} {T:TypeId}
theorem rd_int {k:IntKind} (h:P.underlying T=some (.int k)):Rdr P T (fun n:Int=>[.sc (.int k n)]) (fun n=>(Lit.int k n).wf=true):=by
  intro H enc W spare fuel cs x hx
  obtain⟨n,rfl,_,hw⟩:=DataW.trod_int h hx
  exact⟨n,hw,by simp [RIv,RI]⟩
theorem rd_bool (h:P.underlying T=some .bool):Rdr P T (fun b:Bool=>[.sc (.bool b)]) (fun _=>True):=by
  intro H enc W spare fuel cs x hx
  obtain⟨b,rfl,_⟩:=DataW.trod_bool h hx
  exact⟨b,trivial,by simp [RIv,RI]⟩
theorem list_of {τ:Type} {Q:Nat→τ→Prop}:∀ (n:Nat),(∀ i,i < n→∃ a,Q i a)→∃ xs:List τ,xs.length=n∧∀ i a,xs[i]?=some a→Q i a
  | 0,_=>⟨[],rfl,by simp⟩
  | n+1,h=>by
    obtain⟨xs,hl,hx⟩:=list_of n (fun i hi=>h i (by omega))
    obtain⟨a,ha⟩:=h n (by omega)
    refine⟨xs++[a],by simp [hl],fun i b hb=>?_⟩
    rw [List.getElem?_append] at hb
    split at hb
    · exact hx i b hb
    · have:i=n:=by
        rcases Nat.lt_or_ge (i - xs.length) 1 with h1 | h1
        · omega
        · rw [List.getElem?_eq_none (by simpa using h1)] at hb; cases hb
      subst this
      rw [hl,Nat.sub_self] at hb
      simp at hb; subst hb; exact ha
theorem RIc_of_cells {W:World} {ow:Nat→Prop} {b:Nat}:∀ {xs:List AV} {vs:List Value} {p:Nat},xs.all AV.one=true→RIv W ow xs vs→(∀ j v,vs[j]?=some v→W.cell? ⟨b,p+j,none⟩=some v)→RIc W ow b xs p
  | [],_,_,_,_,_=>by simp [RIc]
  | x::xs,vs,p,h1,h,hc=>by
    simp only [List.all_cons,Bool.and_eq_true] at h1
    simp only [RIv] at h
    obtain⟨v,r,rfl,hv,hr⟩:=h
    simp only [RIc]
    refine⟨⟨v,by simpa using hc 0 v rfl,hv,one_of_RI h1.1 hv⟩,RIc_of_cells h1.2 hr fun j u hj=>?_⟩
    have:=hc (j+1) u (by simpa using hj)
    rwa [show p+(j+1)=p+1+j by omega] at this
theorem mapM_get {α β:Type} {f:α→Option β}:∀ {l:List α} {ys:List β},l.mapM f=some ys→ys.length=l.length∧∀ (i:Nat) (a:α),l[i]?=some a→f a=ys[i]?
  | [],ys,h=>by simp at h; subst h; simp
  | x::xs,ys,h=>by
    simp only [List.mapM_cons,Option.bind_eq_bind,Option.bind_eq_some_iff,Option.pure_def,Option.some.injEq] at h
    obtain⟨y,hy,zs,hz,rfl⟩:=h
    obtain⟨h1,h2⟩:=mapM_get hz
    refine⟨by simp [h1],fun i a ha=>?_⟩
    cases i with
    | zero=>simp at ha; subst ha; simp [hy]
    | succ i=>simpa using h2 i a (by simpa using ha)
theorem rd_slice {e:TypeId} {sz:Nat} {τ:Type} {cl:τ→List AV} {wf:τ→Prop} (h:P.underlying T=some (.slice e)) (hc:P.cellsOf e=sz) (hs:0 < sz) (he:Rdr P e cl wf) (hl:∀ a,(cl a).length=sz) (h1:∀ a,(cl a).all AV.one=true) :
    Rdr P T (fun xs:List τ=>[.lst sz (xs.map cl)]) (fun xs=>xs.length≤maxLen∧∀ x∈xs,wf x):=by
  intro H enc W spare fuel cs x hx
  rcases DataW.trod_slice h hx with ⟨rfl,_⟩ | ⟨a,len,cap,elems,rest,n,_,rfl,rfl,_,hlc,hcm,hel,hg,_⟩
  · refine⟨[],by simp,?_⟩
    simp only [RIv,RI,List.map_nil]
    exact⟨_,[],rfl,⟨none,0,rfl,by simp,by simp⟩,rfl⟩
  · subst hc
    have each:∀ i,i < len→∃ t:τ,wf t∧∃ cs',W.cells? 0 (a.add (i*P.cellsOf e)) (P.cellsOf e)=some cs'∧RIv W (fun _=>False) (cl t) cs':=by
      intro i hi
      have h2:=hg i hi
      rw [List.getElem?_eq_getElem (by omega),Option.bind_eq_some_iff] at h2
      obtain⟨cs',h3,h4⟩:=h2
      obtain⟨t,ht,hr⟩:=he enc W spare n cs' _ h4
      exact⟨t,ht,cs',h3,hr⟩
    obtain⟨xs,hxl,hx⟩:=list_of (Q:=fun i t=>wf t∧∃ cs',W.cells? 0 (a.add (i*P.cellsOf e)) (P.cellsOf e)=some cs'∧RIv W (fun _=>False) (cl t) cs') len each
    refine⟨xs,⟨by omega,fun t ht=>?_⟩,?_⟩
    · obtain⟨i,hi⟩:=List.mem_iff_getElem?.1 ht
      exact(hx i t hi).1
    · simp only [RIv,RI]
      refine⟨_,[],rfl,⟨some a,cap,by simp [hxl],by simp [hxl]; exact hlc,?_⟩,rfl⟩
      by_cases hz:xs=[]
      · left; simp [hz]
      · right
        have cellsOK:∀ (i:Nat) (cs':List Value),W.cells? 0 (a.add (i*P.cellsOf e)) (P.cellsOf e)=some cs'→∀ j v,cs'[j]?=some v→W.cell? ((a.add (i*P.cellsOf e)).add j)=some v:=by
          intro i cs' h3 j v hj
          unfold World.cells? at h3
          simp only [Nat.zero_le,if_true] at h3
          obtain⟨q1,q2⟩:=mapM_get h3
          have hlt:j < P.cellsOf e:=by
            have:=(List.getElem?_eq_some_iff.1 hj).1
            simp at q1; omega
          have:=q2 j j (List.getElem?_range hlt)
          rw [this]; exact hj
        have hspot:a.spot=none∧a.block < W.heap.size:=by
          cases xs with
          | nil=>exact absurd rfl hz
          | cons t ts=>
            obtain⟨_,cs',h3,h4⟩:=hx 0 t rfl
            have hlen:=hl t
            have hvl:=RIv_length h4
            cases cs' with
            | nil=>simp at hvl; omega
            | cons v vs=>
              have h5:=cellsOK 0 (v::vs) h3 0 v rfl
              have h6:(a.add (0*P.cellsOf e)).add 0=a:=by
                obtain⟨b,off,sp⟩:=a
                cases sp <;> simp [Addr.add]
              rw [h6] at h5
              have h7:=cell_lt h5
              refine⟨?_,h7⟩
              unfold World.cell? at h5
              split at h5
              · split at h5
                · cases h5
                · rename_i h8; cases hsp:a.spot with
                  | none=>rfl
                  | some s=>rw [hsp] at h8; simp at h8
              · cases h5
        obtain⟨hsp,hlt⟩:=hspot
        refine⟨a.block,a.off,by cases a; simp at hsp; subst hsp; rfl,hlt,by simp,RIr_of fun i r hr=>?_⟩
        rw [List.getElem?_map] at hr
        cases ht:xs[i]? with
        | none=>rw [ht] at hr; simp at hr
        | some t=>
          rw [ht] at hr
          simp only [Option.map_some,Option.some.injEq] at hr
          subst hr
          obtain⟨_,cs',h3,h4⟩:=hx i t ht
          refine⟨hl t,RIc_of_cells (h1 t) h4 fun j v hj=>?_⟩
          have h5:=cellsOK i cs' h3 j v hj
          have h6:(a.add (i*P.cellsOf e)).add j=⟨a.block,a.off+i*P.cellsOf e+j,none⟩:=by
            obtain⟨b,off,sp⟩:=a
            simp only at hsp
            subst hsp
            rw [Addr.add_lit,Addr.add_lit]
          rwa [h6] at h5
theorem RIv_app {w:World} {ow:Nat→Prop}:∀ {xs ys:List AV} {vs us:List Value},RIv w ow xs vs→RIv w ow ys us→RIv w ow (xs++ys) (vs++us)
  | [],_,vs,_,h,k=>by simp only [RIv] at h; subst h; exact k
  | x::xs,_,vs,_,h,k=>by
    simp only [RIv] at h
    obtain⟨v,r,rfl,hv,hr⟩:=h
    simp only [List.cons_append,RIv]
    exact⟨v,_,rfl,hv,RIv_app hr k⟩
theorem RIv.seg {w:World} {ow:Nat→Prop} {A B:List AV} {cs:List Value} {o n:Nat} (h:RIv w ow A ((cs.drop o).take n)) (k:RIv w ow B (cs.drop (o+n))):RIv w ow (A++B) (cs.drop o):=by
  have:=RIv_app h k
  rwa [show cs.drop (o+n)=(cs.drop o).drop n by rw [List.drop_drop],List.take_append_drop] at this
theorem RIv.fin {w:World} {ow:Nat→Prop} {cs:List Value} {o:Nat} (h:cs.length=o):RIv w ow [] (cs.drop o):=by
  rw [List.drop_eq_nil_of_le (by omega)]; simp [RIv]
theorem get_some {α:Type} {xs:List α} {n i:Nat} (h:xs.length=n) (hi:i < n):∃ y,xs[i]?=some y:=⟨_,List.getElem?_eq_getElem (by omega)⟩
end
end Go.Proofs.YthlchdnbokhclaaGreat.Ql
namespace Go.Proofs.YthlchdnbokhclaaGreat.Ql
open Go Go.Proofs
set_option maxRecDepth 100000
abbrev wf3 (n:Int):Prop:=(Lit.int .i64 n).wf=true
theorem rd_3:Rdr Tryz.prog 3 icl wf3:=rd_int Tryz.underlying3
structure wf56 (x:Cell):Prop where
  No:wf3 x.No
  Height:wf3 x.Height
  Aspect:wf3 x.Aspect
  Area:wf3 x.Area
theorem rd_56:Rdr Tryz.prog 56 Cell.cl wf56:=by
  intro H enc W spare fuel cs x h
  obtain⟨xs,n,rfl,rfl,hl,hn,hf⟩:=DataW.trod_struct Tryz.underlying56 h
  have hl:cs.length=4:=hl.trans (by kernel_rfl)
  obtain⟨y0,e0⟩:=get_some (i:=0) (hn.trans (show _=4 from rfl)) (by decide)
  have f0:=(hf 0 _ rfl).trans e0
  obtain⟨a0,w0,r0⟩:=rd_3 enc W spare n _ _ f0
  have r0:RIv W (fun _=>False) (icl a0) ((cs.drop 0).take 1):=r0
  obtain⟨y1,e1⟩:=get_some (i:=1) (hn.trans (show _=4 from rfl)) (by decide)
  have f1:=(hf 1 _ rfl).trans e1
  obtain⟨a1,w1,r1⟩:=rd_3 enc W spare n _ _ f1
  have r1:RIv W (fun _=>False) (icl a1) ((cs.drop 1).take 1):=r1
  obtain⟨y2,e2⟩:=get_some (i:=2) (hn.trans (show _=4 from rfl)) (by decide)
  have f2:=(hf 2 _ rfl).trans e2
  obtain⟨a2,w2,r2⟩:=rd_3 enc W spare n _ _ f2
  have r2:RIv W (fun _=>False) (icl a2) ((cs.drop 2).take 1):=r2
  obtain⟨y3,e3⟩:=get_some (i:=3) (hn.trans (show _=4 from rfl)) (by decide)
  have f3:=(hf 3 _ rfl).trans e3
  obtain⟨a3,w3,r3⟩:=rd_3 enc W spare n _ _ f3
  have r3:RIv W (fun _=>False) (icl a3) ((cs.drop 3).take 1):=r3
  refine⟨⟨a0,a1,a2,a3⟩,⟨w0,w1,w2,w3⟩,?_⟩
  exact(List.drop_zero (l:=cs)) ▸ (RIv.seg (o:=0) (n:=1) r0 (RIv.seg (o:=1) (n:=1) r1 (RIv.seg (o:=2) (n:=1) r2 (RIv.seg (o:=3) (n:=1) r3 (RIv.fin hl)))))
def wf22 (xs:List Cell):Prop:=xs.length≤maxLen∧∀ x∈xs,wf56 x
theorem rd_22:Rdr Tryz.prog 22 (fun xs:List Cell=>[AV.lst 4 (xs.map Cell.cl)]) wf22:=rd_slice Tryz.underlying22 (by kernel_rfl) (by decide) rd_56 Cell_len Cell_one
structure wf97 (x:Arr2_3):Prop where
  a0:wf3 x.a0
  a1:wf3 x.a1
theorem rd_97:Rdr Tryz.prog 97 Arr2_3.cl wf97:=by
  intro H enc W spare fuel cs x h
  obtain⟨xs,n,rfl,rfl,hl,hn,hf⟩:=DataW.trod_array Tryz.underlying97 h
  have hl:cs.length=2:=hl.trans (by kernel_rfl)
  obtain⟨y0,e0⟩:=get_some (i:=0) (hn.trans (show _=2 from rfl)) (by decide)
  have f0:=(hf 0 (by decide)).trans e0
  obtain⟨a0,w0,r0⟩:=rd_3 enc W spare n _ _ f0
  have r0:RIv W (fun _=>False) (icl a0) ((cs.drop 0).take 1):=r0
  obtain⟨y1,e1⟩:=get_some (i:=1) (hn.trans (show _=2 from rfl)) (by decide)
  have f1:=(hf 1 (by decide)).trans e1
  obtain⟨a1,w1,r1⟩:=rd_3 enc W spare n _ _ f1
  have r1:RIv W (fun _=>False) (icl a1) ((cs.drop 1).take 1):=r1
  refine⟨⟨a0,a1⟩,⟨w0,w1⟩,?_⟩
  exact(List.drop_zero (l:=cs)) ▸ (RIv.seg (o:=0) (n:=1) r0 (RIv.seg (o:=1) (n:=1) r1 (RIv.fin hl)))
def wf23 (xs:List Arr2_3):Prop:=xs.length≤maxLen∧∀ x∈xs,wf97 x
theorem rd_23:Rdr Tryz.prog 23 (fun xs:List Arr2_3=>[AV.lst 2 (xs.map Arr2_3.cl)]) wf23:=rd_slice Tryz.underlying23 (by kernel_rfl) (by decide) rd_97 Arr2_3_len Arr2_3_one
structure wf25 (x:Basin):Prop where
  Cells:wf22 x.Cells
  Pairs:wf23 x.Pairs
  Gain:wf3 x.Gain
  Slack:wf3 x.Slack
  Deep:wf3 x.Deep
theorem rd_25:Rdr Tryz.prog 25 Basin.cl wf25:=by
  intro H enc W spare fuel cs x h
  obtain⟨xs,n,rfl,rfl,hl,hn,hf⟩:=DataW.trod_struct Tryz.underlying25 h
  have hl:cs.length=5:=hl.trans (by kernel_rfl)
  obtain⟨y0,e0⟩:=get_some (i:=0) (hn.trans (show _=5 from rfl)) (by decide)
  have f0:=(hf 0 _ rfl).trans e0
  obtain⟨a0,w0,r0⟩:=rd_22 enc W spare n _ _ f0
  have r0:RIv W (fun _=>False) ((fun xs:List Cell=>[AV.lst 4 (xs.map Cell.cl)]) a0) ((cs.drop 0).take 1):=r0
  obtain⟨y1,e1⟩:=get_some (i:=1) (hn.trans (show _=5 from rfl)) (by decide)
  have f1:=(hf 1 _ rfl).trans e1
  obtain⟨a1,w1,r1⟩:=rd_23 enc W spare n _ _ f1
  have r1:RIv W (fun _=>False) ((fun xs:List Arr2_3=>[AV.lst 2 (xs.map Arr2_3.cl)]) a1) ((cs.drop 1).take 1):=r1
  obtain⟨y2,e2⟩:=get_some (i:=2) (hn.trans (show _=5 from rfl)) (by decide)
  have f2:=(hf 2 _ rfl).trans e2
  obtain⟨a2,w2,r2⟩:=rd_3 enc W spare n _ _ f2
  have r2:RIv W (fun _=>False) (icl a2) ((cs.drop 2).take 1):=r2
  obtain⟨y3,e3⟩:=get_some (i:=3) (hn.trans (show _=5 from rfl)) (by decide)
  have f3:=(hf 3 _ rfl).trans e3
  obtain⟨a3,w3,r3⟩:=rd_3 enc W spare n _ _ f3
  have r3:RIv W (fun _=>False) (icl a3) ((cs.drop 3).take 1):=r3
  obtain⟨y4,e4⟩:=get_some (i:=4) (hn.trans (show _=5 from rfl)) (by decide)
  have f4:=(hf 4 _ rfl).trans e4
  obtain⟨a4,w4,r4⟩:=rd_3 enc W spare n _ _ f4
  have r4:RIv W (fun _=>False) (icl a4) ((cs.drop 4).take 1):=r4
  refine⟨⟨a0,a1,a2,a3,a4⟩,⟨w0,w1,w2,w3,w4⟩,?_⟩
  exact(List.drop_zero (l:=cs)) ▸ (RIv.seg (o:=0) (n:=1) r0 (RIv.seg (o:=1) (n:=1) r1 (RIv.seg (o:=2) (n:=1) r2 (RIv.seg (o:=3) (n:=1) r3 (RIv.seg (o:=4) (n:=1) r4 (RIv.fin hl))))))
def wf26 (xs:List Int):Prop:=xs.length≤maxLen∧∀ x∈xs,wf3 x
theorem rd_26:Rdr Tryz.prog 26 (fun xs:List Int=>[AV.lst 1 (xs.map icl)]) wf26:=rd_slice Tryz.underlying26 (by kernel_rfl) (by decide) rd_3 icl_len icl_one
structure wf64 (x:Sight):Prop where
  No:wf3 x.No
  Cell:wf3 x.Cell
  Day:wf3 x.Day
  Lo:wf3 x.Lo
  Hi:wf3 x.Hi
theorem rd_64:Rdr Tryz.prog 64 Sight.cl wf64:=by
  intro H enc W spare fuel cs x h
  obtain⟨xs,n,rfl,rfl,hl,hn,hf⟩:=DataW.trod_struct Tryz.underlying64 h
  have hl:cs.length=5:=hl.trans (by kernel_rfl)
  obtain⟨y0,e0⟩:=get_some (i:=0) (hn.trans (show _=5 from rfl)) (by decide)
  have f0:=(hf 0 _ rfl).trans e0
  obtain⟨a0,w0,r0⟩:=rd_3 enc W spare n _ _ f0
  have r0:RIv W (fun _=>False) (icl a0) ((cs.drop 0).take 1):=r0
  obtain⟨y1,e1⟩:=get_some (i:=1) (hn.trans (show _=5 from rfl)) (by decide)
  have f1:=(hf 1 _ rfl).trans e1
  obtain⟨a1,w1,r1⟩:=rd_3 enc W spare n _ _ f1
  have r1:RIv W (fun _=>False) (icl a1) ((cs.drop 1).take 1):=r1
  obtain⟨y2,e2⟩:=get_some (i:=2) (hn.trans (show _=5 from rfl)) (by decide)
  have f2:=(hf 2 _ rfl).trans e2
  obtain⟨a2,w2,r2⟩:=rd_3 enc W spare n _ _ f2
  have r2:RIv W (fun _=>False) (icl a2) ((cs.drop 2).take 1):=r2
  obtain⟨y3,e3⟩:=get_some (i:=3) (hn.trans (show _=5 from rfl)) (by decide)
  have f3:=(hf 3 _ rfl).trans e3
  obtain⟨a3,w3,r3⟩:=rd_3 enc W spare n _ _ f3
  have r3:RIv W (fun _=>False) (icl a3) ((cs.drop 3).take 1):=r3
  obtain⟨y4,e4⟩:=get_some (i:=4) (hn.trans (show _=5 from rfl)) (by decide)
  have f4:=(hf 4 _ rfl).trans e4
  obtain⟨a4,w4,r4⟩:=rd_3 enc W spare n _ _ f4
  have r4:RIv W (fun _=>False) (icl a4) ((cs.drop 4).take 1):=r4
  refine⟨⟨a0,a1,a2,a3,a4⟩,⟨w0,w1,w2,w3,w4⟩,?_⟩
  exact(List.drop_zero (l:=cs)) ▸ (RIv.seg (o:=0) (n:=1) r0 (RIv.seg (o:=1) (n:=1) r1 (RIv.seg (o:=2) (n:=1) r2 (RIv.seg (o:=3) (n:=1) r3 (RIv.seg (o:=4) (n:=1) r4 (RIv.fin hl))))))
def wf27 (xs:List Sight):Prop:=xs.length≤maxLen∧∀ x∈xs,wf64 x
theorem rd_27:Rdr Tryz.prog 27 (fun xs:List Sight=>[AV.lst 5 (xs.map Sight.cl)]) wf27:=rd_slice Tryz.underlying27 (by kernel_rfl) (by decide) rd_64 Sight_len Sight_one
structure wf67 (x:Change):Prop where
  Cell:wf3 x.Cell
  From:wf3 x.From
  To:wf3 x.To
  Lo:wf3 x.Lo
  Hi:wf3 x.Hi
theorem rd_67:Rdr Tryz.prog 67 Change.cl wf67:=by
  intro H enc W spare fuel cs x h
  obtain⟨xs,n,rfl,rfl,hl,hn,hf⟩:=DataW.trod_struct Tryz.underlying67 h
  have hl:cs.length=5:=hl.trans (by kernel_rfl)
  obtain⟨y0,e0⟩:=get_some (i:=0) (hn.trans (show _=5 from rfl)) (by decide)
  have f0:=(hf 0 _ rfl).trans e0
  obtain⟨a0,w0,r0⟩:=rd_3 enc W spare n _ _ f0
  have r0:RIv W (fun _=>False) (icl a0) ((cs.drop 0).take 1):=r0
  obtain⟨y1,e1⟩:=get_some (i:=1) (hn.trans (show _=5 from rfl)) (by decide)
  have f1:=(hf 1 _ rfl).trans e1
  obtain⟨a1,w1,r1⟩:=rd_3 enc W spare n _ _ f1
  have r1:RIv W (fun _=>False) (icl a1) ((cs.drop 1).take 1):=r1
  obtain⟨y2,e2⟩:=get_some (i:=2) (hn.trans (show _=5 from rfl)) (by decide)
  have f2:=(hf 2 _ rfl).trans e2
  obtain⟨a2,w2,r2⟩:=rd_3 enc W spare n _ _ f2
  have r2:RIv W (fun _=>False) (icl a2) ((cs.drop 2).take 1):=r2
  obtain⟨y3,e3⟩:=get_some (i:=3) (hn.trans (show _=5 from rfl)) (by decide)
  have f3:=(hf 3 _ rfl).trans e3
  obtain⟨a3,w3,r3⟩:=rd_3 enc W spare n _ _ f3
  have r3:RIv W (fun _=>False) (icl a3) ((cs.drop 3).take 1):=r3
  obtain⟨y4,e4⟩:=get_some (i:=4) (hn.trans (show _=5 from rfl)) (by decide)
  have f4:=(hf 4 _ rfl).trans e4
  obtain⟨a4,w4,r4⟩:=rd_3 enc W spare n _ _ f4
  have r4:RIv W (fun _=>False) (icl a4) ((cs.drop 4).take 1):=r4
  refine⟨⟨a0,a1,a2,a3,a4⟩,⟨w0,w1,w2,w3,w4⟩,?_⟩
  exact(List.drop_zero (l:=cs)) ▸ (RIv.seg (o:=0) (n:=1) r0 (RIv.seg (o:=1) (n:=1) r1 (RIv.seg (o:=2) (n:=1) r2 (RIv.seg (o:=3) (n:=1) r3 (RIv.seg (o:=4) (n:=1) r4 (RIv.fin hl))))))
def wf28 (xs:List Change):Prop:=xs.length≤maxLen∧∀ x∈xs,wf67 x
theorem rd_28:Rdr Tryz.prog 28 (fun xs:List Change=>[AV.lst 5 (xs.map Change.cl)]) wf28:=rd_slice Tryz.underlying28 (by kernel_rfl) (by decide) rd_67 Change_len Change_one
structure wf30 (x:Scene):Prop where
  Basin:wf25 x.Basin
  Days:wf26 x.Days
  Sights:wf27 x.Sights
  Changes:wf28 x.Changes
theorem rd_30:Rdr Tryz.prog 30 Scene.cl wf30:=by
  intro H enc W spare fuel cs x h
  obtain⟨xs,n,rfl,rfl,hl,hn,hf⟩:=DataW.trod_struct Tryz.underlying30 h
  have hl:cs.length=8:=hl.trans (by kernel_rfl)
  obtain⟨y0,e0⟩:=get_some (i:=0) (hn.trans (show _=4 from rfl)) (by decide)
  have f0:=(hf 0 _ rfl).trans e0
  obtain⟨a0,w0,r0⟩:=rd_25 enc W spare n _ _ f0
  have r0:RIv W (fun _=>False) (Basin.cl a0) ((cs.drop 0).take 5):=r0
  obtain⟨y1,e1⟩:=get_some (i:=1) (hn.trans (show _=4 from rfl)) (by decide)
  have f1:=(hf 1 _ rfl).trans e1
  obtain⟨a1,w1,r1⟩:=rd_26 enc W spare n _ _ f1
  have r1:RIv W (fun _=>False) ((fun xs:List Int=>[AV.lst 1 (xs.map icl)]) a1) ((cs.drop 5).take 1):=r1
  obtain⟨y2,e2⟩:=get_some (i:=2) (hn.trans (show _=4 from rfl)) (by decide)
  have f2:=(hf 2 _ rfl).trans e2
  obtain⟨a2,w2,r2⟩:=rd_27 enc W spare n _ _ f2
  have r2:RIv W (fun _=>False) ((fun xs:List Sight=>[AV.lst 5 (xs.map Sight.cl)]) a2) ((cs.drop 6).take 1):=r2
  obtain⟨y3,e3⟩:=get_some (i:=3) (hn.trans (show _=4 from rfl)) (by decide)
  have f3:=(hf 3 _ rfl).trans e3
  obtain⟨a3,w3,r3⟩:=rd_28 enc W spare n _ _ f3
  have r3:RIv W (fun _=>False) ((fun xs:List Change=>[AV.lst 5 (xs.map Change.cl)]) a3) ((cs.drop 7).take 1):=r3
  refine⟨⟨a0,a1,a2,a3⟩,⟨w0,w1,w2,w3⟩,?_⟩
  exact(List.drop_zero (l:=cs)) ▸ (RIv.seg (o:=0) (n:=5) r0 (RIv.seg (o:=5) (n:=1) r1 (RIv.seg (o:=6) (n:=1) r2 (RIv.seg (o:=7) (n:=1) r3 (RIv.fin hl)))))
def wf44 (xs:List (List Int)):Prop:=xs.length≤maxLen∧∀ x∈xs,wf26 x
theorem rd_44:Rdr Tryz.prog 44 (fun xs:List (List Int)=>[AV.lst 1 (xs.map cl26)]) wf44:=rd_slice Tryz.underlying44 (by kernel_rfl) (by decide) rd_26 cl26_len cl26_one
structure wf128 (x:Arr5_3):Prop where
  a0:wf3 x.a0
  a1:wf3 x.a1
  a2:wf3 x.a2
  a3:wf3 x.a3
  a4:wf3 x.a4
def wf126 (xs:List Arr5_3):Prop:=xs.length≤maxLen∧∀ x∈xs,wf128 x
abbrev wf4 (b:Bool):Prop:=True
theorem rd_4:Rdr Tryz.prog 4 bcl wf4:=rd_bool Tryz.underlying4
structure wf42 (x:Reason):Prop where
  Kind:wf3 x.Kind
  Index:wf3 x.Index
  Day:wf3 x.Day
  Upper:wf4 x.Upper
theorem rd_42:Rdr Tryz.prog 42 Reason.cl wf42:=by
  intro H enc W spare fuel cs x h
  obtain⟨xs,n,rfl,rfl,hl,hn,hf⟩:=DataW.trod_struct Tryz.underlying42 h
  have hl:cs.length=4:=hl.trans (by kernel_rfl)
  obtain⟨y0,e0⟩:=get_some (i:=0) (hn.trans (show _=4 from rfl)) (by decide)
  have f0:=(hf 0 _ rfl).trans e0
  obtain⟨a0,w0,r0⟩:=rd_3 enc W spare n _ _ f0
  have r0:RIv W (fun _=>False) (icl a0) ((cs.drop 0).take 1):=r0
  obtain⟨y1,e1⟩:=get_some (i:=1) (hn.trans (show _=4 from rfl)) (by decide)
  have f1:=(hf 1 _ rfl).trans e1
  obtain⟨a1,w1,r1⟩:=rd_3 enc W spare n _ _ f1
  have r1:RIv W (fun _=>False) (icl a1) ((cs.drop 1).take 1):=r1
  obtain⟨y2,e2⟩:=get_some (i:=2) (hn.trans (show _=4 from rfl)) (by decide)
  have f2:=(hf 2 _ rfl).trans e2
  obtain⟨a2,w2,r2⟩:=rd_3 enc W spare n _ _ f2
  have r2:RIv W (fun _=>False) (icl a2) ((cs.drop 2).take 1):=r2
  obtain⟨y3,e3⟩:=get_some (i:=3) (hn.trans (show _=4 from rfl)) (by decide)
  have f3:=(hf 3 _ rfl).trans e3
  obtain⟨a3,w3,r3⟩:=rd_4 enc W spare n _ _ f3
  have r3:RIv W (fun _=>False) (bcl a3) ((cs.drop 3).take 1):=r3
  refine⟨⟨a0,a1,a2,a3⟩,⟨w0,w1,w2,w3⟩,?_⟩
  exact(List.drop_zero (l:=cs)) ▸ (RIv.seg (o:=0) (n:=1) r0 (RIv.seg (o:=1) (n:=1) r1 (RIv.seg (o:=2) (n:=1) r2 (RIv.seg (o:=3) (n:=1) r3 (RIv.fin hl)))))
def wf35 (xs:List Reason):Prop:=xs.length≤maxLen∧∀ x∈xs,wf42 x
theorem rd_35:Rdr Tryz.prog 35 (fun xs:List Reason=>[AV.lst 4 (xs.map Reason.cl)]) wf35:=rd_slice Tryz.underlying35 (by kernel_rfl) (by decide) rd_42 Reason_len Reason_one
theorem keeps0 {w:World}:Keeps w (fun _=>False) w (fun b=>False∨owned (fun _=>none) b):=⟨Nat.le_refl _,fun b _ _=>⟨(by
  intro h
  rcases h with h | ⟨i,k,e,_⟩
  · exact h
  · cases e),rfl⟩⟩
theorem RI_one {w:World} {ow:Nat→Prop} {x:AV} {v:Value} (h:RIv w ow [x] [v]):RI w ow x v:=by
  simp only [RIv] at h
  obtain⟨_,_,e,h,_⟩:=h
  cases e; exact h
theorem Objs.none0 {w:World}:Objs w (fun _=>False) (fun _=>none) []:=⟨(fun id o h=>by simp [sm,lo] at h),(fun id k e=>by cases e),(fun i j k l b e=>by cases e),(fun b ⟨i,k,e,_⟩=>by cases e)⟩
end Go.Proofs.YthlchdnbokhclaaGreat.Ql
namespace Go.Proofs.YthlchdnbokhclaaGreat.Ql
open Go Go.Proofs
set_option maxRecDepth 100000
theorem joined {P:Program} {f:FuncId} {fn:Func} {s:ChangeSpec} {c:OpenClaim} (k1:laidOutB P=true) (k2:mapsRowed P=true) (k3:P.stops=[]) (k4:P.stopKnobs=[]) (k5:P.plainKeys=false) (k6:P.stopsHeard=true) (k7:P.mayEnter=true) (k8:P.liftsFinal=false) (k9:(P.make==some c.make)=true)
    (m1:c.wf (OpenSpec.ofChange s)=true) (m2:(fn.params.all (P.readableRec ·)&&namedTie P c.named s.vars&&(c.stops==[])&&(c.knobs==[]))=true) (m3:(c.inPlace==P.inPlace f)=true) (m4:(c.unfollowed==P.unfollowed f)=true) (m5:(c.recurses==P.recurses f)=true) (m6:(c.named==P.varsNamed f)=true)
    (m7:((c.maps==(fn.params.toList++s.plain.varTypes P).any (P.mapsRec ·))&&(c.ifaces==(fn.params.toList++s.plain.varTypes P).any (P.ifacesRec ·))&&(c.mapsOut==P.mapsAmong fn.resultTypes.toList) &&
  (c.loops==(fn.params.toList++s.plain.varTypes P).any (P.loopsFrom ·))&&(c.wideKeys==(fn.params.toList++s.plain.varTypes P++fn.resultTypes.toList).any (P.wideKeysFrom ·)))=true)
    (m8:(s.vars.all (P.varReadable ·)&&fn.resultTypes.all (fun t=>P.readableRec t&&decide (t < P.types.size))&&(c.ifacesOut==fn.resultTypes.toList.any (P.ifacesRec ·))&&(c.loopsOut==fn.resultTypes.toList.any (P.loopsFrom ·)))=true) (m9:(!c.plainKeys&&c.shortTexts.isNone&&!c.lifted&&(c.pinned==c.pinnedBy))=true)
    (m10:c.domain.isEmpty=true) (m12:(c.kinds==[])=true)
    (m11:((c.veiled==(fn.params.toList++s.plain.varTypes P++fn.resultTypes.toList).any (P.veiledRec ·))&&c.veiledFits P fn.params.toList (fn.params.toList++s.plain.varTypes P++fn.resultTypes.toList))=true):joinedFacts P f fn s c=true:=by
  simp only [Bool.and_eq_true,Bool.not_eq_true'] at m2 m7 m8 m9 m11
  obtain⟨⟨⟨a1,a2⟩,a3⟩,a4⟩:=m2
  obtain⟨⟨⟨⟨b1,b2⟩,b3⟩,b4⟩,b5⟩:=m7
  obtain⟨⟨⟨c1,c2⟩,c3⟩,c4⟩:=m8
  obtain⟨⟨⟨d1,d2⟩,d3⟩,d4⟩:=m9
  unfold joinedFacts
  rw [k1,k2,k3,k4,k5,k6,k7,k8,k9,m1,a1,a2,a3,a4,m3,m4,m5,m6,b1,b2,b3,b4,b5,c1,c2,c3,c4,d1,d2,d3,d4,m10,if_pos rfl,m12,m11.1,m11.2]
  rfl
end Go.Proofs.YthlchdnbokhclaaGreat.Ql

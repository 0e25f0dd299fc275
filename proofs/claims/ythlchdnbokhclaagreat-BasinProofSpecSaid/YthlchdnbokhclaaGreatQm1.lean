import Derived.Test.YthlchdnbokhclaaGreatQb1
import Derived.Test.YthlchdnbokhclaaGreatQs
import Derived.Test.YthlchdnbokhclaaGreatQr
import Derived.Test.YthlchdnbokhclaaGreatQc1
set_option linter.all false
namespace Go.Proofs.YthlchdnbokhclaaGreat.Ql
open Go
theorem Lens.wf {s:Scene} (h:wf30 s):Lens s:=by
 have:=h.Basin.Cells.1
 have:=h.Basin.Pairs.1
 have:=h.Days.1
 have:=h.Sights.1
 have:=h.Changes.1
 unfold maxLen at *
 exact⟨by omega,by omega,by omega,by omega,by omega⟩
theorem wf3_bd {n:Int} (h:wf3 n):-9223372036854775808≤n∧n≤9223372036854775807:=by
 have h:(Lit.int .i64 n).wf=true:=h
 simp [Lit.wf,IntKind.min,IntKind.max,IntKind.bits,IntKind.signed] at h
 omega
end Go.Proofs.YthlchdnbokhclaaGreat.Ql
namespace Go.Proofs.YthlchdnbokhclaaGreat.Ql
open Go
theorem f28_eq {K:Nat} {s:Scene} (hL:Lens s):Gets (f28 K s) fun _=>True:=by
 unfold f28 f106
 refine Gets.bind (P:=fun _=>True) (Gets.cond (fun h=>Gets.bind (f76_eq _ s hL) fun _ _=>Gets.some trivial) fun h=>Gets.some trivial) fun _ _=>Gets.some trivial
end Go.Proofs.YthlchdnbokhclaaGreat.Ql
namespace Go.Proofs.YthlchdnbokhclaaGreat.Ql
open Go Go.Proofs.YthlchdnbokhclaaGreat.Bm
theorem basinProofSpec_pure (s:Scene) (c d w:Int) (m:Bool) (l:List Reason) (h:wf30 s) (_:wf3 c) (_:wf3 d) (hw:wf3 w) (_:wf4 m) (_:wf35 l):∃ k,f17 k s c d w m l=some true:=by
 refine⟨4611686018427387904,?_⟩
 have hL:=Lens.wf h
 have hw:=wf3_bd hw
 have:Gets (f17 4611686018427387904 s c d w m l) (·=true):=by
  unfold f17
  refine Gets.bind_eq sane_ok (Gets.cond (fun h=>by simp at h) fun _=>?_)
  refine Gets.bind (P:=fun v=>v=false→l.length≤100) (Gets.bind (f28_eq hL) fun k _=>Gets.cond (fun _=>Gets.some (fun h=>by cases h)) fun _=>Gets.some (fun h=>by have:=of_decide_eq_false h; omega)) fun v hv=>Gets.cond (fun _=>Gets.some rfl) fun h'=>?_
  have hl:=hv h'
  refine Gets.bind (f91_eq hL (by omega) hw) fun a ha=>Gets.bind (f92_eq hL (by omega) hw) fun b hb=>?_
  cases ha.uniq hb
  simp only [bne_self_eq_false,cond_false]
  refine Gets.bind (f34_eq hL) fun r1 h1=>Gets.bind (f93_eq hL) fun r2 h2=>?_
  obtain⟨x,e⟩:=r1
  obtain⟨p,e'⟩:=r2
  rcases h2 with ⟨k1,k2⟩ | ⟨k1,k2,k3⟩ | ⟨k1,k2,k3,k4⟩ | ⟨k1,k2,k3,k4,k5,k6⟩
  ·cases k2
   rcases h1 with ⟨h1,h2⟩ | ⟨h1,_⟩ | ⟨h1,_⟩ | ⟨h1,_⟩
   ·cases h2
    simp only [bne_self_eq_false,cond_false]
    rw [show (chk s != 0)=true by simpa using chk_ne.2 h1]
    exact Gets.some rfl
   all_goals exact absurd h1 k1
  ·cases k3
   rcases h1 with ⟨h1,_⟩ | ⟨_,_,h2⟩ | ⟨_,h2,_⟩ | ⟨_,h2,_⟩
   ·exact absurd k1 h1
   ·cases h2; exact Gets.some rfl
   all_goals exact absurd h2 k2
  ·cases k4
   rcases h1 with ⟨h1,_⟩ | ⟨_,h2,_⟩ | ⟨_,_,_,h2⟩ | ⟨_,_,h2,_⟩
   ·exact absurd k1 h1
   ·exact absurd k2 h2
   ·cases h2; exact Gets.some rfl
   ·exact absurd h2 k3
  ·simp only at k4 k5 k6
   subst k4
   rcases h1 with ⟨h1,_⟩ | ⟨_,h2,_⟩ | ⟨_,_,h2,_⟩ | ⟨_,_,_,lo,hi,h3,h4,h5⟩
   ·exact absurd k1 h1
   ·exact absurd k2 h2
   ·exact absurd k3 h2
   ·cases h5
    have hp:=k6 lo hi h3 h4
    have hsn:=sightNode_in k2.1 k2.2
    have b1:=pot_bd k1 h3.pot (v:=(sightNode s c d).toNat) (by omega)
    have b2:=pot_bd k1 h4.pot (v:=(sightNode s c d).toNat) (by omega)
    have hd:=k1.b.d
    have z1:=h3.z
    have z2:=h4.z
    simp only [bne_self_eq_false,cond_false]
    cases m
    ·simp only [cond_false]
     simp only [Bool.false_eq_true,if_false] at hp
     refine Gets.bind (f92_eq hL (by omega) (by omega)) fun r hr=>Gets.some ?_
     rw [((hr.2 k1).2 k2).1 hp]; rfl
    ·simp only [cond_true]
     simp only [if_true] at hp
     refine Gets.bind (f92_eq hL (by omega) (by omega)) fun r hr=>Gets.some ?_
     rw [((hr.2 k1).2 k2).1 hp]; rfl
 exact this.out
end Go.Proofs.YthlchdnbokhclaaGreat.Ql

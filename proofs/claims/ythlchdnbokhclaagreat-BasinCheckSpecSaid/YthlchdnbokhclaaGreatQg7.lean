import Derived.Test.YthlchdnbokhclaaGreatQt
import Derived.Test.YthlchdnbokhclaaGreatQg6
import Derived.Test.YthlchdnbokhclaaGreatQg4
import Derived.Test.YthlchdnbokhclaaGreatQg5
import Derived.Test.YthlchdnbokhclaaGreatQg1
set_option linter.all false
namespace Go.Proofs.YthlchdnbokhclaaGreat.Ql
open Go Go.Proofs
set_option maxRecDepth 100000
set_option maxHeartbeats 0
theorem f73_ok {K : Nat} {a0 : Scene} {a1 : Int} {r : Scene × Int} (h : f73 K a0 a1 = some r) : CallOK Tryz.prog 73 [.agg (Scene.cl a0), Ai a1] [] (.tup [.agg (Scene.cl r.1), Ai r.2]) [] := by
 refine CallOK.of_tri Tryz.func73 rfl rfl (Nat.le_of_ble_eq_true rfl) ?_
 unfold f73 at h
 refine Tr ?_
 refine Qe 1 rfl ?_
 refine Qn rfl rfl rfl (v := .ptr 4 0) (x := some (.box (Scene.cl (⟨(⟨([] : List Cell), ([] : List Arr2_3), 0, 0, 0⟩ : Basin), ([] : List Int), ([] : List Sight), ([] : List Change)⟩ : Scene)))) (Ax.alloc rfl rfl zer_30 rfl ⟨Sub.nil _, Sub.nil _, Sub.refl _, Sub.refl _, Sub.refl _, Sub.nil _, Sub.nil _, Sub.nil _, trivial⟩) rfl rfl rfl rfl rfl ?_
 refine Qd rfl ?_
 refine Tri.seq ?_
 refine Tr ?_
 refine Qe 1 rfl ?_
 obtain ⟨x10, hc, h⟩ := bind_some h
 refine Qc rfl rfl rfl (args := [.agg (Scene.cl a0)]) (r := Ai x10) (calv rfl rfl fnok_76 rfl) (f76_ok hc) rfl ?_
 refine Qd rfl ?_
 refine Tp rfl ?_
 refine Tri.cond (b := (x10 != 0)) rfl (fun hb => ?_) (fun hb => ?_)
 ·have h := cond_t hb h
  refine Tr ?_
  refine Q1 rfl rfl rfl (v := .agg (Scene.cl (⟨(⟨([] : List Cell), ([] : List Arr2_3), 0, 0, 0⟩ : Basin), ([] : List Int), ([] : List Sight), ([] : List Change)⟩ : Scene))) (Ax.build rfl zer_30 (bld plc_30 zer_30) rfl ⟨Sub.nil _, Sub.nil _, Sub.refl _, Sub.refl _, Sub.refl _, Sub.nil _, Sub.nil _, Sub.nil _, trivial⟩) ?_
  refine Qe 1 rfl ?_
  refine Qs rfl rfl (x := some (.box (Scene.cl (⟨(⟨([] : List Cell), ([] : List Arr2_3), 0, 0, 0⟩ : Basin), ([] : List Int), ([] : List Sight), ([] : List Change)⟩ : Scene)))) (Ax.st_box rfl siz_30 rfl rfl rfl rfl rfl rfl rfl) ?_
  refine Qd rfl ?_
  refine Tri.ret ?_
  refine Rr (fun r => .tup [.agg (Scene.cl r.1), Ai r.2]) (fun r => []) [] h ?_ trivial
  rfl
 ·have h := cond_f hb h
  refine Tri.skip ?_
  refine Tr ?_
  refine Qe 1 rfl ?_
  refine Qn rfl rfl rfl (v := .ptr 7 0) (x := some (.box [.lst 4 (([] : List Cell).map Cell.cl), .lst 2 (([] : List Arr2_3).map Arr2_3.cl), Ai 0, Ai 0, Ai 0, .lst 1 (([] : List Int).map icl), .sc (.slice none 0 0), .lst 5 (([] : List Change).map Change.cl)])) (Ax.alloc rfl rfl zer_30 rfl ⟨Sub.nil _, Sub.nil _, Sub.refl _, Sub.refl _, Sub.refl _, Sub.nil _, Sub.refl _, Sub.nil _, trivial⟩) rfl rfl rfl rfl rfl ?_
  refine Qs rfl rfl (x := some (.box (Scene.cl a0))) (Ax.st_box rfl siz_30 rfl rfl rfl rfl rfl rfl rfl) ?_
  refine RunD.done ?_
  refine Tr ?_
  refine Qe 1 rfl ?_
  refine Qs rfl rfl (x := some (.box [.lst 4 (a0.Basin.Cells.map Cell.cl), .lst 2 (a0.Basin.Pairs.map Arr2_3.cl), Ai a0.Basin.Gain, Ai a0.Basin.Slack, Ai a0.Basin.Deep, .lst 1 (a0.Days.map icl), .sc (.slice none 0 0), .lst 5 (a0.Changes.map Change.cl)])) (Ax.st_box rfl siz_27 rfl rfl rfl rfl rfl rfl rfl) ?_
  refine RunD.done ?_
  refine Tri.ent (Ent.ghost 7 6 900000706 64 5 (cells' := [.lst 4 (a0.Basin.Cells.map Cell.cl), .lst 2 (a0.Basin.Pairs.map Arr2_3.cl), Ai a0.Basin.Gain, Ai a0.Basin.Slack, Ai a0.Basin.Deep, .lst 1 (a0.Days.map icl), .hnd 900000706, .lst 5 (a0.Changes.map Change.cl)]) rfl rfl rfl rfl) ?_
  refine Tri.seq ?_
  refine Tp rfl ?_
  obtain ⟨voo7_6_1, hj, h⟩ := bind_some h
  refine Tri.rngLv hj (fun p => ⟨[(1, Ai a1), (2, .ipt (Scene.cl a0) 0), (4, .ptr 4 0), (7, .ptr 7 0), (8, Ai p.1)], [(4, some (.box (Scene.cl (⟨(⟨([] : List Cell), ([] : List Arr2_3), 0, 0, 0⟩ : Basin), ([] : List Int), ([] : List Sight), ([] : List Change)⟩ : Scene)))), (900000706, some (.arr 64 5 (p.2.map Sight.cl))), (7, some (.box [.lst 4 (a0.Basin.Cells.map Cell.cl), .lst 2 (a0.Basin.Pairs.map Arr2_3.cl), Ai a0.Basin.Gain, Ai a0.Basin.Slack, Ai a0.Basin.Deep, .lst 1 (a0.Days.map icl), .hnd 900000706, .lst 5 (a0.Changes.map Change.cl)]))]⟩) (fun (y : List Sight) => ⟨[(4, .ptr 4 0), (7, .ptr 7 0)], [(4, some (.box (Scene.cl (⟨(⟨([] : List Cell), ([] : List Arr2_3), 0, 0, 0⟩ : Basin), ([] : List Int), ([] : List Sight), ([] : List Change)⟩ : Scene)))), (900000706, some (.arr 64 5 (y.map Sight.cl))), (7, some (.box [.lst 4 (a0.Basin.Cells.map Cell.cl), .lst 2 (a0.Basin.Pairs.map Arr2_3.cl), Ai a0.Basin.Gain, Ai a0.Basin.Slack, Ai a0.Basin.Deep, .lst 1 (a0.Days.map icl), .hnd 900000706, .lst 5 (a0.Changes.map Change.cl)]))]⟩) (Ee [4, 900000706, 7] rfl ⟨im_flat Sight_im ([] : List Sight), trivial⟩) ?_ ?_ ?_
  ·refine Tr ?_
   refine Qe 1 rfl ?_
   refine Qs rfl rfl (x := some (.box [.lst 4 (a0.Basin.Cells.map Cell.cl), .lst 2 (a0.Basin.Pairs.map Arr2_3.cl), Ai a0.Basin.Gain, Ai a0.Basin.Slack, Ai a0.Basin.Deep, .lst 1 (a0.Days.map icl), .hnd 900000706, .lst 5 (a0.Changes.map Change.cl)])) (Ax.st_box rfl siz_30 rfl rfl rfl rfl rfl rfl rfl) ?_
   refine Qd rfl ?_
   refine Tri.ret ?_
   refine RetQ.eq2 (fun r => .tup [.agg (Scene.cl r.1), Ai r.2]) (fun r => []) (Option.some.inj h) ?_
   exact RetQ.mk (vs := [.agg [.lst 4 (a0.Basin.Cells.map Cell.cl), .lst 2 (a0.Basin.Pairs.map Arr2_3.cl), Ai a0.Basin.Gain, Ai a0.Basin.Slack, Ai a0.Basin.Deep, .lst 1 (a0.Days.map icl), .hnd 900000706, .lst 5 (a0.Changes.map Change.cl)], Ai 0]) (.inr rfl) ⟨_, _, rfl, .cell_box rfl siz_30 rfl rfl rfl, ⟨_, _, rfl, .tmp rfl, rfl⟩⟩ [900000706] [] rfl rfl trivial (.tupV ⟨.frz (.aggV ⟨(.imm rfl), (.imm rfl), (.imm rfl), (.imm rfl), (.imm rfl), (.imm rfl), (.hnd (List.Mem.head _) rfl (im_flat Sight_im voo7_6_1)), (.imm rfl), trivial⟩) rfl, .rfl' rfl, trivial⟩)
  ·rintro v8 voo7_6 hi h
   refine Tri.seq ?_
   refine Tr ?_
   refine Qe 3 rfl ?_
   refine Q1 rfl rfl rfl (Ax.ln (cl := Sight.cl) rfl slc_27 rfl) ?_
   refine Qd rfl ?_
   refine Tri.cond (b := (decide (v8 < (a0.Sights.length : Int)))) rfl (fun hb_1 => ?_) (fun hb_1 => ?_)
   ·exact (lt_f hi hb_1).elim
   ·refine Tri.exit ?_
    exact Exists.intro voo7_6 (And.intro h (Ee [4, 900000706, 7] rfl ⟨imf Sight_im, trivial⟩))
  ·rintro nx x v8 voo7_6 _ hi hw hx h
   refine Tri.seq ?_
   refine Tr ?_
   refine Qe 3 rfl ?_
   refine Q1 rfl rfl rfl (Ax.ln (cl := Sight.cl) rfl slc_27 rfl) ?_
   refine Qd rfl ?_
   refine Tri.cond (b := (decide (v8 < (a0.Sights.length : Int)))) rfl (fun hb_2 => ?_) (fun hb_2 => ?_)
   ·refine Tri.skip ?_
    refine Tri.seq ?_
    refine Tri.block ?_
    refine Tr ?_
    refine Qe 3 rfl ?_
    refine Q1 rfl rfl rfl (Ax.ix (cl := Sight.cl) rfl slc_27 rfl rfl hx) ?_
    refine Qd rfl ?_
    obtain ⟨voo7_6_2, hj_1, h⟩ := bind_some h
    refine Tri.joinv voo7_6_2 (fun (y : List Sight) => ⟨[(1, Ai a1), (2, .ipt (Scene.cl a0) 0), (4, .ptr 4 0), (7, .ptr 7 0), (8, Ai v8)], [(4, some (.box (Scene.cl (⟨(⟨([] : List Cell), ([] : List Arr2_3), 0, 0, 0⟩ : Basin), ([] : List Int), ([] : List Sight), ([] : List Change)⟩ : Scene)))), (40, some (.arr 64 5 (y.map Sight.cl))), (7, some (.box [.lst 4 (a0.Basin.Cells.map Cell.cl), .lst 2 (a0.Basin.Pairs.map Arr2_3.cl), Ai a0.Basin.Gain, Ai a0.Basin.Slack, Ai a0.Basin.Deep, .lst 1 (a0.Days.map icl), .hnd 40, .lst 5 (a0.Changes.map Change.cl)]))]⟩) ?_ ?_
    ·refine Tq rfl ?_
     exact Exists.intro (v8 + 1, voo7_6_2) (And.intro (And.intro rfl h) (Es [4, 40, 7] [8] rfl ⟨imf Sight_im, trivial⟩ ⟨.imm (Sub.of_eq (show Ai (v8 + 1) = Ai (W (v8 + 1)) from congrArg Ai hw.symm)) rfl, trivial⟩))
    ·have h := hj_1
     refine Tri.cond (b := (x.No != a1)) rfl (fun hb_3 => ?_) (fun hb_3 => ?_)
     ·have h := cond_t hb_3 h
      refine Tri.drawn [[], [0], [], [2], [], [2, 3, 4], [2, 3, 4, 5], [2, 3, 4, 5, 6], [0, 1, 2, 3, 4, 5, 6, 7], [0, 1, 2, 3, 4, 5, 6, 7, 8], [0, 1, 2, 3, 4, 5, 6, 7, 8, 9]] hmix (by kernel_rfl) ?_
      refine Qe 5 rfl ?_
      refine Q1 rfl rfl rfl (Ax.ix (cl := Sight.cl) rfl slc_27 rfl rfl hx) ?_
      refine Qe 1 rfl ?_
      refine Q1 rfl rfl rfl (v := .lst 5 (([x] : List Sight).map Sight.cl)) (Ax.sl (xs := ([x] : List Sight)) rfl slc_27 rfl rfl ⟨Sub.refl _, Sub.refl _, Sub.refl _, Sub.refl _, Sub.refl _, trivial⟩ rfl Sight_len Sight_one Sight_im) ?_
      obtain ⟨z40, hz, h⟩ := bind_some h
      refine Qa rfl rfl rfl (v := .hnd 40) (x := some (.arr 64 5 (z40.map Sight.cl))) (Ax.app_l (cl := Sight.cl) rfl rfl slc_27 rfl rfl rfl Sight_one Sight_im hz rfl rfl) rfl rfl rfl rfl rfl ?_
      refine Qe 1 rfl ?_
      refine Qs rfl rfl (x := some (.box [.lst 4 (a0.Basin.Cells.map Cell.cl), .lst 2 (a0.Basin.Pairs.map Arr2_3.cl), Ai a0.Basin.Gain, Ai a0.Basin.Slack, Ai a0.Basin.Deep, .lst 1 (a0.Days.map icl), .hnd 40, .lst 5 (a0.Changes.map Change.cl)])) (Ax.st_box rfl siz_27 rfl rfl rfl rfl rfl rfl rfl) ?_
      refine RunD.done ⟨by kernel_rfl, freshL_of [40] (by kernel_rfl) (by kernel_rfl), ?_⟩
      exact Exists.intro z40 (And.intro h (Ee [4, 40, 7] rfl ⟨imf Sight_im, trivial⟩))
     ·have h := cond_f hb_3 h
      refine Tri.skip ?_
      exact Exists.intro voo7_6 (And.intro h (Ee [4, 900000706, 7] rfl ⟨imf Sight_im, trivial⟩))
   ·exact (lt_t hi hb_2).elim
theorem f118_ok {K : Nat} {a0 : List Int} {a1 : List Int} {r : Bool} (h : f118 K a0 a1 = some r) : CallOK Tryz.prog 118 [.lst 1 (a0.map icl), .lst 1 (a1.map icl)] [] (Ab r) [] := by
 refine CallOK.of_tri Tryz.func118 rfl rfl (Nat.le_of_ble_eq_true rfl) ?_
 unfold f118 at h
 refine Tp rfl ?_
 refine Tri.seq ?_
 refine Tr ?_
 refine Qe 1 rfl ?_
 refine Q1 rfl rfl rfl (Ax.ln (cl := icl) rfl slc_26 rfl) ?_
 refine Qe 1 rfl ?_
 refine Q1 rfl rfl rfl (Ax.ln (cl := icl) rfl slc_26 rfl) ?_
 refine Qd rfl ?_
 refine Tri.cond (b := ((a0.length : Int) != (a1.length : Int))) rfl (fun hb => ?_) (fun hb => ?_)
 ·have h := cond_t hb h
  refine Tp rfl ?_
  refine Tri.ret ?_
  exact Rb h rfl
 ·have h := cond_f hb h
  refine Tri.skip ?_
  refine Tri.seq ?_
  refine Tp rfl ?_
  obtain ⟨j, hj, h⟩ := jo h
  refine Tri.rngL h (fun p => ⟨[(0, .lst 1 (a0.map icl)), (1, .lst 1 (a1.map icl)), (5, Ai p.1)], []⟩) (fun y => j y = some r) (fun (y : Unit) => ⟨[], []⟩) (E0 rfl) ?_ ?_ ?_
  ·rintro ⟨⟩ h
   subst hj
   refine Tp rfl ?_
   refine Tri.ret ?_
   exact Rb h rfl
  ·rintro v5 ⟨⟩ hi h
   refine Tri.seq ?_
   refine Tr ?_
   refine Qe 2 rfl ?_
   refine Q1 rfl rfl rfl (Ax.ln (cl := icl) rfl slc_26 rfl) ?_
   refine Qd rfl ?_
   refine Tri.cond (b := (decide (v5 < (a0.length : Int)))) rfl (fun hb_1 => ?_) (fun hb_1 => ?_)
   ·exact (lt_f hi hb_1).elim
   ·refine Tri.exit ?_
    exact Exists.intro () (And.intro h (E0 rfl))
  ·rintro nx x v5 ⟨⟩ _ hi hw hx h
   refine Tri.seq ?_
   refine Tr ?_
   refine Qe 2 rfl ?_
   refine Q1 rfl rfl rfl (Ax.ln (cl := icl) rfl slc_26 rfl) ?_
   refine Qd rfl ?_
   refine Tri.cond (b := (decide (v5 < (a0.length : Int)))) rfl (fun hb_2 => ?_) (fun hb_2 => ?_)
   ·refine Tri.skip ?_
    refine Tri.seq ?_
    refine Tri.block ?_
    refine Tri.seq ?_
    refine Tri.drawn [] hmix (by kernel_rfl) ?_
    refine Qe 2 rfl ?_
    refine Q1 rfl rfl rfl (Ax.ix (cl := icl) rfl slc_26 rfl rfl hx) ?_
    refine Qe 3 rfl ?_
    obtain ⟨y, hy, h⟩ := bind_some h
    refine Q1 rfl rfl rfl (Ax.ix (cl := icl) rfl slc_26 rfl rfl hy) ?_
    refine Qe 2 rfl ?_
    refine RunD.done ⟨by kernel_rfl, freshL_of [] (by kernel_rfl) (by kernel_rfl), ?_⟩
    refine Tri.cond (b := (x != y)) rfl (fun hb_3 => ?_) (fun hb_3 => ?_)
    ·have h := cond_t hb_3 h
     refine Tp rfl ?_
     refine Tri.ret ?_
     exact Rb h rfl
    ·have h := cond_f hb_3 h
     refine Tri.skip ?_
     refine Tq rfl ?_
     exact Exists.intro (v5 + 1, ()) (And.intro (And.intro rfl h) (Es0 [5] rfl ⟨.imm (Sub.of_eq (show Ai (v5 + 1) = Ai (W (v5 + 1)) from congrArg Ai hw.symm)) rfl, trivial⟩))
   ·exact (lt_t hi hb_2).elim
theorem f77_ok {K : Nat} {a0 : Scene} {a1 : Scene} {r : Bool} (h : f77 K a0 a1 = some r) : CallOK Tryz.prog 77 [.agg (Scene.cl a0), .agg (Scene.cl a1)] [] (Ab r) [] := by
 refine CallOK.of_tri Tryz.func77 rfl rfl (Nat.le_of_ble_eq_true rfl) ?_
 unfold f77 at h
 refine Tp rfl ?_
 refine Tri.seq ?_
 refine Tri.drawn [[], [0], [], [2], [], [], [0, 1, 4, 5], [0, 1, 2, 3, 4, 5, 6]] hmix (by kernel_rfl) ?_
 refine Qe 4 rfl ?_
 refine Qn rfl rfl rfl (v := .ptr 5 0) (x := some (.box (Basin.cl (⟨([] : List Cell), ([] : List Arr2_3), 0, 0, 0⟩ : Basin)))) (Ax.alloc rfl rfl zer_25 rfl ⟨Sub.nil _, Sub.nil _, Sub.refl _, Sub.refl _, Sub.refl _, trivial⟩) rfl rfl rfl rfl rfl ?_
 refine Qn rfl rfl rfl (v := .ptr 6 0) (x := some (.box (Basin.cl (⟨([] : List Cell), ([] : List Arr2_3), 0, 0, 0⟩ : Basin)))) (Ax.alloc rfl rfl zer_25 rfl ⟨Sub.nil _, Sub.nil _, Sub.refl _, Sub.refl _, Sub.refl _, trivial⟩) rfl rfl rfl rfl rfl ?_
 refine Qs rfl rfl (x := some (.box (Basin.cl a0.Basin))) (Ax.st_box rfl siz_25 rfl rfl rfl rfl rfl rfl rfl) ?_
 refine Qs rfl rfl (x := some (.box (Basin.cl a1.Basin))) (Ax.st_box rfl siz_25 rfl rfl rfl rfl rfl rfl rfl) ?_
 refine RunD.done ⟨by kernel_rfl, freshL_of [5, 6] (by kernel_rfl) (by kernel_rfl), ?_⟩
 refine Tri.seq ?_
 refine Tri.seq ?_
 obtain ⟨v77, hj_4, h⟩ := bind_some h
 refine Tri.joinv v77 (fun (y : Bool) => ⟨[(2, .ipt (Scene.cl a0) 0), (3, .ipt (Scene.cl a1) 0), (5, .ptr 5 0), (6, .ptr 6 0), (77, Ab y)], [(5, some (.box (Basin.cl a0.Basin))), (6, some (.box (Basin.cl a1.Basin)))]⟩) ?_ ?_
 ·refine Tri.cond (b := v77) rfl (fun hb => ?_) (fun hb => ?_)
  ·have h := cond_t hb h
   refine Tp rfl ?_
   refine Tri.ret ?_
   exact Rb h rfl
  ·have h := cond_f hb h
   refine Tri.skip ?_
   refine Tri.seq ?_
   refine Tp rfl ?_
   obtain ⟨j, hj, h⟩ := jo h
   refine Tri.rngL h (fun p => ⟨[(2, .ipt (Scene.cl a0) 0), (3, .ipt (Scene.cl a1) 0), (5, .ptr 5 0), (6, .ptr 6 0), (7, Ai p.1)], [(5, some (.box (Basin.cl a0.Basin))), (6, some (.box (Basin.cl a1.Basin)))]⟩) (fun y => j y = some r) (fun (y : Unit) => ⟨[(2, .ipt (Scene.cl a0) 0), (3, .ipt (Scene.cl a1) 0), (5, .ptr 5 0), (6, .ptr 6 0)], [(5, some (.box (Basin.cl a0.Basin))), (6, some (.box (Basin.cl a1.Basin)))]⟩) (Ee [5, 6] rfl trivial) ?_ ?_ ?_
   ·rintro ⟨⟩ h
    subst hj
    refine Tri.seq ?_
    refine Tp rfl ?_
    obtain ⟨j_1, hj_1, h⟩ := jo h
    refine Tri.rngL h (fun p => ⟨[(2, .ipt (Scene.cl a0) 0), (3, .ipt (Scene.cl a1) 0), (5, .ptr 5 0), (6, .ptr 6 0), (8, Ai p.1)], [(5, some (.box (Basin.cl a0.Basin))), (6, some (.box (Basin.cl a1.Basin)))]⟩) (fun y => j_1 y = some r) (fun (y : Unit) => ⟨[(2, .ipt (Scene.cl a0) 0), (3, .ipt (Scene.cl a1) 0)], []⟩) (Ee [5, 6] rfl trivial) ?_ ?_ ?_
    ·rintro ⟨⟩ h
     subst hj_1
     refine Tri.seq ?_
     refine Tp rfl ?_
     obtain ⟨j_2, hj_2, h⟩ := jo h
     refine Tri.rngL h (fun p => ⟨[(2, .ipt (Scene.cl a0) 0), (3, .ipt (Scene.cl a1) 0), (9, Ai p.1)], []⟩) (fun y => j_2 y = some r) (fun (y : Unit) => ⟨[(2, .ipt (Scene.cl a0) 0), (3, .ipt (Scene.cl a1) 0)], []⟩) (E0 rfl) ?_ ?_ ?_
     ·rintro ⟨⟩ h
      subst hj_2
      refine Tri.seq ?_
      refine Tp rfl ?_
      obtain ⟨j_3, hj_3, h⟩ := jo h
      refine Tri.rngL h (fun p => ⟨[(2, .ipt (Scene.cl a0) 0), (3, .ipt (Scene.cl a1) 0), (10, Ai p.1)], []⟩) (fun y => j_3 y = some r) (fun (y : Unit) => ⟨[], []⟩) (E0 rfl) ?_ ?_ ?_
      ·rintro ⟨⟩ h
       subst hj_3
       refine Tp rfl ?_
       refine Tri.ret ?_
       exact Rb h rfl
      ·rintro v10 ⟨⟩ hi_3 h
       refine Tri.seq ?_
       refine Tr ?_
       refine Qe 3 rfl ?_
       refine Q1 rfl rfl rfl (Ax.ln (cl := Change.cl) rfl slc_28 rfl) ?_
       refine Qd rfl ?_
       refine Tri.cond (b := (decide (v10 < (a0.Changes.length : Int)))) rfl (fun hb_1 => ?_) (fun hb_1 => ?_)
       ·exact (lt_f hi_3 hb_1).elim
       ·refine Tri.exit ?_
        exact Exists.intro () (And.intro h (E0 rfl))
      ·rintro nx_3 x_3 v10 ⟨⟩ _ hi_3 hw_3 hx_3 h
       refine Tri.seq ?_
       refine Tr ?_
       refine Qe 3 rfl ?_
       refine Q1 rfl rfl rfl (Ax.ln (cl := Change.cl) rfl slc_28 rfl) ?_
       refine Qd rfl ?_
       refine Tri.cond (b := (decide (v10 < (a0.Changes.length : Int)))) rfl (fun hb_2 => ?_) (fun hb_2 => ?_)
       ·refine Tri.skip ?_
        refine Tri.seq ?_
        refine Tri.block ?_
        refine Tri.seq ?_
        refine Tri.drawn [] hmix (by kernel_rfl) ?_
        refine Qe 3 rfl ?_
        refine Q1 rfl rfl rfl (Ax.ix (cl := Change.cl) rfl slc_28 rfl rfl hx_3) ?_
        refine Qe 4 rfl ?_
        obtain ⟨y, hy, h⟩ := bind_some h
        refine Q1 rfl rfl rfl (Ax.ix (cl := Change.cl) rfl slc_28 rfl rfl hy) ?_
        refine Qe 1 rfl ?_
        refine Q1 rfl rfl rfl (v := Ab (!(decide (x_3 = y)))) (Ax.nes (xs := [.int .i64 x_3.Cell, .int .i64 x_3.From, .int .i64 x_3.To, .int .i64 x_3.Lo, .int .i64 x_3.Hi]) (ys := [.int .i64 y.Cell, .int .i64 y.From, .int .i64 y.To, .int .i64 y.Lo, .int .i64 y.Hi]) (fsp_67 x_3 y) rfl rfl rfl (eqs_67 x_3 y)) ?_
        refine RunD.done ⟨by kernel_rfl, freshL_of [] (by kernel_rfl) (by kernel_rfl), ?_⟩
        refine Tri.cond (b := (!(decide (x_3 = y)))) rfl (fun hb_3 => ?_) (fun hb_3 => ?_)
        ·have h := cond_t hb_3 h
         refine Tp rfl ?_
         refine Tri.ret ?_
         exact Rb h rfl
        ·have h := cond_f hb_3 h
         refine Tri.skip ?_
         refine Tq rfl ?_
         exact Exists.intro (v10 + 1, ()) (And.intro (And.intro rfl h) (Es0 [10] rfl ⟨.imm (Sub.of_eq (show Ai (v10 + 1) = Ai (W (v10 + 1)) from congrArg Ai hw_3.symm)) rfl, trivial⟩))
       ·exact (lt_t hi_3 hb_2).elim
     ·rintro v9 ⟨⟩ hi_2 h
      refine Tri.seq ?_
      refine Tr ?_
      refine Qe 3 rfl ?_
      refine Q1 rfl rfl rfl (Ax.ln (cl := Sight.cl) rfl slc_27 rfl) ?_
      refine Qd rfl ?_
      refine Tri.cond (b := (decide (v9 < (a0.Sights.length : Int)))) rfl (fun hb_4 => ?_) (fun hb_4 => ?_)
      ·exact (lt_f hi_2 hb_4).elim
      ·refine Tri.exit ?_
       exact Exists.intro () (And.intro h (E0 rfl))
     ·rintro nx_2 x_2 v9 ⟨⟩ _ hi_2 hw_2 hx_2 h
      refine Tri.seq ?_
      refine Tr ?_
      refine Qe 3 rfl ?_
      refine Q1 rfl rfl rfl (Ax.ln (cl := Sight.cl) rfl slc_27 rfl) ?_
      refine Qd rfl ?_
      refine Tri.cond (b := (decide (v9 < (a0.Sights.length : Int)))) rfl (fun hb_5 => ?_) (fun hb_5 => ?_)
      ·refine Tri.skip ?_
       refine Tri.seq ?_
       refine Tri.block ?_
       refine Tri.seq ?_
       refine Tri.drawn [] hmix (by kernel_rfl) ?_
       refine Qe 3 rfl ?_
       refine Q1 rfl rfl rfl (Ax.ix (cl := Sight.cl) rfl slc_27 rfl rfl hx_2) ?_
       refine Qe 4 rfl ?_
       obtain ⟨y_1, hy_1, h⟩ := bind_some h
       refine Q1 rfl rfl rfl (Ax.ix (cl := Sight.cl) rfl slc_27 rfl rfl hy_1) ?_
       refine Qe 1 rfl ?_
       refine Q1 rfl rfl rfl (v := Ab (!(decide (x_2 = y_1)))) (Ax.nes (xs := [.int .i64 x_2.No, .int .i64 x_2.Cell, .int .i64 x_2.Day, .int .i64 x_2.Lo, .int .i64 x_2.Hi]) (ys := [.int .i64 y_1.No, .int .i64 y_1.Cell, .int .i64 y_1.Day, .int .i64 y_1.Lo, .int .i64 y_1.Hi]) (fsp_64 x_2 y_1) rfl rfl rfl (eqs_64 x_2 y_1)) ?_
       refine RunD.done ⟨by kernel_rfl, freshL_of [] (by kernel_rfl) (by kernel_rfl), ?_⟩
       refine Tri.cond (b := (!(decide (x_2 = y_1)))) rfl (fun hb_6 => ?_) (fun hb_6 => ?_)
       ·have h := cond_t hb_6 h
        refine Tp rfl ?_
        refine Tri.ret ?_
        exact Rb h rfl
       ·have h := cond_f hb_6 h
        refine Tri.skip ?_
        refine Tq rfl ?_
        exact Exists.intro (v9 + 1, ()) (And.intro (And.intro rfl h) (Es0 [9] rfl ⟨.imm (Sub.of_eq (show Ai (v9 + 1) = Ai (W (v9 + 1)) from congrArg Ai hw_2.symm)) rfl, trivial⟩))
      ·exact (lt_t hi_2 hb_5).elim
    ·rintro v8 ⟨⟩ hi_1 h
     refine Tri.seq ?_
     refine Tr ?_
     refine Qe 3 rfl ?_
     refine Q1 rfl rfl rfl (Ax.ln (cl := Arr2_3.cl) rfl slc_23 rfl) ?_
     refine Qd rfl ?_
     refine Tri.cond (b := (decide (v8 < (a0.Basin.Pairs.length : Int)))) rfl (fun hb_7 => ?_) (fun hb_7 => ?_)
     ·exact (lt_f hi_1 hb_7).elim
     ·refine Tri.exit ?_
      exact Exists.intro () (And.intro h (E0 rfl))
    ·rintro nx_1 x_1 v8 ⟨⟩ _ hi_1 hw_1 hx_1 h
     refine Tri.seq ?_
     refine Tr ?_
     refine Qe 3 rfl ?_
     refine Q1 rfl rfl rfl (Ax.ln (cl := Arr2_3.cl) rfl slc_23 rfl) ?_
     refine Qd rfl ?_
     refine Tri.cond (b := (decide (v8 < (a0.Basin.Pairs.length : Int)))) rfl (fun hb_8 => ?_) (fun hb_8 => ?_)
     ·refine Tri.skip ?_
      refine Tri.seq ?_
      refine Tri.block ?_
      refine Tri.seq ?_
      refine Tri.drawn [] hmix (by kernel_rfl) ?_
      refine Qe 3 rfl ?_
      refine Q1 rfl rfl rfl (Ax.ix (cl := Arr2_3.cl) rfl slc_23 rfl rfl hx_1) ?_
      refine Qe 4 rfl ?_
      obtain ⟨y_2, hy_2, h⟩ := bind_some h
      refine Q1 rfl rfl rfl (Ax.ix (cl := Arr2_3.cl) rfl slc_23 rfl rfl hy_2) ?_
      refine Qe 1 rfl ?_
      refine Q1 rfl rfl rfl (v := Ab (!(decide (x_1 = y_2)))) (Ax.ne2 rfl ar2_97 rfl rfl (eqa_97 x_1 y_2)) ?_
      refine RunD.done ⟨by kernel_rfl, freshL_of [] (by kernel_rfl) (by kernel_rfl), ?_⟩
      refine Tri.cond (b := (!(decide (x_1 = y_2)))) rfl (fun hb_9 => ?_) (fun hb_9 => ?_)
      ·have h := cond_t hb_9 h
       refine Tp rfl ?_
       refine Tri.ret ?_
       exact Rb h rfl
      ·have h := cond_f hb_9 h
       refine Tri.skip ?_
       refine Tq rfl ?_
       exact Exists.intro (v8 + 1, ()) (And.intro (And.intro rfl h) (Es [5, 6] [8] rfl trivial ⟨.imm (Sub.of_eq (show Ai (v8 + 1) = Ai (W (v8 + 1)) from congrArg Ai hw_1.symm)) rfl, trivial⟩))
     ·exact (lt_t hi_1 hb_8).elim
   ·rintro v7 ⟨⟩ hi h
    refine Tri.seq ?_
    refine Tr ?_
    refine Qe 3 rfl ?_
    refine Q1 rfl rfl rfl (Ax.ln (cl := Cell.cl) rfl slc_22 rfl) ?_
    refine Qd rfl ?_
    refine Tri.cond (b := (decide (v7 < (a0.Basin.Cells.length : Int)))) rfl (fun hb_10 => ?_) (fun hb_10 => ?_)
    ·exact (lt_f hi hb_10).elim
    ·refine Tri.exit ?_
     exact Exists.intro () (And.intro h (Ee [5, 6] rfl trivial))
   ·rintro nx x v7 ⟨⟩ _ hi hw hx h
    refine Tri.seq ?_
    refine Tr ?_
    refine Qe 3 rfl ?_
    refine Q1 rfl rfl rfl (Ax.ln (cl := Cell.cl) rfl slc_22 rfl) ?_
    refine Qd rfl ?_
    refine Tri.cond (b := (decide (v7 < (a0.Basin.Cells.length : Int)))) rfl (fun hb_11 => ?_) (fun hb_11 => ?_)
    ·refine Tri.skip ?_
     refine Tri.seq ?_
     refine Tri.block ?_
     refine Tri.seq ?_
     refine Tri.drawn [] hmix (by kernel_rfl) ?_
     refine Qe 3 rfl ?_
     refine Q1 rfl rfl rfl (Ax.ix (cl := Cell.cl) rfl slc_22 rfl rfl hx) ?_
     refine Qe 4 rfl ?_
     obtain ⟨y_3, hy_3, h⟩ := bind_some h
     refine Q1 rfl rfl rfl (Ax.ix (cl := Cell.cl) rfl slc_22 rfl rfl hy_3) ?_
     refine Qe 1 rfl ?_
     refine Q1 rfl rfl rfl (v := Ab (!(decide (x = y_3)))) (Ax.nes (xs := [.int .i64 x.No, .int .i64 x.Height, .int .i64 x.Aspect, .int .i64 x.Area]) (ys := [.int .i64 y_3.No, .int .i64 y_3.Height, .int .i64 y_3.Aspect, .int .i64 y_3.Area]) (fsp_56 x y_3) rfl rfl rfl (eqs_56 x y_3)) ?_
     refine RunD.done ⟨by kernel_rfl, freshL_of [] (by kernel_rfl) (by kernel_rfl), ?_⟩
     refine Tri.cond (b := (!(decide (x = y_3)))) rfl (fun hb_12 => ?_) (fun hb_12 => ?_)
     ·have h := cond_t hb_12 h
      refine Tp rfl ?_
      refine Tri.ret ?_
      exact Rb h rfl
     ·have h := cond_f hb_12 h
      refine Tri.skip ?_
      refine Tq rfl ?_
      exact Exists.intro (v7 + 1, ()) (And.intro (And.intro rfl h) (Es [5, 6] [7] rfl trivial ⟨.imm (Sub.of_eq (show Ai (v7 + 1) = Ai (W (v7 + 1)) from congrArg Ai hw.symm)) rfl, trivial⟩))
    ·exact (lt_t hi hb_11).elim
 ·have h := hj_4
  refine Tri.region ?_
  refine Qe 6 rfl ?_
  rcases b2 (a0.Basin.Gain != a1.Basin.Gain) with hb_13 | hb_13
  ·have h := cond_t hb_13 h
   refine Qk 20 hb_13 rfl ?_
   refine Qd rfl ?_
   exact Exists.intro true (And.intro h (Ee [5, 6] rfl trivial))
  ·have h := cond_f hb_13 h
   refine Qk 20 hb_13 rfl ?_
   refine Qe 7 rfl ?_
   rcases b2 (a0.Basin.Slack != a1.Basin.Slack) with hb_14 | hb_14
   ·have h := cond_t hb_14 h
    refine Qk 27 hb_14 rfl ?_
    refine Qd rfl ?_
    exact Exists.intro true (And.intro h (Ee [5, 6] rfl trivial))
   ·have h := cond_f hb_14 h
    refine Qk 27 hb_14 rfl ?_
    refine Qe 7 rfl ?_
    rcases b2 (a0.Basin.Deep != a1.Basin.Deep) with hb_15 | hb_15
    ·have h := cond_t hb_15 h
     refine Qk 34 hb_15 rfl ?_
     refine Qd rfl ?_
     exact Exists.intro true (And.intro h (Ee [5, 6] rfl trivial))
    ·have h := cond_f hb_15 h
     refine Qk 34 hb_15 rfl ?_
     refine Qe 2 rfl ?_
     refine Q1 rfl rfl rfl (Ax.ln (cl := Cell.cl) rfl slc_22 rfl) ?_
     refine Qe 2 rfl ?_
     refine Q1 rfl rfl rfl (Ax.ln (cl := Cell.cl) rfl slc_22 rfl) ?_
     refine Qe 3 rfl ?_
     rcases b2 ((a0.Basin.Cells.length : Int) != (a1.Basin.Cells.length : Int)) with hb_16 | hb_16
     ·have h := cond_t hb_16 h
      refine Qk 43 hb_16 rfl ?_
      refine Qd rfl ?_
      exact Exists.intro true (And.intro h (Ee [5, 6] rfl trivial))
     ·have h := cond_f hb_16 h
      refine Qk 43 hb_16 rfl ?_
      refine Qe 2 rfl ?_
      refine Q1 rfl rfl rfl (Ax.ln (cl := Arr2_3.cl) rfl slc_23 rfl) ?_
      refine Qe 2 rfl ?_
      refine Q1 rfl rfl rfl (Ax.ln (cl := Arr2_3.cl) rfl slc_23 rfl) ?_
      refine Qe 3 rfl ?_
      rcases b2 ((a0.Basin.Pairs.length : Int) != (a1.Basin.Pairs.length : Int)) with hb_17 | hb_17
      ·have h := cond_t hb_17 h
       refine Qk 52 hb_17 rfl ?_
       refine Qd rfl ?_
       exact Exists.intro true (And.intro h (Ee [5, 6] rfl trivial))
      ·have h := cond_f hb_17 h
       refine Qk 52 hb_17 rfl ?_
       refine Qe 4 rfl ?_
       obtain ⟨x57, hc, h⟩ := bind_some h
       refine Qc rfl rfl rfl (args := [.lst 1 (a0.Days.map icl), .lst 1 (a1.Days.map icl)]) (r := Ab x57) (calv rfl rfl fnok_118 rfl) (f118_ok hc) rfl ?_
       refine Qe 3 rfl ?_
       rcases b2 (!x57) with hb_18 | hb_18
       ·have h := cond_t hb_18 h
        refine Qk 60 hb_18 rfl ?_
        refine Qd rfl ?_
        exact Exists.intro true (And.intro h (Ee [5, 6] rfl trivial))
       ·have h := cond_f hb_18 h
        refine Qk 60 hb_18 rfl ?_
        refine Qe 2 rfl ?_
        refine Q1 rfl rfl rfl (Ax.ln (cl := Sight.cl) rfl slc_27 rfl) ?_
        refine Qe 2 rfl ?_
        refine Q1 rfl rfl rfl (Ax.ln (cl := Sight.cl) rfl slc_27 rfl) ?_
        refine Qe 3 rfl ?_
        rcases b2 ((a0.Sights.length : Int) != (a1.Sights.length : Int)) with hb_19 | hb_19
        ·have h := cond_t hb_19 h
         refine Qk 69 hb_19 rfl ?_
         refine Qd rfl ?_
         exact Exists.intro true (And.intro h (Ee [5, 6] rfl trivial))
        ·have h := cond_f hb_19 h
         refine Qk 69 hb_19 rfl ?_
         refine Qe 2 rfl ?_
         refine Q1 rfl rfl rfl (Ax.ln (cl := Change.cl) rfl slc_28 rfl) ?_
         refine Qe 2 rfl ?_
         refine Q1 rfl rfl rfl (Ax.ln (cl := Change.cl) rfl slc_28 rfl) ?_
         refine Qd rfl ?_
         exact Exists.intro ((a0.Changes.length : Int) != (a1.Changes.length : Int)) (And.intro h (Ee [5, 6] rfl trivial))
theorem f12_ok {K : Nat} {a0 : Scene} {a1 : Cell} {a2 : Cell} {a3 : Int} {a4 : Sight} {a5 : Int} {r : Bool} (h : f12 K a0 a1 a2 a3 a4 a5 = some r) : CallOK Tryz.prog 12 [.agg (Scene.cl a0), .agg (Cell.cl a1), .agg (Cell.cl a2), Ai a3, .agg (Sight.cl a4), Ai a5] [] (Ab r) [] := by
 refine CallOK.of_tri Tryz.func12 rfl rfl (Nat.le_of_ble_eq_true rfl) ?_
 unfold f12 at h
 refine Tp rfl ?_
 refine Tri.seq ?_
 refine Tr ?_
 obtain ⟨x31, hc, h⟩ := bind_some h
 refine Qc rfl rfl rfl (args := []) (r := Ab x31) (calv rfl rfl fnok_21 rfl) (f21_ok hc) rfl ?_
 refine Qd rfl ?_
 refine Tri.cond (b := (!x31)) rfl (fun hb => ?_) (fun hb => ?_)
 ·have h := cond_t hb h
  refine Tp rfl ?_
  refine Tri.ret ?_
  exact Rb h rfl
 ·have h := cond_f hb h
  refine Tri.skip ?_
  refine Tr ?_
  refine Qe 2 rfl ?_
  obtain ⟨⟨x36_0, x36_1⟩, hc_1, h⟩ := bind_some h
  refine Qc rfl rfl rfl (args := [.agg (Cell.cl a1), .agg (Cell.cl a2)]) (r := .tup [Ab x36_0, Ai x36_1]) (calv rfl rfl fnok_69 rfl) (f69_ok hc_1) rfl ?_
  refine Qd rfl ?_
  refine Tr ?_
  refine Qe 2 rfl ?_
  obtain ⟨⟨x42_0, x42_1⟩, hc_2, h⟩ := bind_some h
  refine Qc rfl rfl rfl (args := [.agg (Cell.cl a1), .agg (Cell.cl a2)]) (r := .tup [Ab x42_0, Ai x42_1]) (calv rfl rfl fnok_70 rfl) (f70_ok hc_2) rfl ?_
  refine Qd rfl ?_
  refine Tr ?_
  refine Qe 3 rfl ?_
  obtain ⟨⟨x49_0, x49_1, x49_2⟩, hc_3, h⟩ := bind_some h
  refine Qc rfl rfl rfl (args := [.agg (Basin.cl a0.Basin), Ai a3]) (r := .tup [Ai x49_0, Ab x49_1, Ai x49_2]) (calv rfl rfl fnok_55 rfl) (f55_ok hc_3) rfl ?_
  refine Qd rfl ?_
  refine Tr ?_
  refine Qe 3 rfl ?_
  obtain ⟨⟨x57_0, x57_1, x57_2⟩, hc_4, h⟩ := bind_some h
  refine Qc rfl rfl rfl (args := [.agg (Basin.cl a0.Basin), Ai a3]) (r := .tup [Ai x57_0, Ab x57_1, Ai x57_2]) (calv rfl rfl fnok_71 rfl) (f71_ok hc_4) rfl ?_
  refine Qd rfl ?_
  refine Tr ?_
  refine Qe 2 rfl ?_
  obtain ⟨⟨x64_0, x64_1⟩, hc_5, h⟩ := bind_some h
  refine Qc rfl rfl rfl (args := [.agg (Scene.cl a0), .agg (Sight.cl a4)]) (r := .tup [.agg (Scene.cl x64_0), Ai x64_1]) (calv rfl rfl fnok_53 rfl) (f53_ok hc_5) rfl ?_
  refine Qe 3 rfl ?_
  refine Qn rfl rfl rfl (v := .ptr 23 0) (x := some (.box (Scene.cl (⟨(⟨([] : List Cell), ([] : List Arr2_3), 0, 0, 0⟩ : Basin), ([] : List Int), ([] : List Sight), ([] : List Change)⟩ : Scene)))) (Ax.alloc rfl rfl zer_30 rfl ⟨Sub.nil _, Sub.nil _, Sub.refl _, Sub.refl _, Sub.refl _, Sub.nil _, Sub.nil _, Sub.nil _, trivial⟩) rfl rfl rfl rfl rfl ?_
  refine Qs rfl rfl (x := some (.box (Scene.cl x64_0))) (Ax.st_box rfl siz_30 rfl rfl rfl rfl rfl rfl rfl) ?_
  refine Qd rfl ?_
  refine Tr ?_
  refine Qe 2 rfl ?_
  obtain ⟨⟨x70_0, x70_1⟩, hc_6, h⟩ := bind_some h
  refine Qc rfl rfl rfl (args := [.agg (Scene.cl a0), .agg (Sight.cl a4)]) (r := .tup [.agg (Scene.cl x70_0), Ai x70_1]) (calv rfl rfl fnok_72 rfl) (f72_ok hc_6) rfl ?_
  refine Qe 3 rfl ?_
  refine Qn rfl rfl rfl (v := .ptr 25 0) (x := some (.box (Scene.cl (⟨(⟨([] : List Cell), ([] : List Arr2_3), 0, 0, 0⟩ : Basin), ([] : List Int), ([] : List Sight), ([] : List Change)⟩ : Scene)))) (Ax.alloc rfl rfl zer_30 rfl ⟨Sub.nil _, Sub.nil _, Sub.refl _, Sub.refl _, Sub.refl _, Sub.nil _, Sub.nil _, Sub.nil _, trivial⟩) rfl rfl rfl rfl rfl ?_
  refine Qs rfl rfl (x := some (.box (Scene.cl x70_0))) (Ax.st_box rfl siz_30 rfl rfl rfl rfl rfl rfl rfl) ?_
  refine Qd rfl ?_
  refine Tr ?_
  refine Qe 2 rfl ?_
  obtain ⟨⟨x76_0, x76_1⟩, hc_7, h⟩ := bind_some h
  refine Qc rfl rfl rfl (args := [.agg (Scene.cl a0), Ai a5]) (r := .tup [.agg (Scene.cl x76_0), Ai x76_1]) (calv rfl rfl fnok_67 rfl) (f67_ok hc_7) rfl ?_
  refine Qe 3 rfl ?_
  refine Qn rfl rfl rfl (v := .ptr 27 0) (x := some (.box (Scene.cl (⟨(⟨([] : List Cell), ([] : List Arr2_3), 0, 0, 0⟩ : Basin), ([] : List Int), ([] : List Sight), ([] : List Change)⟩ : Scene)))) (Ax.alloc rfl rfl zer_30 rfl ⟨Sub.nil _, Sub.nil _, Sub.refl _, Sub.refl _, Sub.refl _, Sub.nil _, Sub.nil _, Sub.nil _, trivial⟩) rfl rfl rfl rfl rfl ?_
  refine Qs rfl rfl (x := some (.box (Scene.cl x76_0))) (Ax.st_box rfl siz_30 rfl rfl rfl rfl rfl rfl rfl) ?_
  refine Qd rfl ?_
  refine Tr ?_
  refine Qe 2 rfl ?_
  obtain ⟨⟨x82_0, x82_1⟩, hc_8, h⟩ := bind_some h
  refine Qc rfl rfl rfl (args := [.agg (Scene.cl a0), Ai a5]) (r := .tup [.agg (Scene.cl x82_0), Ai x82_1]) (calv rfl rfl fnok_73 rfl) (f73_ok hc_8) rfl ?_
  refine Qe 3 rfl ?_
  refine Qn rfl rfl rfl (v := .ptr 29 0) (x := some (.box (Scene.cl (⟨(⟨([] : List Cell), ([] : List Arr2_3), 0, 0, 0⟩ : Basin), ([] : List Int), ([] : List Sight), ([] : List Change)⟩ : Scene)))) (Ax.alloc rfl rfl zer_30 rfl ⟨Sub.nil _, Sub.nil _, Sub.refl _, Sub.refl _, Sub.refl _, Sub.nil _, Sub.nil _, Sub.nil _, trivial⟩) rfl rfl rfl rfl rfl ?_
  refine Qs rfl rfl (x := some (.box (Scene.cl x82_0))) (Ax.st_box rfl siz_30 rfl rfl rfl rfl rfl rfl rfl) ?_
  refine Qd rfl ?_
  refine Tri.seq ?_
  obtain ⟨v12, hj, h⟩ := bind_some h
  refine Tri.joinv v12 (fun (y : Bool) => ⟨[(12, Ab y)], []⟩) ?_ ?_
  ·refine Tri.ret ?_
   exact Rb h rfl
  ·have h := hj
   refine Tri.drawn [[], [0], [0, 1], [], [3], [0, 1, 2, 3, 4], [0, 1, 2, 3, 4, 5], [0, 1, 2, 3, 4, 5, 6], [0, 1, 2, 3, 4, 5, 6, 7], [0, 1, 2, 3, 4, 5, 6, 7, 8], [0, 1, 2, 3, 4, 5, 6, 7], [0, 1, 2, 3, 4, 5, 6, 7, 8, 9, 10], [0, 1, 2, 3, 4, 5, 6, 7, 8, 9, 10, 11], [0, 1, 2, 3, 4, 5, 6, 7, 8, 9, 10, 11, 12], [0, 1, 2, 3, 4, 5, 6, 7, 8, 9, 10, 11, 12, 13], [0, 1, 2, 3, 4, 5, 6, 7, 8, 9, 10, 11, 12, 13, 14], [0, 1, 2, 3, 4, 5, 6, 7, 8, 9, 10, 11, 12, 13, 14], [0, 1, 2, 3, 4, 5, 6, 7, 8, 9, 10, 11, 12, 13, 14, 15, 16], [0, 1, 2, 3, 4, 5, 6, 7, 8, 9, 10, 11, 12, 13, 14, 15, 16, 17], [0, 1, 2, 3, 4, 5, 6, 7, 8, 9, 10, 11, 12, 13, 14, 15, 16, 17, 18], [0, 1, 2, 3, 4, 5, 6, 7, 8, 9, 10, 11, 12, 13, 14, 15, 16, 17, 18, 19], [0, 1, 2, 3, 4, 5, 6, 7, 8, 9, 10, 11, 12, 13, 14, 15, 16, 17, 18, 19], [0, 1, 2, 3, 4, 5, 6, 7, 8, 9, 10, 11, 12, 13, 14, 15, 16, 17, 18, 19, 20, 21], [0, 1, 2, 3, 4, 5, 6, 7, 8, 9, 10, 11, 12, 13, 14, 15, 16, 17, 18, 19, 20, 21, 22], [0, 1, 2, 3, 4, 5, 6, 7, 8, 9, 10, 11, 12, 13, 14, 15, 16, 17, 18, 19, 20, 21, 22, 23], [0, 1, 2, 3, 4, 5, 6, 7, 8, 9, 10, 11, 12, 13, 14, 15, 16, 17, 18, 19, 20, 21, 22, 23, 24], [0, 1, 2, 3, 4, 5, 6, 7, 8, 9, 10, 11, 12, 13, 14, 15, 16, 17, 18, 19, 20, 21, 22, 23, 24], [0, 1, 2, 3, 4, 5, 6, 7, 8, 9, 10, 11, 12, 13, 14, 15, 16, 17, 18, 19, 20, 21, 22, 23, 24, 25, 26], [0, 1, 2, 3, 4, 5, 6, 7, 8, 9, 10, 11, 12, 13, 14, 15, 16, 17, 18, 19, 20, 21, 22, 23, 24, 25, 26, 27], [0, 1, 2, 3, 4, 5, 6, 7, 8, 9, 10, 11, 12, 13, 14, 15, 16, 17, 18, 19, 20, 21, 22, 23, 24, 25, 26, 27, 28], [0, 1, 2, 3, 4, 5, 6, 7, 8, 9, 10, 11, 12, 13, 14, 15, 16, 17, 18, 19, 20, 21, 22, 23, 24, 25, 26, 27, 28, 29], [0, 1, 2, 3, 4, 5, 6, 7, 8, 9, 10, 11, 12, 13, 14, 15, 16, 17, 18, 19, 20, 21, 22, 23, 24, 25, 26, 27, 28, 29], [0, 1, 2, 3, 4, 5, 6, 7, 8, 9, 10, 11, 12, 13, 14, 15, 16, 17, 18, 19, 20, 21, 22, 23, 24, 25, 26, 27, 28, 29, 30, 31], [0, 1, 2, 3, 4, 5, 6, 7, 8, 9, 10, 11, 12, 13, 14, 15, 16, 17, 18, 19, 20, 21, 22, 23, 24, 25, 26, 27, 28, 29, 30, 31, 32], [0, 1, 2, 3, 4, 5, 6, 7, 8, 9, 10, 11, 12, 13, 14, 15, 16, 17, 18, 19, 20, 21, 22, 23, 24, 25, 26, 27, 28, 29, 30, 31, 32, 33], [0, 1, 2, 3, 4, 5, 6, 7, 8, 9, 10, 11, 12, 13, 14, 15, 16, 17, 18, 19, 20, 21, 22, 23, 24, 25, 26, 27, 28, 29, 30, 31, 32, 33, 34], [0, 1, 2, 3, 4, 5, 6, 7, 8, 9, 10, 11, 12, 13, 14, 15, 16, 17, 18, 19, 20, 21, 22, 23, 24, 25, 26, 27, 28, 29, 30, 31, 32, 33, 34], [0, 1, 2, 3, 4, 5, 6, 7, 8, 9, 10, 11, 12, 13, 14, 15, 16, 17, 18, 19, 20, 21, 22, 23, 24, 25, 26, 27, 28, 29, 30, 31, 32, 33, 34, 35, 36], [0, 1, 2, 3, 4, 5, 6, 7, 8, 9, 10, 11, 12, 13, 14, 15, 16, 17, 18, 19, 20, 21, 22, 23, 24, 25, 26, 27, 28, 29, 30, 31, 32, 33, 34, 35, 36, 37], [0, 1, 2, 3, 4, 5, 6, 7, 8, 9, 10, 11, 12, 13, 14, 15, 16, 17, 18, 19, 20, 21, 22, 23, 24, 25, 26, 27, 28, 29, 30, 31, 32, 33, 34, 35, 36, 37, 38], [0, 1, 2, 3, 4, 5, 6, 7, 8, 9, 10, 11, 12, 13, 14, 15, 16, 17, 18, 19, 20, 21, 22, 23, 24, 25, 26, 27, 28, 29, 30, 31, 32, 33, 34, 35, 36, 37, 38, 39], [0, 1, 2, 3, 4, 5, 6, 7, 8, 9, 10, 11, 12, 13, 14, 15, 16, 17, 18, 19, 20, 21, 22, 23, 24, 25, 26, 27, 28, 29, 30, 31, 32, 33, 34, 35, 36, 37, 38, 39], [0, 1, 2, 3, 4, 5, 6, 7, 8, 9, 10, 11, 12, 13, 14, 15, 16, 17, 18, 19, 20, 21, 22, 23, 24, 25, 26, 27, 28, 29, 30, 31, 32, 33, 34, 35, 36, 37, 38, 39, 40, 41], [0, 1, 2, 3, 4, 5, 6, 7, 8, 9, 10, 11, 12, 13, 14, 15, 16, 17, 18, 19, 20, 21, 22, 23, 24, 25, 26, 27, 28, 29, 30, 31, 32, 33, 34, 35, 36, 37, 38, 39, 40, 41, 42], [0, 1, 2, 3, 4, 5, 6, 7, 8, 9, 10, 11, 12, 13, 14, 15, 16, 17, 18, 19, 20, 21, 22, 23, 24, 25, 26, 27, 28, 29, 30, 31, 32, 33, 34, 35, 36, 37, 38, 39, 40, 41, 42, 43], [0, 1, 2, 3, 4, 5, 6, 7, 8, 9, 10, 11, 12, 13, 14, 15, 16, 17, 18, 19, 20, 21, 22, 23, 24, 25, 26, 27, 28, 29, 30, 31, 32, 33, 34, 35, 36, 37, 38, 39, 40, 41, 42, 43, 44], [0, 1, 2, 3, 4, 5, 6, 7, 8, 9, 10, 11, 12, 13, 14, 15, 16, 17, 18, 19, 20, 21, 22, 23, 24, 25, 26, 27, 28, 29, 30, 31, 32, 33, 34, 35, 36, 37, 38, 39, 40, 41, 42, 43, 44], [0, 1, 2, 3, 4, 5, 6, 7, 8, 9, 10, 11, 12, 13, 14, 15, 16, 17, 18, 19, 20, 21, 22, 23, 24, 25, 26, 27, 28, 29, 30, 31, 32, 33, 34, 35, 36, 37, 38, 39, 40, 41, 42, 43, 44, 45, 46], [0, 1, 2, 3, 4, 5, 6, 7, 8, 9, 10, 11, 12, 13, 14, 15, 16, 17, 18, 19, 20, 21, 22, 23, 24, 25, 26, 27, 28, 29, 30, 31, 32, 33, 34, 35, 36, 37, 38, 39, 40, 41, 42, 43, 44, 45, 46, 47], [0, 1, 2, 3, 4, 5, 6, 7, 8, 9, 10, 11, 12, 13, 14, 15, 16, 17, 18, 19, 20, 21, 22, 23, 24, 25, 26, 27, 28, 29, 30, 31, 32, 33, 34, 35, 36, 37, 38, 39, 40, 41, 42, 43, 44, 45, 46, 47, 48], [0, 1, 2, 3, 4, 5, 6, 7, 8, 9, 10, 11, 12, 13, 14, 15, 16, 17, 18, 19, 20, 21, 22, 23, 24, 25, 26, 27, 28, 29, 30, 31, 32, 33, 34, 35, 36, 37, 38, 39, 40, 41, 42, 43, 44, 45, 46, 47, 48, 49], [0, 1, 2, 3, 4, 5, 6, 7, 8, 9, 10, 11, 12, 13, 14, 15, 16, 17, 18, 19, 20, 21, 22, 23, 24, 25, 26, 27, 28, 29, 30, 31, 32, 33, 34, 35, 36, 37, 38, 39, 40, 41, 42, 43, 44, 45, 46, 47, 48, 49], [0, 1, 2, 3, 4, 5, 6, 7, 8, 9, 10, 11, 12, 13, 14, 15, 16, 17, 18, 19, 20, 21, 22, 23, 24, 25, 26, 27, 28, 29, 30, 31, 32, 33, 34, 35, 36, 37, 38, 39, 40, 41, 42, 43, 44, 45, 46, 47, 48, 49, 50, 51], [0, 1, 2, 3, 4, 5, 6, 7, 8, 9, 10, 11, 12, 13, 14, 15, 16, 17, 18, 19, 20, 21, 22, 23, 24, 25, 26, 27, 28, 29, 30, 31, 32, 33, 34, 35, 36, 37, 38, 39, 40, 41, 42, 43, 44, 45, 46, 47, 48, 49, 50, 51, 52], [0, 1, 2, 3, 4, 5, 6, 7, 8, 9, 10, 11, 12, 13, 14, 15, 16, 17, 18, 19, 20, 21, 22, 23, 24, 25, 26, 27, 28, 29, 30, 31, 32, 33, 34, 35, 36, 37, 38, 39, 40, 41, 42, 43, 44, 45, 46, 47, 48, 49, 50, 51, 52, 53], [0, 1, 2, 3, 4, 5, 6, 7, 8, 9, 10, 11, 12, 13, 14, 15, 16, 17, 18, 19, 20, 21, 22, 23, 24, 25, 26, 27, 28, 29, 30, 31, 32, 33, 34, 35, 36, 37, 38, 39, 40, 41, 42, 43, 44, 45, 46, 47, 48, 49, 50, 51, 52, 53, 54], [0, 1, 2, 3, 4, 5, 6, 7, 8, 9, 10, 11, 12, 13, 14, 15, 16, 17, 18, 19, 20, 21, 22, 23, 24, 25, 26, 27, 28, 29, 30, 31, 32, 33, 34, 35, 36, 37, 38, 39, 40, 41, 42, 43, 44, 45, 46, 47, 48, 49, 50, 51, 52, 53, 54], [0, 1, 2, 3, 4, 5, 6, 7, 8, 9, 10, 11, 12, 13, 14, 15, 16, 17, 18, 19, 20, 21, 22, 23, 24, 25, 26, 27, 28, 29, 30, 31, 32, 33, 34, 35, 36, 37, 38, 39, 40, 41, 42, 43, 44, 45, 46, 47, 48, 49, 50, 51, 52, 53, 54, 55, 56], [0, 1, 2, 3, 4, 5, 6, 7, 8, 9, 10, 11, 12, 13, 14, 15, 16, 17, 18, 19, 20, 21, 22, 23, 24, 25, 26, 27, 28, 29, 30, 31, 32, 33, 34, 35, 36, 37, 38, 39, 40, 41, 42, 43, 44, 45, 46, 47, 48, 49, 50, 51, 52, 53, 54, 55, 56, 57], [0, 1, 2, 3, 4, 5, 6, 7, 8, 9, 10, 11, 12, 13, 14, 15, 16, 17, 18, 19, 20, 21, 22, 23, 24, 25, 26, 27, 28, 29, 30, 31, 32, 33, 34, 35, 36, 37, 38, 39, 40, 41, 42, 43, 44, 45, 46, 47, 48, 49, 50, 51, 52, 53, 54, 55, 56, 57, 58]] hmix (by kernel_rfl) ?_
   refine Qe 2 rfl ?_
   obtain ⟨x87, hc_9, h⟩ := bind_some h
   refine Qc rfl rfl rfl (args := [.agg (Basin.cl a0.Basin)]) (r := Ai x87) (calv rfl rfl fnok_74 rfl) (f74_ok hc_9) rfl ?_
   refine Qe 2 rfl ?_
   obtain ⟨x90, hc_10, h⟩ := bind_some h
   refine Qc rfl rfl rfl (args := [.agg (Basin.cl a0.Basin)]) (r := Ai x90) (calv rfl rfl fnok_75 rfl) (f75_ok hc_10) rfl ?_
   refine Qe 2 rfl ?_
   rcases b2 (x87 == x90) with hb_1 | hb_1
   ·have h := cond_t hb_1 h
    refine Qk 92 hb_1 rfl ?_
    refine Qe 1 rfl ?_
    obtain ⟨x94, hc_11, h⟩ := bind_some h
    refine Qc rfl rfl rfl (args := [.agg (Scene.cl a0)]) (r := Ai x94) (calv rfl rfl fnok_66 rfl) (f66_ok hc_11) rfl ?_
    refine Qe 1 rfl ?_
    obtain ⟨x96, hc_12, h⟩ := bind_some h
    refine Qc rfl rfl rfl (args := [.agg (Scene.cl a0)]) (r := Ai x96) (calv rfl rfl fnok_76 rfl) (f76_ok hc_12) rfl ?_
    refine Qe 3 rfl ?_
    rcases b2 (x94 == x96) with hb_2 | hb_2
    ·have h := cond_t hb_2 h
     refine Qk 99 hb_2 rfl ?_
     refine Qe 2 rfl ?_
     refine Q1 rfl rfl rfl (v := Ab (x36_0 == x42_0)) (Ax.bool_eql bol_4 rfl rfl rfl) ?_
     refine Qe 2 rfl ?_
     rcases b2 (x36_0 == x42_0) with hb_3 | hb_3
     ·have h := cond_t hb_3 h
      refine Qk 104 hb_3 rfl ?_
      refine Qe 5 rfl ?_
      rcases b2 (x36_1 == x42_1) with hb_4 | hb_4
      ·have h := cond_t hb_4 h
       refine Qk 109 hb_4 rfl ?_
       refine Qe 5 rfl ?_
       rcases b2 (x49_0 == x57_0) with hb_5 | hb_5
       ·have h := cond_t hb_5 h
        refine Qk 114 hb_5 rfl ?_
        refine Qe 2 rfl ?_
        refine Q1 rfl rfl rfl (v := Ab (x49_1 == x57_1)) (Ax.bool_eql bol_4 rfl rfl rfl) ?_
        refine Qe 2 rfl ?_
        rcases b2 (x49_1 == x57_1) with hb_6 | hb_6
        ·have h := cond_t hb_6 h
         refine Qk 119 hb_6 rfl ?_
         refine Qe 5 rfl ?_
         rcases b2 (x49_2 == x57_2) with hb_7 | hb_7
         ·have h := cond_t hb_7 h
          refine Qk 124 hb_7 rfl ?_
          refine Qe 2 rfl ?_
          obtain ⟨x127, hc_13, h⟩ := bind_some h
          refine Qc rfl rfl rfl (args := [.agg (Scene.cl x64_0), .agg (Scene.cl x70_0)]) (r := Ab x127) (calv rfl rfl fnok_77 rfl) (f77_ok hc_13) rfl ?_
          refine Qe 2 rfl ?_
          rcases b2 x127 with hb_8 | hb_8
          ·have h := cond_t hb_8 h
           refine Qk 129 hb_8 rfl ?_
           refine Qe 5 rfl ?_
           rcases b2 (x64_1 == x70_1) with hb_9 | hb_9
           ·have h := cond_t hb_9 h
            refine Qk 134 hb_9 rfl ?_
            refine Qe 2 rfl ?_
            obtain ⟨x137, hc_14, h⟩ := bind_some h
            refine Qc rfl rfl rfl (args := [.agg (Scene.cl x76_0), .agg (Scene.cl x82_0)]) (r := Ab x137) (calv rfl rfl fnok_77 rfl) (f77_ok hc_14) rfl ?_
            refine Qe 2 rfl ?_
            rcases b2 x137 with hb_10 | hb_10
            ·have h := cond_t hb_10 h
             refine Qk 139 hb_10 rfl ?_
             refine Qe 5 rfl ?_
             refine RunD.done ⟨by kernel_rfl, freshL_of [] (by kernel_rfl) (by kernel_rfl), ?_⟩
             exact Exists.intro (x76_1 == x82_1) (And.intro h (E0 rfl))
            ·have h := cond_f hb_10 h
             refine Qk 139 hb_10 rfl ?_
             refine Qe 5 rfl ?_
             refine RunD.done ⟨by kernel_rfl, freshL_of [] (by kernel_rfl) (by kernel_rfl), ?_⟩
             exact Exists.intro false (And.intro h (E0 rfl))
           ·have h := cond_f hb_9 h
            refine Qk 134 hb_9 rfl ?_
            refine Qe 10 rfl ?_
            refine RunD.done ⟨by kernel_rfl, freshL_of [] (by kernel_rfl) (by kernel_rfl), ?_⟩
            exact Exists.intro false (And.intro h (E0 rfl))
          ·have h := cond_f hb_8 h
           refine Qk 129 hb_8 rfl ?_
           refine Qe 15 rfl ?_
           refine RunD.done ⟨by kernel_rfl, freshL_of [] (by kernel_rfl) (by kernel_rfl), ?_⟩
           exact Exists.intro false (And.intro h (E0 rfl))
         ·have h := cond_f hb_7 h
          refine Qk 124 hb_7 rfl ?_
          refine Qe 20 rfl ?_
          refine RunD.done ⟨by kernel_rfl, freshL_of [] (by kernel_rfl) (by kernel_rfl), ?_⟩
          exact Exists.intro false (And.intro h (E0 rfl))
        ·have h := cond_f hb_6 h
         refine Qk 119 hb_6 rfl ?_
         refine Qe 25 rfl ?_
         refine RunD.done ⟨by kernel_rfl, freshL_of [] (by kernel_rfl) (by kernel_rfl), ?_⟩
         exact Exists.intro false (And.intro h (E0 rfl))
       ·have h := cond_f hb_5 h
        refine Qk 114 hb_5 rfl ?_
        refine Qe 30 rfl ?_
        refine RunD.done ⟨by kernel_rfl, freshL_of [] (by kernel_rfl) (by kernel_rfl), ?_⟩
        exact Exists.intro false (And.intro h (E0 rfl))
      ·have h := cond_f hb_4 h
       refine Qk 109 hb_4 rfl ?_
       refine Qe 35 rfl ?_
       refine RunD.done ⟨by kernel_rfl, freshL_of [] (by kernel_rfl) (by kernel_rfl), ?_⟩
       exact Exists.intro false (And.intro h (E0 rfl))
     ·have h := cond_f hb_3 h
      refine Qk 104 hb_3 rfl ?_
      refine Qe 40 rfl ?_
      refine RunD.done ⟨by kernel_rfl, freshL_of [] (by kernel_rfl) (by kernel_rfl), ?_⟩
      exact Exists.intro false (And.intro h (E0 rfl))
    ·have h := cond_f hb_2 h
     refine Qk 99 hb_2 rfl ?_
     refine Qe 45 rfl ?_
     refine RunD.done ⟨by kernel_rfl, freshL_of [] (by kernel_rfl) (by kernel_rfl), ?_⟩
     exact Exists.intro false (And.intro h (E0 rfl))
   ·have h := cond_f hb_1 h
    refine Qk 92 hb_1 rfl ?_
    refine Qe 52 rfl ?_
    refine RunD.done ⟨by kernel_rfl, freshL_of [] (by kernel_rfl) (by kernel_rfl), ?_⟩
    exact Exists.intro false (And.intro h (E0 rfl))
end Go.Proofs.YthlchdnbokhclaaGreat.Ql

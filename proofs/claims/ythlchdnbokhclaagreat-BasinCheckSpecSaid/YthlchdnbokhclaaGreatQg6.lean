import Derived.Test.YthlchdnbokhclaaGreatQt
import Derived.Test.YthlchdnbokhclaaGreatQg2
import Derived.Test.YthlchdnbokhclaaGreatQg5
import Derived.Test.YthlchdnbokhclaaGreatQg1
import Derived.Test.YthlchdnbokhclaaGreatQg3
import Derived.Test.YthlchdnbokhclaaGreatQg4
set_option linter.all false
namespace Go.Proofs.YthlchdnbokhclaaGreat.Ql
open Go Go.Proofs
set_option maxRecDepth 100000
set_option maxHeartbeats 0
theorem f91_ok {K : Nat} {a0 : Scene} {a1 : Int} {a2 : Int} {a3 : Int} {a4 : Bool} {a5 : List Reason} {r : Int} (h : f91 K a0 a1 a2 a3 a4 a5 = some r) : CallOK Tryz.prog 91 [.agg (Scene.cl a0), Ai a1, Ai a2, Ai a3, Ab a4, .lst 4 (a5.map Reason.cl)] [] (Ai r) [] := by
 refine CallOK.of_tri Tryz.func91 rfl rfl (Nat.le_of_ble_eq_true rfl) ?_
 unfold f91 at h
 refine Tp rfl ?_
 refine Tr ?_
 refine Qe 2 rfl ?_
 refine Q1 rfl rfl rfl (v := .lst 1 (([a1] : List Int).map icl)) (Ax.sl (xs := ([a1] : List Int)) rfl slc_26 rfl rfl ⟨Sub.refl _, trivial⟩ rfl icl_len icl_one icl_im) ?_
 refine Qe 1 rfl ?_
 obtain ⟨⟨x27_0, x27_1⟩, hc, h⟩ := bind_some h
 refine Qc rfl rfl rfl (args := [.agg (Scene.cl a0), .lst 1 (([a1] : List Int).map icl), Ai a2]) (r := .tup [.lst 2 (x27_0.map Spot_basin.cl), Ai x27_1]) (calv rfl rfl fnok_113 rfl) (f113_ok hc) rfl ?_
 refine Qd rfl ?_
 refine Tri.seq ?_
 refine Tp rfl ?_
 refine Tri.cond (b := (x27_1 != 0)) rfl (fun hb => ?_) (fun hb => ?_)
 ·have h := cond_t hb h
  refine Tp rfl ?_
  refine Tri.ret ?_
  exact Ri h rfl
 ·have h := cond_f hb h
  refine Tri.skip ?_
  refine Tr ?_
  refine Qe 1 rfl ?_
  obtain ⟨x34, hc_1, h⟩ := bind_some h
  refine Qc rfl rfl rfl (args := [.agg (Scene.cl a0)]) (r := .ipt (Laid_basin.cl x34) 0) (calv rfl rfl fnok_102 rfl) (f102_ok hc_1) rfl ?_
  refine Qd rfl ?_
  refine Tri.seq ?_
  refine Tr ?_
  refine Qe 1 rfl ?_
  refine Q1 rfl rfl rfl (Ax.ln (cl := Reason.cl) rfl slc_35 rfl) ?_
  refine Qe 1 rfl ?_
  refine Q1 rfl rfl rfl (Ax.nil_ipt rfl rfl) ?_
  refine Qd rfl ?_
  refine Tri.cond (b := (decide ((a5.length : Int) ≥ x34.net.Nodes))) rfl (fun hb_1 => ?_) (fun hb_1 => ?_)
  ·have h := cond_t hb_1 h
   refine Tp rfl ?_
   refine Tri.ret ?_
   exact Ri h rfl
  ·have h := cond_f hb_1 h
   refine Tri.skip ?_
   refine Tr ?_
   refine Qn rfl rfl rfl (v := .hnd 16) (x := some (.arr 3 1 (([] : List Int).map icl))) (Ax.nil_new 3 1 (.inr rfl) rfl) rfl rfl rfl rfl rfl ?_
   refine RunD.done ?_
   refine Tri.seq ?_
   refine Tr ?_
   refine Qe 1 rfl ?_
   refine Q1 rfl rfl rfl (Ax.ln (cl := Reason.cl) rfl slc_35 rfl) ?_
   refine Qd rfl ?_
   obtain ⟨j, hj, h⟩ := jo h
   refine Tri.rngL h (fun p => ⟨[(3, Ai a3), (4, Ab a4), (13, .lst 2 (x27_0.map Spot_basin.cl)), (15, .ipt (Laid_basin.cl x34) 0), (16, .hnd 16), (43, .lst 4 (a5.map Reason.cl)), (44, Ai (a5.length : Int)), (45, Ai p.1)], [(16, some (.arr 3 1 (p.2.map icl)))]⟩) (fun y => j y = some r) (fun (y : List Int) => ⟨[(3, Ai a3), (4, Ab a4), (13, .lst 2 (x27_0.map Spot_basin.cl)), (15, .ipt (Laid_basin.cl x34) 0), (16, .hnd 16)], [(16, some (.arr 3 1 (y.map icl)))]⟩) (Ee [16] rfl ⟨im_flat icl_im ([] : List Int), trivial⟩) ?_ ?_ ?_
   ·rintro vo16_1 h
    subst hj
    refine Tri.seq ?_
    refine Tri.drawn [[], [], [1], [1, 2], [1, 2, 3], [], [5], [5, 6], [5, 6, 7], [0, 1, 2, 3, 4, 5, 6, 7, 8], [0, 1, 2, 3, 4, 5, 6, 7, 8, 9], [0, 1, 2, 3, 4, 5, 6, 7, 8, 9, 10]] hmix (by kernel_rfl) ?_
    refine Qe 2 rfl ?_
    obtain ⟨y, hy, h⟩ := bind_some h
    refine Q1 rfl rfl rfl (Ax.ix (cl := Spot_basin.cl) rfl slc_180 rfl rfl hy) ?_
    refine Qe 3 rfl ?_
    refine Q1 rfl rfl rfl (Ax.ix (cl := Spot_basin.cl) rfl slc_180 rfl rfl hy) ?_
    refine Qe 2 rfl ?_
    obtain ⟨x68, hc_2, h⟩ := bind_some h
    refine Qc rfl rfl rfl (args := [.ipt (Laid_basin.cl x34) 0, Ai y.cell, Ai y.day]) (r := Ai x68) (calv rfl rfl fnok_202 rfl) (f202_ok hc_2) rfl ?_
    refine Qe 2 rfl ?_
    refine RunD.done ⟨by kernel_rfl, freshL_of [] (by kernel_rfl) (by kernel_rfl), ?_⟩
    refine Tri.seq ?_
    refine Tp rfl ?_
    obtain ⟨⟨v3, v20, v21⟩, hj_1, h⟩ := bind_some h
    refine Tri.joinv (v3, v20, v21) (fun (y : Int × Int × Int) => ⟨[(3, Ai y.1), (15, .ipt (Laid_basin.cl x34) 0), (16, .hnd 16), (20, Ai y.2.1), (21, Ai y.2.2)], [(16, some (.arr 3 1 (vo16_1.map icl)))]⟩) ?_ ?_
    ·refine Tr ?_
     refine Qe 1 rfl ?_
     refine Q1 rfl rfl rfl (Ax.nil_ipt rfl rfl) ?_
     refine Qe 6 rfl ?_
     obtain ⟨x83, hc_3, h⟩ := bind_some h
     refine Ql [16] rfl rfl rfl (args := [.agg (Net.cl x34.net), Ai v20, Ai v21, Ai v3, .hnd 16]) (args' := [.agg (Net.cl x34.net), Ai v20, Ai v21, Ai v3, .lst 1 (vo16_1.map icl)]) (r := Ai x83) (calv rfl rfl fnok_204 rfl) ⟨.im rfl, .imm rfl, .imm rfl, .imm rfl, .hnd (List.Mem.head _) rfl (im_flat icl_im vo16_1), trivial⟩ (f204_ok hc_3) rfl rfl ?_
     refine Qd rfl ?_
     refine Tri.ret ?_
     exact Ri h rfl
    ·have h := hj_1
     refine Tri.cond (b := (!a4)) rfl (fun hb_2 => ?_) (fun hb_2 => ?_)
     ·have h := cond_t hb_2 h
      refine Tri.region ?_
      refine Qe 3 rfl ?_
      obtain ⟨x74, hc_4, h⟩ := bind_some h
      refine Qc rfl rfl rfl (args := [Ai a3]) (r := Ai x74) (calv rfl rfl fnok_203 rfl) (f203_ok hc_4) rfl ?_
      refine Qd rfl ?_
      exact Exists.intro (x74, x68, 0) (And.intro h (Ee [16] rfl ⟨imf icl_im, trivial⟩))
     ·have h := cond_f hb_2 h
      refine Tri.skip ?_
      exact Exists.intro (a3, 0, x68) (And.intro h (Ee [16] rfl ⟨imf icl_im, trivial⟩))
   ·rintro v45 vo16 hi h
    refine Tp rfl ?_
    refine Tri.seq ?_
    refine Tri.cond (b := (decide (v45 < (a5.length : Int)))) rfl (fun hb_3 => ?_) (fun hb_3 => ?_)
    ·exact (lt_f hi hb_3).elim
    ·refine Tri.exit ?_
     exact Exists.intro vo16 (And.intro h (Ee [16] rfl ⟨imf icl_im, trivial⟩))
   ·rintro nx x v45 vo16 _ hi hw hx h
    refine Tp rfl ?_
    refine Tri.seq ?_
    refine Tri.cond (b := (decide (v45 < (a5.length : Int)))) rfl (fun hb_4 => ?_) (fun hb_4 => ?_)
    ·refine Tri.skip ?_
     refine Tri.seq ?_
     refine Tri.block ?_
     refine Tr ?_
     refine Q1 rfl rfl rfl (Ax.ix (cl := Reason.cl) rfl slc_35 rfl rfl hx) ?_
     refine Qe 1 rfl ?_
     refine Qn rfl rfl rfl (v := .ptr 18 0) (x := some (.box (Reason.cl (⟨0, 0, 0, false⟩ : Reason)))) (Ax.alloc rfl rfl zer_42 rfl ⟨Sub.refl _, Sub.refl _, Sub.refl _, Sub.refl _, trivial⟩) rfl rfl rfl rfl rfl ?_
     refine Qs rfl rfl (x := some (.box (Reason.cl x))) (Ax.st_box rfl siz_42 rfl rfl rfl rfl rfl rfl rfl) ?_
     refine RunD.done ?_
     refine Tr ?_
     refine Qe 2 rfl ?_
     obtain ⟨x51, hc_5, h⟩ := bind_some h
     refine Qc rfl rfl rfl (args := [.ipt (Laid_basin.cl x34) 0, .agg (Reason.cl x)]) (r := Ai x51) (calv rfl rfl fnok_201 rfl) (f201_ok hc_5) rfl ?_
     refine Qd rfl ?_
     refine Tri.seq ?_
     refine Tp rfl ?_
     refine Tri.cond (b := (decide (x51 < 0))) rfl (fun hb_5 => ?_) (fun hb_5 => ?_)
     ·have h := cond_t hb_5 h
      refine Tp rfl ?_
      refine Tri.ret ?_
      exact Ri h rfl
     ·have h := cond_f hb_5 h
      refine Tri.skip ?_
      refine Tri.region ?_
      refine Qe 2 rfl ?_
      refine Q1 rfl rfl rfl (v := .lst 1 (([x51] : List Int).map icl)) (Ax.sl (xs := ([x51] : List Int)) rfl slc_26 rfl rfl ⟨Sub.refl _, trivial⟩ rfl icl_len icl_one icl_im) ?_
      obtain ⟨z57, hz, h⟩ := bind_some h
      refine Qa rfl rfl rfl (v := .hnd 57) (x := some (.arr 3 1 (z57.map icl))) (Ax.app_l (cl := icl) rfl rfl slc_26 rfl rfl rfl icl_one icl_im hz rfl rfl) rfl rfl rfl rfl rfl ?_
      refine Qd rfl ?_
      refine Tq rfl ?_
      exact Exists.intro (v45 + 1, z57) (And.intro (And.intro rfl h) (Es [57] [45] rfl ⟨imf icl_im, trivial⟩ ⟨.imm (Sub.of_eq (show Ai (v45 + 1) = Ai (W (v45 + 1)) from congrArg Ai hw.symm)) rfl, trivial⟩))
    ·exact (lt_t hi hb_4).elim
theorem f100_ok {K : Nat} {r : Scene} (h : f100 K  = some r) : CallOK Tryz.prog 100 [] [] (.agg (Scene.cl r)) [] := by
 refine CallOK.of_tri Tryz.func100 rfl rfl (Nat.le_of_ble_eq_true rfl) ?_
 unfold f100 at h
 refine Tr ?_
 refine Qn rfl rfl rfl (v := .ptr 0 0) (x := some (.box (Scene.cl (⟨(⟨([] : List Cell), ([] : List Arr2_3), 0, 0, 0⟩ : Basin), ([] : List Int), ([] : List Sight), ([] : List Change)⟩ : Scene)))) (Ax.alloc rfl rfl zer_30 rfl ⟨Sub.nil _, Sub.nil _, Sub.refl _, Sub.refl _, Sub.refl _, Sub.nil _, Sub.nil _, Sub.nil _, trivial⟩) rfl rfl rfl rfl rfl ?_
 refine RunD.done ?_
 refine Tr ?_
 refine Q1 rfl rfl rfl (v := .agg (Cell.cl (⟨1, 1000, 0, 10⟩ : Cell))) (Ax.build rfl zer_56 (bld plc_56 zer_56) rfl ⟨Sub.refl _, Sub.refl _, Sub.refl _, Sub.refl _, trivial⟩) ?_
 refine Q1 rfl rfl rfl (v := .agg (Cell.cl (⟨2, 1200, 1, 20⟩ : Cell))) (Ax.build rfl zer_56 (bld plc_56 zer_56) rfl ⟨Sub.refl _, Sub.refl _, Sub.refl _, Sub.refl _, trivial⟩) ?_
 refine Q1 rfl rfl rfl (v := .lst 4 (([(⟨1, 1000, 0, 10⟩ : Cell), (⟨2, 1200, 1, 20⟩ : Cell)] : List Cell).map Cell.cl)) (Ax.sl (xs := ([(⟨1, 1000, 0, 10⟩ : Cell), (⟨2, 1200, 1, 20⟩ : Cell)] : List Cell)) rfl slc_22 rfl rfl ⟨Sub.refl _, Sub.refl _, Sub.refl _, Sub.refl _, Sub.refl _, Sub.refl _, Sub.refl _, Sub.refl _, trivial⟩ rfl Cell_len Cell_one Cell_im) ?_
 refine Q1 rfl rfl rfl (v := .agg (Arr2_3.cl (⟨0, 1⟩ : Arr2_3))) (Ax.build rfl zer_97 (blda pla_97 zer_97) rfl ⟨Sub.refl _, Sub.refl _, trivial⟩) ?_
 refine Q1 rfl rfl rfl (v := .lst 2 (([(⟨0, 1⟩ : Arr2_3)] : List Arr2_3).map Arr2_3.cl)) (Ax.sl (xs := ([(⟨0, 1⟩ : Arr2_3)] : List Arr2_3)) rfl slc_23 rfl rfl ⟨Sub.refl _, Sub.refl _, trivial⟩ rfl Arr2_3_len Arr2_3_one Arr2_3_im) ?_
 refine Q1 rfl rfl rfl (v := .agg (Basin.cl (⟨([(⟨1, 1000, 0, 10⟩ : Cell), (⟨2, 1200, 1, 20⟩ : Cell)] : List Cell), ([(⟨0, 1⟩ : Arr2_3)] : List Arr2_3), 50, 30, 900⟩ : Basin))) (Ax.build rfl zer_25 (bld plc_25 zer_25) rfl ⟨Sub.refl _, Sub.refl _, Sub.refl _, Sub.refl _, Sub.refl _, trivial⟩) ?_
 refine Qn rfl rfl rfl (v := .ptr 1 0) (x := some (.box (Basin.cl (⟨([] : List Cell), ([] : List Arr2_3), 0, 0, 0⟩ : Basin)))) (Ax.alloc rfl rfl zer_25 rfl ⟨Sub.nil _, Sub.nil _, Sub.refl _, Sub.refl _, Sub.refl _, trivial⟩) rfl rfl rfl rfl rfl ?_
 refine Qs rfl rfl (x := some (.box (Basin.cl (⟨([(⟨1, 1000, 0, 10⟩ : Cell), (⟨2, 1200, 1, 20⟩ : Cell)] : List Cell), ([(⟨0, 1⟩ : Arr2_3)] : List Arr2_3), 50, 30, 900⟩ : Basin)))) (Ax.st_box rfl siz_25 rfl rfl rfl rfl rfl rfl rfl) ?_
 refine RunD.done ?_
 refine Tr ?_
 refine Qe 1 rfl ?_
 refine Q1 rfl rfl rfl (v := .lst 1 (([5] : List Int).map icl)) (Ax.sl (xs := ([5] : List Int)) rfl slc_26 rfl rfl ⟨Sub.refl _, trivial⟩ rfl icl_len icl_one icl_im) ?_
 refine Q1 rfl rfl rfl (v := .agg (Sight.cl (⟨7, 1, 5, 200, 210⟩ : Sight))) (Ax.build rfl zer_64 (bld plc_64 zer_64) rfl ⟨Sub.refl _, Sub.refl _, Sub.refl _, Sub.refl _, Sub.refl _, trivial⟩) ?_
 refine Q1 rfl rfl rfl (v := .lst 5 (([(⟨7, 1, 5, 200, 210⟩ : Sight)] : List Sight).map Sight.cl)) (Ax.sl (xs := ([(⟨7, 1, 5, 200, 210⟩ : Sight)] : List Sight)) rfl slc_27 rfl rfl ⟨Sub.refl _, Sub.refl _, Sub.refl _, Sub.refl _, Sub.refl _, trivial⟩ rfl Sight_len Sight_one Sight_im) ?_
 refine Q1 rfl rfl rfl (v := .agg (Scene.cl (⟨(⟨([(⟨1, 1000, 0, 10⟩ : Cell), (⟨2, 1200, 1, 20⟩ : Cell)] : List Cell), ([(⟨0, 1⟩ : Arr2_3)] : List Arr2_3), 50, 30, 900⟩ : Basin), ([5] : List Int), ([(⟨7, 1, 5, 200, 210⟩ : Sight)] : List Sight), ([] : List Change)⟩ : Scene))) (Ax.build rfl zer_30 (bld plc_30 zer_30) rfl ⟨Sub.refl _, Sub.refl _, Sub.refl _, Sub.refl _, Sub.refl _, Sub.refl _, Sub.refl _, Sub.nil _, trivial⟩) ?_
 refine Qs rfl rfl (x := some (.box (Scene.cl (⟨(⟨([(⟨1, 1000, 0, 10⟩ : Cell), (⟨2, 1200, 1, 20⟩ : Cell)] : List Cell), ([(⟨0, 1⟩ : Arr2_3)] : List Arr2_3), 50, 30, 900⟩ : Basin), ([5] : List Int), ([(⟨7, 1, 5, 200, 210⟩ : Sight)] : List Sight), ([] : List Change)⟩ : Scene)))) (Ax.st_box rfl siz_30 rfl rfl rfl rfl rfl rfl rfl) ?_
 refine RunD.done ?_
 refine Tri.ret ?_
 refine Rr (fun r => .agg (Scene.cl r)) (fun r => []) [] h ?_ trivial
 rfl
theorem f101_ok {K : Nat} {a0 : List Int} {a1 : List Int} {r : Bool} (h : f101 K a0 a1 = some r) : CallOK Tryz.prog 101 [.lst 1 (a0.map icl), .lst 1 (a1.map icl)] [] (Ab r) [] := by
 refine CallOK.of_tri Tryz.func101 rfl rfl (Nat.le_of_ble_eq_true rfl) ?_
 unfold f101 at h
 refine Tp rfl ?_
 refine Tri.seq ?_
 refine Tr ?_
 refine Qe 1 rfl ?_
 refine Q1 rfl rfl rfl (Ax.ln (cl := icl) rfl slc_26 rfl) ?_
 refine Qe 1 rfl ?_
 refine Q1 rfl rfl rfl (Ax.ln (cl := icl) rfl slc_26 rfl) ?_
 refine Qd rfl ?_
 refine Tri.cond (b := ((a0.length : Int) != (a1.length : Int))) rfl (fun hb => ?_) (fun hb => ?_)
 ·have h := cond_t hb h
  refine Tp rfl ?_
  refine Tri.ret ?_
  exact Rb h rfl
 ·have h := cond_f hb h
  refine Tri.skip ?_
  refine Tri.seq ?_
  refine Tr ?_
  refine Qe 1 rfl ?_
  refine Q1 rfl rfl rfl (Ax.ln (cl := icl) rfl slc_26 rfl) ?_
  refine Qd rfl ?_
  obtain ⟨j, hj, h⟩ := jo h
  refine Tri.rngL h (fun p => ⟨[(0, .lst 1 (a0.map icl)), (1, .lst 1 (a1.map icl)), (12, Ai (a0.length : Int)), (13, Ai p.1)], []⟩) (fun y => j y = some r) (fun (y : Unit) => ⟨[], []⟩) (E0 rfl) ?_ ?_ ?_
  ·rintro ⟨⟩ h
   subst hj
   refine Tp rfl ?_
   refine Tri.ret ?_
   exact Rb h rfl
  ·rintro v13 ⟨⟩ hi h
   refine Tp rfl ?_
   refine Tri.seq ?_
   refine Tri.cond (b := (decide (v13 < (a0.length : Int)))) rfl (fun hb_1 => ?_) (fun hb_1 => ?_)
   ·exact (lt_f hi hb_1).elim
   ·refine Tri.exit ?_
    exact Exists.intro () (And.intro h (E0 rfl))
  ·rintro nx x v13 ⟨⟩ _ hi hw hx h
   refine Tp rfl ?_
   refine Tri.seq ?_
   refine Tri.cond (b := (decide (v13 < (a0.length : Int)))) rfl (fun hb_2 => ?_) (fun hb_2 => ?_)
   ·refine Tri.skip ?_
    refine Tri.seq ?_
    refine Tri.block ?_
    refine Tp rfl ?_
    refine Tri.seq ?_
    refine Tri.drawn [] hmix (by kernel_rfl) ?_
    refine Qe 2 rfl ?_
    refine Q1 rfl rfl rfl (Ax.ix (cl := icl) rfl slc_26 rfl rfl hx) ?_
    refine Qe 3 rfl ?_
    obtain ⟨y, hy, h⟩ := bind_some h
    refine Q1 rfl rfl rfl (Ax.ix (cl := icl) rfl slc_26 rfl rfl hy) ?_
    refine Qe 2 rfl ?_
    refine RunD.done ⟨by kernel_rfl, freshL_of [] (by kernel_rfl) (by kernel_rfl), ?_⟩
    refine Tri.cond (b := (x != y)) rfl (fun hb_3 => ?_) (fun hb_3 => ?_)
    ·have h := cond_t hb_3 h
     refine Tp rfl ?_
     refine Tri.ret ?_
     exact Rb h rfl
    ·have h := cond_f hb_3 h
     refine Tri.skip ?_
     refine Tq rfl ?_
     exact Exists.intro (v13 + 1, ()) (And.intro (And.intro rfl h) (Es0 [13] rfl ⟨.imm (Sub.of_eq (show Ai (v13 + 1) = Ai (W (v13 + 1)) from congrArg Ai hw.symm)) rfl, trivial⟩))
   ·exact (lt_t hi hb_2).elim
theorem f21_ok {K : Nat} {r : Bool} (h : f21 K  = some r) : CallOK Tryz.prog 21 [] [] (Ab r) [] := by
 refine CallOK.of_tri Tryz.func21 rfl rfl (Nat.le_of_ble_eq_true rfl) ?_
 unfold f21 at h
 refine Tp rfl ?_
 refine Tr ?_
 obtain ⟨x20, hc, h⟩ := bind_some h
 refine Qc rfl rfl rfl (args := []) (r := .agg (Scene.cl x20)) (calv rfl rfl fnok_100 rfl) (f100_ok hc) rfl ?_
 refine Qn rfl rfl rfl (v := .ptr 1 0) (x := some (.box (Scene.cl (⟨(⟨([] : List Cell), ([] : List Arr2_3), 0, 0, 0⟩ : Basin), ([] : List Int), ([] : List Sight), ([] : List Change)⟩ : Scene)))) (Ax.alloc rfl rfl zer_30 rfl ⟨Sub.nil _, Sub.nil _, Sub.refl _, Sub.refl _, Sub.refl _, Sub.nil _, Sub.nil _, Sub.nil _, trivial⟩) rfl rfl rfl rfl rfl ?_
 refine Qs rfl rfl (x := some (.box (Scene.cl x20))) (Ax.st_box rfl siz_30 rfl rfl rfl rfl rfl rfl rfl) ?_
 refine RunD.done ?_
 refine Tr ?_
 refine Qe 2 rfl ?_
 obtain ⟨⟨x24_0, x24_1, x24_2⟩, hc_1, h⟩ := bind_some h
 refine Qc rfl rfl rfl (args := [.agg (Basin.cl x20.Basin), Ai 0]) (r := .tup [Ai x24_0, Ab x24_1, Ai x24_2]) (calv rfl rfl fnok_55 rfl) (f55_ok hc_1) rfl ?_
 refine Qd rfl ?_
 refine Tr ?_
 refine Qe 1 rfl ?_
 obtain ⟨⟨x30_0, x30_1⟩, hc_2, h⟩ := bind_some h
 refine Qc rfl rfl rfl (args := [.agg (Scene.cl x20), Ai 2, Ai 5]) (r := .tup [.agg (Span.cl x30_0), Ai x30_1]) (calv rfl rfl fnok_33 rfl) (f33_ok hc_2) rfl ?_
 refine Qe 3 rfl ?_
 refine Qn rfl rfl rfl (v := .ptr 5 0) (x := some (.box (Span.cl (⟨0, 0⟩ : Span)))) (Ax.alloc rfl rfl zer_49 rfl ⟨Sub.refl _, Sub.refl _, trivial⟩) rfl rfl rfl rfl rfl ?_
 refine Qs rfl rfl (x := some (.box (Span.cl x30_0))) (Ax.st_box rfl siz_49 rfl rfl rfl rfl rfl rfl rfl) ?_
 refine Qd rfl ?_
 refine Tr ?_
 refine Qe 1 rfl ?_
 refine Q1 rfl rfl rfl (v := .lst 1 (([1, 2] : List Int).map icl)) (Ax.sl (xs := ([1, 2] : List Int)) rfl slc_26 rfl rfl ⟨Sub.refl _, Sub.refl _, trivial⟩ rfl icl_len icl_one icl_im) ?_
 obtain ⟨⟨x36_0, x36_1⟩, hc_3, h⟩ := bind_some h
 refine Qc rfl rfl rfl (args := [.agg (Scene.cl x20), .lst 1 (([1, 2] : List Int).map icl), Ai 5]) (r := .tup [.agg (Span.cl x36_0), Ai x36_1]) (calv rfl rfl fnok_39 rfl) (f39_ok hc_3) rfl ?_
 refine Qe 3 rfl ?_
 refine Qn rfl rfl rfl (v := .ptr 7 0) (x := some (.box (Span.cl (⟨0, 0⟩ : Span)))) (Ax.alloc rfl rfl zer_49 rfl ⟨Sub.refl _, Sub.refl _, trivial⟩) rfl rfl rfl rfl rfl ?_
 refine Qs rfl rfl (x := some (.box (Span.cl x36_0))) (Ax.st_box rfl siz_49 rfl rfl rfl rfl rfl rfl rfl) ?_
 refine Qd rfl ?_
 refine Tr ?_
 refine Qe 1 rfl ?_
 obtain ⟨⟨x41_0, x41_1, x41_2⟩, hc_4, h⟩ := bind_some h
 refine Qc rfl rfl rfl (args := [.agg (Scene.cl x20)]) (r := .tup [.agg (Net.cl x41_0), .lst 4 (x41_1.map Reason.cl), Ai x41_2]) (calv rfl rfl fnok_22 rfl) (f22_ok hc_4) rfl ?_
 refine Qe 4 rfl ?_
 refine Qn rfl rfl rfl (v := .ptr 9 0) (x := some (.box (Net.cl (⟨0, ([] : List Diff)⟩ : Net)))) (Ax.alloc rfl rfl zer_34 rfl ⟨Sub.refl _, Sub.nil _, trivial⟩) rfl rfl rfl rfl rfl ?_
 refine Qs rfl rfl (x := some (.box (Net.cl x41_0))) (Ax.st_box rfl siz_34 rfl rfl rfl rfl rfl rfl rfl) ?_
 refine Qd rfl ?_
 refine Tri.seq ?_
 refine Tri.seq ?_
 refine Tri.join1 ⟨[(1, .ptr 1 0), (92, Ab ((x24_0 != 130) || ((!x24_1) || ((x24_2 != 0) || ((!(decide (x30_0 = (⟨200, 340⟩ : Span)))) || ((x30_1 != 0) || ((!(decide (x36_0 = (⟨6000, 8900⟩ : Span)))) || ((x36_1 != 0) || ((x41_2 != 0) || ((x41_0.Nodes != 3) || (((x41_0.Diffs.length : Int) != 8) || ((x41_1.length : Int) != 8))))))))))))], [(1, some (.box (Scene.cl x20)))]⟩ ?_ ?_
 ·refine Tri.cond (b := ((x24_0 != 130) || ((!x24_1) || ((x24_2 != 0) || ((!(decide (x30_0 = (⟨200, 340⟩ : Span)))) || ((x30_1 != 0) || ((!(decide (x36_0 = (⟨6000, 8900⟩ : Span)))) || ((x36_1 != 0) || ((x41_2 != 0) || ((x41_0.Nodes != 3) || (((x41_0.Diffs.length : Int) != 8) || ((x41_1.length : Int) != 8)))))))))))) rfl (fun hb => ?_) (fun hb => ?_)
  ·have h := cond_t hb h
   refine Tp rfl ?_
   refine Tri.ret ?_
   exact Rb h rfl
  ·have h := cond_f hb h
   refine Tri.skip ?_
   refine Tr ?_
   refine Q1 rfl rfl rfl (v := .agg (Reason.cl (⟨5, 0, 0, true⟩ : Reason))) (Ax.build rfl zer_42 (bld plc_42 zer_42) rfl ⟨Sub.refl _, Sub.refl _, Sub.refl _, Sub.refl _, trivial⟩) ?_
   refine Q1 rfl rfl rfl (v := .agg (Reason.cl (⟨3, 0, 5, false⟩ : Reason))) (Ax.build rfl zer_42 (bld plc_42 zer_42) rfl ⟨Sub.refl _, Sub.refl _, Sub.refl _, Sub.refl _, trivial⟩) ?_
   refine Q1 rfl rfl rfl (v := .lst 4 (([(⟨5, 0, 0, true⟩ : Reason), (⟨3, 0, 5, false⟩ : Reason)] : List Reason).map Reason.cl)) (Ax.sl (xs := ([(⟨5, 0, 0, true⟩ : Reason), (⟨3, 0, 5, false⟩ : Reason)] : List Reason)) rfl slc_35 rfl rfl ⟨Sub.refl _, Sub.refl _, Sub.refl _, Sub.refl _, Sub.refl _, Sub.refl _, Sub.refl _, Sub.refl _, trivial⟩ rfl Reason_len Reason_one Reason_im) ?_
   refine Qd rfl ?_
   refine Tri.seq ?_
   refine Tri.seq ?_
   obtain ⟨v112, hj_1, h⟩ := bind_some h
   refine Tri.joinv v112 (fun (y : Bool) => ⟨[(1, .ptr 1 0), (112, Ab y)], [(1, some (.box (Scene.cl x20)))]⟩) ?_ ?_
   ·refine Tri.cond (b := v112) rfl (fun hb_1 => ?_) (fun hb_1 => ?_)
    ·have h := cond_t hb_1 h
     refine Tp rfl ?_
     refine Tri.ret ?_
     exact Rb h rfl
    ·have h := cond_f hb_1 h
     refine Tri.skip ?_
     refine Tr ?_
     refine Qe 1 rfl ?_
     refine Q1 rfl rfl rfl (v := .agg (Sight.cl (⟨9, 2, 5, 341, 400⟩ : Sight))) (Ax.build rfl zer_64 (bld plc_64 zer_64) rfl ⟨Sub.refl _, Sub.refl _, Sub.refl _, Sub.refl _, Sub.refl _, trivial⟩) ?_
     obtain ⟨⟨x116_0, x116_1⟩, hc_5, h⟩ := bind_some h
     refine Qc rfl rfl rfl (args := [.agg (Scene.cl x20), .agg (Sight.cl (⟨9, 2, 5, 341, 400⟩ : Sight))]) (r := .tup [.agg (Scene.cl x116_0), Ai x116_1]) (calv rfl rfl fnok_53 rfl) (f53_ok hc_5) rfl ?_
     refine Qe 3 rfl ?_
     refine Qn rfl rfl rfl (v := .ptr 13 0) (x := some (.box (Scene.cl (⟨(⟨([] : List Cell), ([] : List Arr2_3), 0, 0, 0⟩ : Basin), ([] : List Int), ([] : List Sight), ([] : List Change)⟩ : Scene)))) (Ax.alloc rfl rfl zer_30 rfl ⟨Sub.nil _, Sub.nil _, Sub.refl _, Sub.refl _, Sub.refl _, Sub.nil _, Sub.nil _, Sub.nil _, trivial⟩) rfl rfl rfl rfl rfl ?_
     refine Qs rfl rfl (x := some (.box (Scene.cl x116_0))) (Ax.st_box rfl siz_30 rfl rfl rfl rfl rfl rfl rfl) ?_
     refine Qd rfl ?_
     refine Tr ?_
     refine Qe 1 rfl ?_
     obtain ⟨⟨x121_0, x121_1, x121_2⟩, hc_6, h⟩ := bind_some h
     refine Qc rfl rfl rfl (args := [.agg (Scene.cl x116_0)]) (r := .tup [.lst 1 (x121_0.map icl), Ab x121_1, Ai x121_2]) (calv rfl rfl fnok_54 rfl) (f54_ok hc_6) rfl ?_
     refine Qd rfl ?_
     refine Tr ?_
     refine Q1 rfl rfl rfl (v := .lst 1 (([5, 6] : List Int).map icl)) (Ax.sl (xs := ([5, 6] : List Int)) rfl slc_26 rfl rfl ⟨Sub.refl _, Sub.refl _, trivial⟩ rfl icl_len icl_one icl_im) ?_
     refine Qe 1 rfl ?_
     refine Qs rfl rfl (x := some (.box (Scene.cl (⟨x20.Basin, ([5, 6] : List Int), x20.Sights, x20.Changes⟩ : Scene)))) (Ax.st_box rfl siz_26 rfl rfl rfl rfl rfl rfl rfl) ?_
     refine RunD.done ?_
     refine Tr ?_
     refine Q1 rfl rfl rfl (v := .agg (Change.cl (⟨1, 5, 6, (-50), (-20)⟩ : Change))) (Ax.build rfl zer_67 (bld plc_67 zer_67) rfl ⟨Sub.refl _, Sub.refl _, Sub.refl _, Sub.refl _, Sub.refl _, trivial⟩) ?_
     refine Q1 rfl rfl rfl (v := .agg (Change.cl (⟨2, 5, 6, (-100), 0⟩ : Change))) (Ax.build rfl zer_67 (bld plc_67 zer_67) rfl ⟨Sub.refl _, Sub.refl _, Sub.refl _, Sub.refl _, Sub.refl _, trivial⟩) ?_
     refine Q1 rfl rfl rfl (v := .lst 5 (([(⟨1, 5, 6, (-50), (-20)⟩ : Change), (⟨2, 5, 6, (-100), 0⟩ : Change)] : List Change).map Change.cl)) (Ax.sl (xs := ([(⟨1, 5, 6, (-50), (-20)⟩ : Change), (⟨2, 5, 6, (-100), 0⟩ : Change)] : List Change)) rfl slc_28 rfl rfl ⟨Sub.refl _, Sub.refl _, Sub.refl _, Sub.refl _, Sub.refl _, Sub.refl _, Sub.refl _, Sub.refl _, Sub.refl _, Sub.refl _, trivial⟩ rfl Change_len Change_one Change_im) ?_
     refine Qe 1 rfl ?_
     refine Qs rfl rfl (x := some (.box (Scene.cl (⟨x20.Basin, ([5, 6] : List Int), x20.Sights, ([(⟨1, 5, 6, (-50), (-20)⟩ : Change), (⟨2, 5, 6, (-100), 0⟩ : Change)] : List Change)⟩ : Scene)))) (Ax.st_box rfl siz_28 rfl rfl rfl rfl rfl rfl rfl) ?_
     refine RunD.done ?_
     refine Tr ?_
     refine Qe 1 rfl ?_
     obtain ⟨⟨x133_0, x133_1⟩, hc_7, h⟩ := bind_some h
     refine Qc rfl rfl rfl (args := [.agg (Scene.cl (⟨x20.Basin, ([5, 6] : List Int), x20.Sights, ([(⟨1, 5, 6, (-50), (-20)⟩ : Change), (⟨2, 5, 6, (-100), 0⟩ : Change)] : List Change)⟩ : Scene)), Ai 2, Ai 6]) (r := .tup [.agg (Span.cl x133_0), Ai x133_1]) (calv rfl rfl fnok_33 rfl) (f33_ok hc_7) rfl ?_
     refine Qe 3 rfl ?_
     refine Qn rfl rfl rfl (v := .ptr 16 0) (x := some (.box (Span.cl (⟨0, 0⟩ : Span)))) (Ax.alloc rfl rfl zer_49 rfl ⟨Sub.refl _, Sub.refl _, trivial⟩) rfl rfl rfl rfl rfl ?_
     refine Qs rfl rfl (x := some (.box (Span.cl x133_0))) (Ax.st_box rfl siz_49 rfl rfl rfl rfl rfl rfl rfl) ?_
     refine Qd rfl ?_
     refine Tr ?_
     refine Qe 1 rfl ?_
     refine Q1 rfl rfl rfl (v := .lst 1 (([1, 2] : List Int).map icl)) (Ax.sl (xs := ([1, 2] : List Int)) rfl slc_26 rfl rfl ⟨Sub.refl _, Sub.refl _, trivial⟩ rfl icl_len icl_one icl_im) ?_
     obtain ⟨⟨x139_0, x139_1⟩, hc_8, h⟩ := bind_some h
     refine Qc rfl rfl rfl (args := [.agg (Scene.cl (⟨x20.Basin, ([5, 6] : List Int), x20.Sights, ([(⟨1, 5, 6, (-50), (-20)⟩ : Change), (⟨2, 5, 6, (-100), 0⟩ : Change)] : List Change)⟩ : Scene)), .lst 1 (([1, 2] : List Int).map icl), Ai 5, Ai 6]) (r := .tup [.agg (Span.cl x139_0), Ai x139_1]) (calv rfl rfl fnok_40 rfl) (f40_ok hc_8) rfl ?_
     refine Qe 3 rfl ?_
     refine Qn rfl rfl rfl (v := .ptr 17 0) (x := some (.box (Span.cl (⟨0, 0⟩ : Span)))) (Ax.alloc rfl rfl zer_49 rfl ⟨Sub.refl _, Sub.refl _, trivial⟩) rfl rfl rfl rfl rfl ?_
     refine Qs rfl rfl (x := some (.box (Span.cl x139_0))) (Ax.st_box rfl siz_49 rfl rfl rfl rfl rfl rfl rfl) ?_
     refine Qd rfl ?_
     refine Tr ?_
     refine Qe 1 rfl ?_
     refine Q1 rfl rfl rfl (v := .lst 1 (([2] : List Int).map icl)) (Ax.sl (xs := ([2] : List Int)) rfl slc_26 rfl rfl ⟨Sub.refl _, trivial⟩ rfl icl_len icl_one icl_im) ?_
     obtain ⟨⟨x145_0, x145_1⟩, hc_9, h⟩ := bind_some h
     refine Qc rfl rfl rfl (args := [.agg (Scene.cl (⟨x20.Basin, ([5, 6] : List Int), x20.Sights, ([(⟨1, 5, 6, (-50), (-20)⟩ : Change), (⟨2, 5, 6, (-100), 0⟩ : Change)] : List Change)⟩ : Scene)), .lst 1 (([2] : List Int).map icl), Ai 6]) (r := .tup [.lst 1 (x145_0.map icl), Ai x145_1]) (calv rfl rfl fnok_81 rfl) (f81_ok hc_9) rfl ?_
     refine Qd rfl ?_
     refine Tri.seq ?_
     refine Tri.seq ?_
     refine Tri.join1 ⟨[(14, .lst 1 (x121_0.map icl)), (15, Ab x121_1), (16, .ptr 16 0), (17, .ptr 17 0), (18, .lst 1 (x145_0.map icl)), (165, Ab ((x116_1 != 0) || ((x121_2 != 0) || ((x133_1 != 0) || ((x139_1 != 0) || (x145_1 != 0))))))], [(16, some (.box (Span.cl x133_0))), (17, some (.box (Span.cl x139_0)))]⟩ ?_ ?_
     ·refine Tri.cond (b := ((x116_1 != 0) || ((x121_2 != 0) || ((x133_1 != 0) || ((x139_1 != 0) || (x145_1 != 0)))))) rfl (fun hb_2 => ?_) (fun hb_2 => ?_)
      ·have h := cond_t hb_2 h
       refine Tp rfl ?_
       refine Tri.ret ?_
       exact Rb h rfl
      ·have h := cond_f hb_2 h
       refine Tri.skip ?_
       refine Tri.seq ?_
       obtain ⟨v0, hj, h⟩ := bind_some h
       refine Tri.joinv v0 (fun (y : Bool) => ⟨[(0, Ab y)], []⟩) ?_ ?_
       ·refine Tri.ret ?_
        exact Rb h rfl
       ·have h := hj
        refine Tri.region ?_
        refine Qe 1 rfl ?_
        refine Q1 rfl rfl rfl (v := .lst 1 (([7, 9] : List Int).map icl)) (Ax.sl (xs := ([7, 9] : List Int)) rfl slc_26 rfl rfl ⟨Sub.refl _, Sub.refl _, trivial⟩ rfl icl_len icl_one icl_im) ?_
        obtain ⟨x168, hc_10, h⟩ := bind_some h
        refine Qc rfl rfl rfl (args := [.lst 1 (x121_0.map icl), .lst 1 (([7, 9] : List Int).map icl)]) (r := Ab x168) (calv rfl rfl fnok_101 rfl) (f101_ok hc_10) rfl ?_
        refine Qe 1 rfl ?_
        rcases b2 x168 with hb_3 | hb_3
        ·have h := cond_t hb_3 h
         refine Qk 169 hb_3 rfl ?_
         refine Qe 3 rfl ?_
         rcases b2 x121_1 with hb_4 | hb_4
         ·have h := cond_t hb_4 h
          refine Qk 172 hb_4 rfl ?_
          refine Qe 1 rfl ?_
          refine Q1 rfl rfl rfl (v := .agg (Span.cl (⟨150, 320⟩ : Span))) (Ax.build rfl zer_49 (bld plc_49 zer_49) rfl ⟨Sub.refl _, Sub.refl _, trivial⟩) ?_
          refine Q1 rfl rfl rfl (v := Ab (decide (x133_0 = (⟨150, 320⟩ : Span)))) (Ax.eqs (xs := [.int .i64 x133_0.Lo, .int .i64 x133_0.Hi]) (ys := [.int .i64 150, .int .i64 320]) (fsp_49 x133_0 (⟨150, 320⟩ : Span)) rfl rfl rfl (eqs_49 x133_0 (⟨150, 320⟩ : Span))) ?_
          refine Qe 2 rfl ?_
          rcases b2 (decide (x133_0 = (⟨150, 320⟩ : Span))) with hb_5 | hb_5
          ·have h := cond_t hb_5 h
           refine Qk 177 hb_5 rfl ?_
           refine Qe 1 rfl ?_
           refine Q1 rfl rfl rfl (v := .agg (Span.cl (⟨200, 2500⟩ : Span))) (Ax.build rfl zer_49 (bld plc_49 zer_49) rfl ⟨Sub.refl _, Sub.refl _, trivial⟩) ?_
           refine Q1 rfl rfl rfl (v := Ab (decide (x139_0 = (⟨200, 2500⟩ : Span)))) (Ax.eqs (xs := [.int .i64 x139_0.Lo, .int .i64 x139_0.Hi]) (ys := [.int .i64 200, .int .i64 2500]) (fsp_49 x139_0 (⟨200, 2500⟩ : Span)) rfl rfl rfl (eqs_49 x139_0 (⟨200, 2500⟩ : Span))) ?_
           refine Qe 2 rfl ?_
           rcases b2 (decide (x139_0 = (⟨200, 2500⟩ : Span))) with hb_6 | hb_6
           ·have h := cond_t hb_6 h
            refine Qk 182 hb_6 rfl ?_
            refine Qe 1 rfl ?_
            refine Q1 rfl rfl rfl (v := .lst 1 (([7] : List Int).map icl)) (Ax.sl (xs := ([7] : List Int)) rfl slc_26 rfl rfl ⟨Sub.refl _, trivial⟩ rfl icl_len icl_one icl_im) ?_
            obtain ⟨x185, hc_11, h⟩ := bind_some h
            refine Qc rfl rfl rfl (args := [.lst 1 (x145_0.map icl), .lst 1 (([7] : List Int).map icl)]) (r := Ab x185) (calv rfl rfl fnok_101 rfl) (f101_ok hc_11) rfl ?_
            refine Qe 2 rfl ?_
            rcases b2 x185 with hb_7 | hb_7
            ·have h := cond_t hb_7 h
             refine Qk 187 hb_7 rfl ?_
             refine Q1 rfl rfl rfl (v := .agg (Scene.cl (⟨(⟨([] : List Cell), ([] : List Arr2_3), 0, 0, 0⟩ : Basin), ([] : List Int), ([] : List Sight), ([] : List Change)⟩ : Scene))) (Ax.build rfl zer_30 (bld plc_30 zer_30) rfl ⟨Sub.nil _, Sub.nil _, Sub.refl _, Sub.refl _, Sub.refl _, Sub.nil _, Sub.nil _, Sub.nil _, trivial⟩) ?_
             obtain ⟨x189, hc_12, h⟩ := bind_some h
             refine Qc rfl rfl rfl (args := [.agg (Scene.cl (⟨(⟨([] : List Cell), ([] : List Arr2_3), 0, 0, 0⟩ : Basin), ([] : List Int), ([] : List Sight), ([] : List Change)⟩ : Scene))]) (r := Ai x189) (calv rfl rfl fnok_66 rfl) (f66_ok hc_12) rfl ?_
             refine Qd rfl ?_
             exact Exists.intro (x189 == 50) (And.intro h (E0 rfl))
            ·have h := cond_f hb_7 h
             refine Qk 187 hb_7 rfl ?_
             refine Qd rfl ?_
             exact Exists.intro false (And.intro h (E0 rfl))
           ·have h := cond_f hb_6 h
            refine Qk 182 hb_6 rfl ?_
            refine Qd rfl ?_
            exact Exists.intro false (And.intro h (E0 rfl))
          ·have h := cond_f hb_5 h
           refine Qk 177 hb_5 rfl ?_
           refine Qd rfl ?_
           exact Exists.intro false (And.intro h (E0 rfl))
         ·have h := cond_f hb_4 h
          refine Qk 172 hb_4 rfl ?_
          refine Qd rfl ?_
          exact Exists.intro false (And.intro h (E0 rfl))
        ·have h := cond_f hb_3 h
         refine Qk 169 hb_3 rfl ?_
         refine Qd rfl ?_
         exact Exists.intro false (And.intro h (E0 rfl))
     ·refine Tri.region ?_
      refine Qe 3 rfl ?_
      rcases b2 (x116_1 != 0) with hb_8 | hb_8
      ·refine Qk 150 hb_8 rfl ?_
       refine Qd rfl ?_
       exact (Es [16, 17] [165] rfl trivial ⟨.imm (Sub.of_eq (show Ab ((x116_1 != 0) || ((x121_2 != 0) || ((x133_1 != 0) || ((x139_1 != 0) || (x145_1 != 0))))) = Ab true by simp only [cond_true, cond_false, Bool.true_or, Bool.false_or, Bool.true_and, Bool.false_and, Bool.or_true, Bool.or_false, Bool.and_true, Bool.and_false, hb, hb_1, hb_8])) rfl, trivial⟩)
      ·refine Qk 150 hb_8 rfl ?_
       refine Qe 4 rfl ?_
       rcases b2 (x121_2 != 0) with hb_9 | hb_9
       ·refine Qk 154 hb_9 rfl ?_
        refine Qd rfl ?_
        exact (Es [16, 17] [165] rfl trivial ⟨.imm (Sub.of_eq (show Ab ((x116_1 != 0) || ((x121_2 != 0) || ((x133_1 != 0) || ((x139_1 != 0) || (x145_1 != 0))))) = Ab true by simp only [cond_true, cond_false, Bool.true_or, Bool.false_or, Bool.true_and, Bool.false_and, Bool.or_true, Bool.or_false, Bool.and_true, Bool.and_false, hb, hb_1, hb_8, hb_9])) rfl, trivial⟩)
       ·refine Qk 154 hb_9 rfl ?_
        refine Qe 4 rfl ?_
        rcases b2 (x133_1 != 0) with hb_10 | hb_10
        ·refine Qk 158 hb_10 rfl ?_
         refine Qd rfl ?_
         exact (Es [16, 17] [165] rfl trivial ⟨.imm (Sub.of_eq (show Ab ((x116_1 != 0) || ((x121_2 != 0) || ((x133_1 != 0) || ((x139_1 != 0) || (x145_1 != 0))))) = Ab true by simp only [cond_true, cond_false, Bool.true_or, Bool.false_or, Bool.true_and, Bool.false_and, Bool.or_true, Bool.or_false, Bool.and_true, Bool.and_false, hb, hb_1, hb_8, hb_9, hb_10])) rfl, trivial⟩)
        ·refine Qk 158 hb_10 rfl ?_
         refine Qe 4 rfl ?_
         rcases b2 (x139_1 != 0) with hb_11 | hb_11
         ·refine Qk 162 hb_11 rfl ?_
          refine Qd rfl ?_
          exact (Es [16, 17] [165] rfl trivial ⟨.imm (Sub.of_eq (show Ab ((x116_1 != 0) || ((x121_2 != 0) || ((x133_1 != 0) || ((x139_1 != 0) || (x145_1 != 0))))) = Ab true by simp only [cond_true, cond_false, Bool.true_or, Bool.false_or, Bool.true_and, Bool.false_and, Bool.or_true, Bool.or_false, Bool.and_true, Bool.and_false, hb, hb_1, hb_8, hb_9, hb_10, hb_11])) rfl, trivial⟩)
         ·refine Qk 162 hb_11 rfl ?_
          refine Qd rfl ?_
          exact (Es [16, 17] [165] rfl trivial ⟨.imm (Sub.of_eq (show Ab ((x116_1 != 0) || ((x121_2 != 0) || ((x133_1 != 0) || ((x139_1 != 0) || (x145_1 != 0))))) = Ab (x145_1 != 0) by simp only [cond_true, cond_false, Bool.true_or, Bool.false_or, Bool.true_and, Bool.false_and, Bool.or_true, Bool.or_false, Bool.and_true, Bool.and_false, hb, hb_1, hb_8, hb_9, hb_10, hb_11])) rfl, trivial⟩)
   ·have h := hj_1
    refine Tri.region ?_
    refine Qe 2 rfl ?_
    obtain ⟨x98, hc_13, h⟩ := bind_some h
    refine Qc rfl rfl rfl (args := [.agg (Scene.cl x20), Ai 2, Ai 5, Ai 340, Ab true, .lst 4 (([(⟨5, 0, 0, true⟩ : Reason), (⟨3, 0, 5, false⟩ : Reason)] : List Reason).map Reason.cl)]) (r := Ai x98) (calv rfl rfl fnok_91 rfl) (f91_ok hc_13) rfl ?_
    refine Qe 2 rfl ?_
    rcases b2 (x98 != 0) with hb_12 | hb_12
    ·have h := cond_t hb_12 h
     refine Qk 100 hb_12 rfl ?_
     refine Qd rfl ?_
     exact Exists.intro true (And.intro h (Ee [1] rfl trivial))
    ·have h := cond_f hb_12 h
     refine Qk 100 hb_12 rfl ?_
     refine Qe 2 rfl ?_
     obtain ⟨x103, hc_14, h⟩ := bind_some h
     refine Qc rfl rfl rfl (args := [.agg (Scene.cl x20), Ai 2, Ai 5, Ai 339, Ab true, .lst 4 (([(⟨5, 0, 0, true⟩ : Reason), (⟨3, 0, 5, false⟩ : Reason)] : List Reason).map Reason.cl)]) (r := Ai x103) (calv rfl rfl fnok_91 rfl) (f91_ok hc_14) rfl ?_
     refine Qe 3 rfl ?_
     rcases b2 (x103 != 43) with hb_13 | hb_13
     ·have h := cond_t hb_13 h
      refine Qk 106 hb_13 rfl ?_
      refine Qd rfl ?_
      exact Exists.intro true (And.intro h (Ee [1] rfl trivial))
     ·have h := cond_f hb_13 h
      refine Qk 106 hb_13 rfl ?_
      refine Qe 1 rfl ?_
      refine Q1 rfl rfl rfl (v := .lst 1 (([200, 199] : List Int).map icl)) (Ax.sl (xs := ([200, 199] : List Int)) rfl slc_26 rfl rfl ⟨Sub.refl _, Sub.refl _, trivial⟩ rfl icl_len icl_one icl_im) ?_
      refine Q1 rfl rfl rfl (v := .lst 1 (([([200, 199] : List Int)] : List (List Int)).map cl26)) (Ax.sl (xs := ([([200, 199] : List Int)] : List (List Int))) rfl slc_44 rfl rfl ⟨Sub.refl _, trivial⟩ rfl cl26_len cl26_one cl26_im) ?_
      obtain ⟨x110, hc_15, h⟩ := bind_some h
      refine Qc rfl rfl rfl (args := [.agg (Scene.cl x20), .lst 1 (([([200, 199] : List Int)] : List (List Int)).map cl26)]) (r := Ai x110) (calv rfl rfl fnok_26 rfl) (f26_ok hc_15) rfl ?_
      refine Qd rfl ?_
      exact Exists.intro (x110 != 53) (And.intro h (Ee [1] rfl trivial))
 ·refine Tri.region ?_
  refine Qe 3 rfl ?_
  rcases b2 (x24_0 != 130) with hb_14 | hb_14
  ·refine Qk 47 hb_14 rfl ?_
   refine Qd rfl ?_
   exact (Es [1] [92] rfl trivial ⟨.imm (Sub.of_eq (show Ab ((x24_0 != 130) || ((!x24_1) || ((x24_2 != 0) || ((!(decide (x30_0 = (⟨200, 340⟩ : Span)))) || ((x30_1 != 0) || ((!(decide (x36_0 = (⟨6000, 8900⟩ : Span)))) || ((x36_1 != 0) || ((x41_2 != 0) || ((x41_0.Nodes != 3) || (((x41_0.Diffs.length : Int) != 8) || ((x41_1.length : Int) != 8))))))))))) = Ab true by simp only [cond_true, cond_false, Bool.true_or, Bool.false_or, Bool.true_and, Bool.false_and, Bool.or_true, Bool.or_false, Bool.and_true, Bool.and_false, hb_14])) rfl, trivial⟩)
  ·refine Qk 47 hb_14 rfl ?_
   refine Qe 4 rfl ?_
   rcases b2 (!x24_1) with hb_15 | hb_15
   ·refine Qk 51 hb_15 rfl ?_
    refine Qd rfl ?_
    exact (Es [1] [92] rfl trivial ⟨.imm (Sub.of_eq (show Ab ((x24_0 != 130) || ((!x24_1) || ((x24_2 != 0) || ((!(decide (x30_0 = (⟨200, 340⟩ : Span)))) || ((x30_1 != 0) || ((!(decide (x36_0 = (⟨6000, 8900⟩ : Span)))) || ((x36_1 != 0) || ((x41_2 != 0) || ((x41_0.Nodes != 3) || (((x41_0.Diffs.length : Int) != 8) || ((x41_1.length : Int) != 8))))))))))) = Ab true by simp only [cond_true, cond_false, Bool.true_or, Bool.false_or, Bool.true_and, Bool.false_and, Bool.or_true, Bool.or_false, Bool.and_true, Bool.and_false, hb_14, hb_15])) rfl, trivial⟩)
   ·refine Qk 51 hb_15 rfl ?_
    refine Qe 4 rfl ?_
    rcases b2 (x24_2 != 0) with hb_16 | hb_16
    ·refine Qk 55 hb_16 rfl ?_
     refine Qd rfl ?_
     exact (Es [1] [92] rfl trivial ⟨.imm (Sub.of_eq (show Ab ((x24_0 != 130) || ((!x24_1) || ((x24_2 != 0) || ((!(decide (x30_0 = (⟨200, 340⟩ : Span)))) || ((x30_1 != 0) || ((!(decide (x36_0 = (⟨6000, 8900⟩ : Span)))) || ((x36_1 != 0) || ((x41_2 != 0) || ((x41_0.Nodes != 3) || (((x41_0.Diffs.length : Int) != 8) || ((x41_1.length : Int) != 8))))))))))) = Ab true by simp only [cond_true, cond_false, Bool.true_or, Bool.false_or, Bool.true_and, Bool.false_and, Bool.or_true, Bool.or_false, Bool.and_true, Bool.and_false, hb_14, hb_15, hb_16])) rfl, trivial⟩)
    ·refine Qk 55 hb_16 rfl ?_
     refine Qe 1 rfl ?_
     refine Q1 rfl rfl rfl (v := .agg (Span.cl (⟨200, 340⟩ : Span))) (Ax.build rfl zer_49 (bld plc_49 zer_49) rfl ⟨Sub.refl _, Sub.refl _, trivial⟩) ?_
     refine Q1 rfl rfl rfl (v := Ab (!(decide (x30_0 = (⟨200, 340⟩ : Span))))) (Ax.nes (xs := [.int .i64 x30_0.Lo, .int .i64 x30_0.Hi]) (ys := [.int .i64 200, .int .i64 340]) (fsp_49 x30_0 (⟨200, 340⟩ : Span)) rfl rfl rfl (eqs_49 x30_0 (⟨200, 340⟩ : Span))) ?_
     refine Qe 2 rfl ?_
     rcases b2 (!(decide (x30_0 = (⟨200, 340⟩ : Span)))) with hb_17 | hb_17
     ·refine Qk 60 hb_17 rfl ?_
      refine Qd rfl ?_
      exact (Es [1] [92] rfl trivial ⟨.imm (Sub.of_eq (show Ab ((x24_0 != 130) || ((!x24_1) || ((x24_2 != 0) || ((!(decide (x30_0 = (⟨200, 340⟩ : Span)))) || ((x30_1 != 0) || ((!(decide (x36_0 = (⟨6000, 8900⟩ : Span)))) || ((x36_1 != 0) || ((x41_2 != 0) || ((x41_0.Nodes != 3) || (((x41_0.Diffs.length : Int) != 8) || ((x41_1.length : Int) != 8))))))))))) = Ab true by simp only [cond_true, cond_false, Bool.true_or, Bool.false_or, Bool.true_and, Bool.false_and, Bool.or_true, Bool.or_false, Bool.and_true, Bool.and_false, hb_14, hb_15, hb_16, hb_17])) rfl, trivial⟩)
     ·refine Qk 60 hb_17 rfl ?_
      refine Qe 4 rfl ?_
      rcases b2 (x30_1 != 0) with hb_18 | hb_18
      ·refine Qk 64 hb_18 rfl ?_
       refine Qd rfl ?_
       exact (Es [1] [92] rfl trivial ⟨.imm (Sub.of_eq (show Ab ((x24_0 != 130) || ((!x24_1) || ((x24_2 != 0) || ((!(decide (x30_0 = (⟨200, 340⟩ : Span)))) || ((x30_1 != 0) || ((!(decide (x36_0 = (⟨6000, 8900⟩ : Span)))) || ((x36_1 != 0) || ((x41_2 != 0) || ((x41_0.Nodes != 3) || (((x41_0.Diffs.length : Int) != 8) || ((x41_1.length : Int) != 8))))))))))) = Ab true by simp only [cond_true, cond_false, Bool.true_or, Bool.false_or, Bool.true_and, Bool.false_and, Bool.or_true, Bool.or_false, Bool.and_true, Bool.and_false, hb_14, hb_15, hb_16, hb_17, hb_18])) rfl, trivial⟩)
      ·refine Qk 64 hb_18 rfl ?_
       refine Qe 1 rfl ?_
       refine Q1 rfl rfl rfl (v := .agg (Span.cl (⟨6000, 8900⟩ : Span))) (Ax.build rfl zer_49 (bld plc_49 zer_49) rfl ⟨Sub.refl _, Sub.refl _, trivial⟩) ?_
       refine Q1 rfl rfl rfl (v := Ab (!(decide (x36_0 = (⟨6000, 8900⟩ : Span))))) (Ax.nes (xs := [.int .i64 x36_0.Lo, .int .i64 x36_0.Hi]) (ys := [.int .i64 6000, .int .i64 8900]) (fsp_49 x36_0 (⟨6000, 8900⟩ : Span)) rfl rfl rfl (eqs_49 x36_0 (⟨6000, 8900⟩ : Span))) ?_
       refine Qe 2 rfl ?_
       rcases b2 (!(decide (x36_0 = (⟨6000, 8900⟩ : Span)))) with hb_19 | hb_19
       ·refine Qk 69 hb_19 rfl ?_
        refine Qd rfl ?_
        exact (Es [1] [92] rfl trivial ⟨.imm (Sub.of_eq (show Ab ((x24_0 != 130) || ((!x24_1) || ((x24_2 != 0) || ((!(decide (x30_0 = (⟨200, 340⟩ : Span)))) || ((x30_1 != 0) || ((!(decide (x36_0 = (⟨6000, 8900⟩ : Span)))) || ((x36_1 != 0) || ((x41_2 != 0) || ((x41_0.Nodes != 3) || (((x41_0.Diffs.length : Int) != 8) || ((x41_1.length : Int) != 8))))))))))) = Ab true by simp only [cond_true, cond_false, Bool.true_or, Bool.false_or, Bool.true_and, Bool.false_and, Bool.or_true, Bool.or_false, Bool.and_true, Bool.and_false, hb_14, hb_15, hb_16, hb_17, hb_18, hb_19])) rfl, trivial⟩)
       ·refine Qk 69 hb_19 rfl ?_
        refine Qe 4 rfl ?_
        rcases b2 (x36_1 != 0) with hb_20 | hb_20
        ·refine Qk 73 hb_20 rfl ?_
         refine Qd rfl ?_
         exact (Es [1] [92] rfl trivial ⟨.imm (Sub.of_eq (show Ab ((x24_0 != 130) || ((!x24_1) || ((x24_2 != 0) || ((!(decide (x30_0 = (⟨200, 340⟩ : Span)))) || ((x30_1 != 0) || ((!(decide (x36_0 = (⟨6000, 8900⟩ : Span)))) || ((x36_1 != 0) || ((x41_2 != 0) || ((x41_0.Nodes != 3) || (((x41_0.Diffs.length : Int) != 8) || ((x41_1.length : Int) != 8))))))))))) = Ab true by simp only [cond_true, cond_false, Bool.true_or, Bool.false_or, Bool.true_and, Bool.false_and, Bool.or_true, Bool.or_false, Bool.and_true, Bool.and_false, hb_14, hb_15, hb_16, hb_17, hb_18, hb_19, hb_20])) rfl, trivial⟩)
        ·refine Qk 73 hb_20 rfl ?_
         refine Qe 4 rfl ?_
         rcases b2 (x41_2 != 0) with hb_21 | hb_21
         ·refine Qk 77 hb_21 rfl ?_
          refine Qd rfl ?_
          exact (Es [1] [92] rfl trivial ⟨.imm (Sub.of_eq (show Ab ((x24_0 != 130) || ((!x24_1) || ((x24_2 != 0) || ((!(decide (x30_0 = (⟨200, 340⟩ : Span)))) || ((x30_1 != 0) || ((!(decide (x36_0 = (⟨6000, 8900⟩ : Span)))) || ((x36_1 != 0) || ((x41_2 != 0) || ((x41_0.Nodes != 3) || (((x41_0.Diffs.length : Int) != 8) || ((x41_1.length : Int) != 8))))))))))) = Ab true by simp only [cond_true, cond_false, Bool.true_or, Bool.false_or, Bool.true_and, Bool.false_and, Bool.or_true, Bool.or_false, Bool.and_true, Bool.and_false, hb_14, hb_15, hb_16, hb_17, hb_18, hb_19, hb_20, hb_21])) rfl, trivial⟩)
         ·refine Qk 77 hb_21 rfl ?_
          refine Qe 5 rfl ?_
          rcases b2 (x41_0.Nodes != 3) with hb_22 | hb_22
          ·refine Qk 82 hb_22 rfl ?_
           refine Qd rfl ?_
           exact (Es [1] [92] rfl trivial ⟨.imm (Sub.of_eq (show Ab ((x24_0 != 130) || ((!x24_1) || ((x24_2 != 0) || ((!(decide (x30_0 = (⟨200, 340⟩ : Span)))) || ((x30_1 != 0) || ((!(decide (x36_0 = (⟨6000, 8900⟩ : Span)))) || ((x36_1 != 0) || ((x41_2 != 0) || ((x41_0.Nodes != 3) || (((x41_0.Diffs.length : Int) != 8) || ((x41_1.length : Int) != 8))))))))))) = Ab true by simp only [cond_true, cond_false, Bool.true_or, Bool.false_or, Bool.true_and, Bool.false_and, Bool.or_true, Bool.or_false, Bool.and_true, Bool.and_false, hb_14, hb_15, hb_16, hb_17, hb_18, hb_19, hb_20, hb_21, hb_22])) rfl, trivial⟩)
          ·refine Qk 82 hb_22 rfl ?_
           refine Qe 2 rfl ?_
           refine Q1 rfl rfl rfl (Ax.ln (cl := Diff.cl) rfl slc_32 rfl) ?_
           refine Qe 3 rfl ?_
           rcases b2 ((x41_0.Diffs.length : Int) != 8) with hb_23 | hb_23
           ·refine Qk 88 hb_23 rfl ?_
            refine Qd rfl ?_
            exact (Es [1] [92] rfl trivial ⟨.imm (Sub.of_eq (show Ab ((x24_0 != 130) || ((!x24_1) || ((x24_2 != 0) || ((!(decide (x30_0 = (⟨200, 340⟩ : Span)))) || ((x30_1 != 0) || ((!(decide (x36_0 = (⟨6000, 8900⟩ : Span)))) || ((x36_1 != 0) || ((x41_2 != 0) || ((x41_0.Nodes != 3) || (((x41_0.Diffs.length : Int) != 8) || ((x41_1.length : Int) != 8))))))))))) = Ab true by simp only [cond_true, cond_false, Bool.true_or, Bool.false_or, Bool.true_and, Bool.false_and, Bool.or_true, Bool.or_false, Bool.and_true, Bool.and_false, hb_14, hb_15, hb_16, hb_17, hb_18, hb_19, hb_20, hb_21, hb_22, hb_23])) rfl, trivial⟩)
           ·refine Qk 88 hb_23 rfl ?_
            refine Qe 1 rfl ?_
            refine Q1 rfl rfl rfl (Ax.ln (cl := Reason.cl) rfl slc_35 rfl) ?_
            refine Qd rfl ?_
            exact (Es [1] [92] rfl trivial ⟨.imm (Sub.of_eq (show Ab ((x24_0 != 130) || ((!x24_1) || ((x24_2 != 0) || ((!(decide (x30_0 = (⟨200, 340⟩ : Span)))) || ((x30_1 != 0) || ((!(decide (x36_0 = (⟨6000, 8900⟩ : Span)))) || ((x36_1 != 0) || ((x41_2 != 0) || ((x41_0.Nodes != 3) || (((x41_0.Diffs.length : Int) != 8) || ((x41_1.length : Int) != 8))))))))))) = Ab ((x41_1.length : Int) != 8) by simp only [cond_true, cond_false, Bool.true_or, Bool.false_or, Bool.true_and, Bool.false_and, Bool.or_true, Bool.or_false, Bool.and_true, Bool.and_false, hb_14, hb_15, hb_16, hb_17, hb_18, hb_19, hb_20, hb_21, hb_22, hb_23])) rfl, trivial⟩)
theorem f176_ok {K : Nat} {a0 : Int} {a1 : Int} {r : Bool} (h : f176 K a0 a1 = some r) : CallOK Tryz.prog 176 [Ai a0, .ipt (icl a1) 0] [] (Ab r) [] := by
 refine CallOK.of_tri Tryz.func176 rfl rfl (Nat.le_of_ble_eq_true rfl) ?_
 unfold f176 at h
 refine Tp rfl ?_
 refine Tp rfl ?_
 refine Tri.ret ?_
 exact Rb h rfl
theorem f67_ok {K : Nat} {a0 : Scene} {a1 : Int} {r : Scene × Int} (h : f67 K a0 a1 = some r) : CallOK Tryz.prog 67 [.agg (Scene.cl a0), Ai a1] [] (.tup [.agg (Scene.cl r.1), Ai r.2]) [] := by
 refine CallOK.of_tri Tryz.func67 rfl rfl (Nat.le_of_ble_eq_true rfl) ?_
 unfold f67 at h
 refine Tr ?_
 refine Qe 2 rfl ?_
 refine Qn rfl rfl rfl (v := .ptr 4 0) (x := some (.box (Scene.cl (⟨(⟨([] : List Cell), ([] : List Arr2_3), 0, 0, 0⟩ : Basin), ([] : List Int), ([] : List Sight), ([] : List Change)⟩ : Scene)))) (Ax.alloc rfl rfl zer_30 rfl ⟨Sub.nil _, Sub.nil _, Sub.refl _, Sub.refl _, Sub.refl _, Sub.nil _, Sub.nil _, Sub.nil _, trivial⟩) rfl rfl rfl rfl rfl ?_
 refine Qd rfl ?_
 refine Tri.seq ?_
 refine Tr ?_
 refine Qe 1 rfl ?_
 obtain ⟨x8, hc, h⟩ := bind_some h
 refine Qc rfl rfl rfl (args := [.agg (Scene.cl a0)]) (r := Ai x8) (calv rfl rfl fnok_66 rfl) (f66_ok hc) rfl ?_
 refine Qd rfl ?_
 refine Tp rfl ?_
 refine Tri.cond (b := (x8 != 0)) rfl (fun hb => ?_) (fun hb => ?_)
 ·have h := cond_t hb h
  refine Tr ?_
  refine Q1 rfl rfl rfl (v := .agg (Scene.cl (⟨(⟨([] : List Cell), ([] : List Arr2_3), 0, 0, 0⟩ : Basin), ([] : List Int), ([] : List Sight), ([] : List Change)⟩ : Scene))) (Ax.build rfl zer_30 (bld plc_30 zer_30) rfl ⟨Sub.nil _, Sub.nil _, Sub.refl _, Sub.refl _, Sub.refl _, Sub.nil _, Sub.nil _, Sub.nil _, trivial⟩) ?_
  refine Qe 1 rfl ?_
  refine Qs rfl rfl (x := some (.box (Scene.cl (⟨(⟨([] : List Cell), ([] : List Arr2_3), 0, 0, 0⟩ : Basin), ([] : List Int), ([] : List Sight), ([] : List Change)⟩ : Scene)))) (Ax.st_box rfl siz_30 rfl rfl rfl rfl rfl rfl rfl) ?_
  refine Qd rfl ?_
  refine Tri.ret ?_
  refine Rr (fun r => .tup [.agg (Scene.cl r.1), Ai r.2]) (fun r => []) [] h ?_ trivial
  rfl
 ·have h := cond_f hb h
  refine Tri.skip ?_
  refine Tr ?_
  refine Qe 1 rfl ?_
  obtain ⟨x14, hc_1, h⟩ := bind_some h
  refine Qc rfl rfl rfl (args := [.agg (Scene.cl a0)]) (r := .agg (Scene.cl x14)) (calv rfl rfl fnok_131 rfl) (f131_ok hc_1) rfl ?_
  refine Q1 rfl rfl rfl (v := .fn 176 [.ipt (icl a1) 0]) (Ax.func rfl rfl) ?_
  obtain ⟨x16, hc_2, h⟩ := bind_some h
  refine Qc rfl rfl rfl (args := [.agg (Scene.cl x14), .fn 176 [.ipt (icl a1) 0]]) (r := .agg (Scene.cl x16)) (calv rfl rfl fnok_138 rfl) (f138_ok fnok_176 rfl (fun _ _ hr => f176_ok hr) hc_2) rfl ?_
  refine Qs rfl rfl (x := some (.box (Scene.cl x16))) (Ax.st_box rfl siz_30 rfl rfl rfl rfl rfl rfl rfl) ?_
  refine Qd rfl ?_
  refine Tri.ret ?_
  refine Rr (fun r => .tup [.agg (Scene.cl r.1), Ai r.2]) (fun r => []) [] h ?_ trivial
  rfl
theorem f69_ok {K : Nat} {a0 : Cell} {a1 : Cell} {r : Bool × Int} (h : f69 K a0 a1 = some r) : CallOK Tryz.prog 69 [.agg (Cell.cl a0), .agg (Cell.cl a1)] [] (.tup [Ab r.1, Ai r.2]) [] := by
 refine CallOK.of_tri Tryz.func69 rfl rfl (Nat.le_of_ble_eq_true rfl) ?_
 unfold f69 at h
 refine Tp rfl ?_
 refine Tri.seq ?_
 refine Tri.seq ?_
 obtain ⟨v13, hj, h⟩ := bind_some h
 refine Tri.joinv v13 (fun (y : Bool) => ⟨[(2, .ipt (Cell.cl a0) 0), (3, .ipt (Cell.cl a1) 0), (13, Ab y)], []⟩) ?_ ?_
 ·refine Tri.cond (b := v13) rfl (fun hb => ?_) (fun hb => ?_)
  ·have h := cond_t hb h
   refine Tp rfl ?_
   refine Tri.ret ?_
   refine Rr (fun r => .tup [Ab r.1, Ai r.2]) (fun r => []) [] h ?_ trivial
   rfl
  ·have h := cond_f hb h
   refine Tri.skip ?_
   refine Tr ?_
   refine Qe 2 rfl ?_
   obtain ⟨x16, hc, h⟩ := bind_some h
   refine Qc rfl rfl rfl (args := [.agg (Cell.cl a0), .agg (Cell.cl a1)]) (r := Ab x16) (calv rfl rfl fnok_141 rfl) (f141_ok hc) rfl ?_
   refine Qd rfl ?_
   refine Tri.ret ?_
   refine Rr (fun r => .tup [Ab r.1, Ai r.2]) (fun r => []) [] h ?_ trivial
   rfl
 ·have h := hj
  refine Tri.region ?_
  refine Qe 1 rfl ?_
  obtain ⟨x7, hc_1, h⟩ := bind_some h
  refine Qc rfl rfl rfl (args := [.agg (Cell.cl a0)]) (r := Ab x7) (calv rfl rfl fnok_177 rfl) (f177_ok hc_1) rfl ?_
  refine Qe 2 rfl ?_
  rcases b2 (!x7) with hb_1 | hb_1
  ·have h := cond_t hb_1 h
   refine Qk 9 hb_1 rfl ?_
   refine Qd rfl ?_
   exact Exists.intro true (And.intro h (E0 rfl))
  ·have h := cond_f hb_1 h
   refine Qk 9 hb_1 rfl ?_
   refine Qe 1 rfl ?_
   obtain ⟨x11, hc_2, h⟩ := bind_some h
   refine Qc rfl rfl rfl (args := [.agg (Cell.cl a1)]) (r := Ab x11) (calv rfl rfl fnok_177 rfl) (f177_ok hc_2) rfl ?_
   refine Qd rfl ?_
   exact Exists.intro (!x11) (And.intro h (E0 rfl))
theorem f182_ok {K : Nat} {a0 : Int} {a1 : Int} {r : Bool} (h : f182 K a0 a1 = some r) : CallOK Tryz.prog 182 [Ai a0, Ai a1] [] (Ab r) [] := by
 refine CallOK.of_tri Tryz.func182 rfl rfl (Nat.le_of_ble_eq_true rfl) ?_
 unfold f182 at h
 refine Tp rfl ?_
 refine Tri.seq ?_
 refine Tri.join1 ⟨[(4, Ab ((decide (a0 ≥ 0)) && (decide (a0 ≤ a1))))], []⟩ ?_ ?_
 ·refine Tri.ret ?_
  exact Rb h rfl
 ·refine Tri.region ?_
  refine Qe 3 rfl ?_
  rcases b2 (decide (a0 ≥ 0)) with hb | hb
  ·refine Qk 7 hb rfl ?_
   refine Qd rfl ?_
   exact (Es0 [4] rfl ⟨.imm (Sub.of_eq (show Ab ((decide (a0 ≥ 0)) && (decide (a0 ≤ a1))) = Ab (decide (a0 ≤ a1)) by simp only [cond_true, cond_false, Bool.true_or, Bool.false_or, Bool.true_and, Bool.false_and, Bool.or_true, Bool.or_false, Bool.and_true, Bool.and_false, hb])) rfl, trivial⟩)
  ·refine Qk 7 hb rfl ?_
   refine Qd rfl ?_
   exact (Es0 [4] rfl ⟨.imm (Sub.of_eq (show Ab ((decide (a0 ≥ 0)) && (decide (a0 ≤ a1))) = Ab false by simp only [cond_true, cond_false, Bool.true_or, Bool.false_or, Bool.true_and, Bool.false_and, Bool.or_true, Bool.or_false, Bool.and_true, Bool.and_false, hb])) rfl, trivial⟩)
theorem f178_ok {K : Nat} {a0 : Cell} {r : Bool} (h : f178 K a0 = some r) : CallOK Tryz.prog 178 [.agg (Cell.cl a0)] [] (Ab r) [] := by
 refine CallOK.of_tri Tryz.func178 rfl rfl (Nat.le_of_ble_eq_true rfl) ?_
 unfold f178 at h
 refine Tp rfl ?_
 refine Tri.seq ?_
 obtain ⟨v2, hj, h⟩ := bind_some h
 refine Tri.joinv v2 (fun (y : Bool) => ⟨[(2, Ab y)], []⟩) ?_ ?_
 ·refine Tri.ret ?_
  exact Rb h rfl
 ·have h := hj
  refine Tri.region ?_
  refine Qe 2 rfl ?_
  obtain ⟨x5, hc, h⟩ := bind_some h
  refine Qc rfl rfl rfl (args := [Ai a0.No, Ai 4095]) (r := Ab x5) (calv rfl rfl fnok_182 rfl) (f182_ok hc) rfl ?_
  refine Qe 1 rfl ?_
  rcases b2 x5 with hb | hb
  ·have h := cond_t hb h
   refine Qk 6 hb rfl ?_
   refine Qe 2 rfl ?_
   obtain ⟨x9, hc_1, h⟩ := bind_some h
   refine Qc rfl rfl rfl (args := [Ai a0.Height, Ai 9000]) (r := Ab x9) (calv rfl rfl fnok_182 rfl) (f182_ok hc_1) rfl ?_
   refine Qe 2 rfl ?_
   rcases b2 x9 with hb_1 | hb_1
   ·have h := cond_t hb_1 h
    refine Qk 11 hb_1 rfl ?_
    refine Qe 2 rfl ?_
    obtain ⟨x14, hc_2, h⟩ := bind_some h
    refine Qc rfl rfl rfl (args := [Ai a0.Aspect, Ai 7]) (r := Ab x14) (calv rfl rfl fnok_182 rfl) (f182_ok hc_2) rfl ?_
    refine Qe 2 rfl ?_
    rcases b2 x14 with hb_2 | hb_2
    ·have h := cond_t hb_2 h
     refine Qk 16 hb_2 rfl ?_
     refine Qe 5 rfl ?_
     rcases b2 (decide (a0.Area ≥ 1)) with hb_3 | hb_3
     ·have h := cond_t hb_3 h
      refine Qk 21 hb_3 rfl ?_
      refine Qd rfl ?_
      exact Exists.intro (decide (a0.Area ≤ 4096)) (And.intro h (E0 rfl))
     ·have h := cond_f hb_3 h
      refine Qk 21 hb_3 rfl ?_
      refine Qd rfl ?_
      exact Exists.intro false (And.intro h (E0 rfl))
    ·have h := cond_f hb_2 h
     refine Qk 16 hb_2 rfl ?_
     refine Qd rfl ?_
     exact Exists.intro false (And.intro h (E0 rfl))
   ·have h := cond_f hb_1 h
    refine Qk 11 hb_1 rfl ?_
    refine Qd rfl ?_
    exact Exists.intro false (And.intro h (E0 rfl))
  ·have h := cond_f hb h
   refine Qk 6 hb rfl ?_
   refine Qd rfl ?_
   exact Exists.intro false (And.intro h (E0 rfl))
theorem f179_ok {K : Nat} {a0 : Cell} {a1 : Cell} {r : Bool} (h : f179 K a0 a1 = some r) : CallOK Tryz.prog 179 [.agg (Cell.cl a0), .agg (Cell.cl a1)] [] (Ab r) [] := by
 refine CallOK.of_tri Tryz.func179 rfl rfl (Nat.le_of_ble_eq_true rfl) ?_
 unfold f179 at h
 refine Tp rfl ?_
 refine Tr ?_
 refine Qe 10 rfl ?_
 refine Q1 rfl rfl rfl (v := Ai (if (W (a1.Aspect - a0.Aspect)) > (W (a0.Aspect - a1.Aspect)) then (W (a1.Aspect - a0.Aspect)) else (W (a0.Aspect - a1.Aspect)))) (Ax.max rfl rfl rfl) ?_
 refine Qd rfl ?_
 refine Tri.seq ?_
 refine Tri.join1 ⟨[(4, Ab (((if (W (a1.Aspect - a0.Aspect)) > (W (a0.Aspect - a1.Aspect)) then (W (a1.Aspect - a0.Aspect)) else (W (a0.Aspect - a1.Aspect))) == 0) || (((if (W (a1.Aspect - a0.Aspect)) > (W (a0.Aspect - a1.Aspect)) then (W (a1.Aspect - a0.Aspect)) else (W (a0.Aspect - a1.Aspect))) == 1) || ((if (W (a1.Aspect - a0.Aspect)) > (W (a0.Aspect - a1.Aspect)) then (W (a1.Aspect - a0.Aspect)) else (W (a0.Aspect - a1.Aspect))) == 7))))], []⟩ ?_ ?_
 ·refine Tri.ret ?_
  exact Rb h rfl
 ·refine Tri.region ?_
  refine Qe 3 rfl ?_
  rcases b2 ((if (W (a1.Aspect - a0.Aspect)) > (W (a0.Aspect - a1.Aspect)) then (W (a1.Aspect - a0.Aspect)) else (W (a0.Aspect - a1.Aspect))) == 0) with hb | hb
  ·refine Qk 19 hb rfl ?_
   refine Qd rfl ?_
   exact (Es0 [4] rfl ⟨.imm (Sub.of_eq (show Ab (((if (W (a1.Aspect - a0.Aspect)) > (W (a0.Aspect - a1.Aspect)) then (W (a1.Aspect - a0.Aspect)) else (W (a0.Aspect - a1.Aspect))) == 0) || (((if (W (a1.Aspect - a0.Aspect)) > (W (a0.Aspect - a1.Aspect)) then (W (a1.Aspect - a0.Aspect)) else (W (a0.Aspect - a1.Aspect))) == 1) || ((if (W (a1.Aspect - a0.Aspect)) > (W (a0.Aspect - a1.Aspect)) then (W (a1.Aspect - a0.Aspect)) else (W (a0.Aspect - a1.Aspect))) == 7))) = Ab true by simp only [cond_true, cond_false, Bool.true_or, Bool.false_or, Bool.true_and, Bool.false_and, Bool.or_true, Bool.or_false, Bool.and_true, Bool.and_false, hb])) rfl, trivial⟩)
  ·refine Qk 19 hb rfl ?_
   refine Qe 4 rfl ?_
   rcases b2 ((if (W (a1.Aspect - a0.Aspect)) > (W (a0.Aspect - a1.Aspect)) then (W (a1.Aspect - a0.Aspect)) else (W (a0.Aspect - a1.Aspect))) == 1) with hb_1 | hb_1
   ·refine Qk 23 hb_1 rfl ?_
    refine Qd rfl ?_
    exact (Es0 [4] rfl ⟨.imm (Sub.of_eq (show Ab (((if (W (a1.Aspect - a0.Aspect)) > (W (a0.Aspect - a1.Aspect)) then (W (a1.Aspect - a0.Aspect)) else (W (a0.Aspect - a1.Aspect))) == 0) || (((if (W (a1.Aspect - a0.Aspect)) > (W (a0.Aspect - a1.Aspect)) then (W (a1.Aspect - a0.Aspect)) else (W (a0.Aspect - a1.Aspect))) == 1) || ((if (W (a1.Aspect - a0.Aspect)) > (W (a0.Aspect - a1.Aspect)) then (W (a1.Aspect - a0.Aspect)) else (W (a0.Aspect - a1.Aspect))) == 7))) = Ab true by simp only [cond_true, cond_false, Bool.true_or, Bool.false_or, Bool.true_and, Bool.false_and, Bool.or_true, Bool.or_false, Bool.and_true, Bool.and_false, hb, hb_1])) rfl, trivial⟩)
   ·refine Qk 23 hb_1 rfl ?_
    refine Qd rfl ?_
    exact (Es0 [4] rfl ⟨.imm (Sub.of_eq (show Ab (((if (W (a1.Aspect - a0.Aspect)) > (W (a0.Aspect - a1.Aspect)) then (W (a1.Aspect - a0.Aspect)) else (W (a0.Aspect - a1.Aspect))) == 0) || (((if (W (a1.Aspect - a0.Aspect)) > (W (a0.Aspect - a1.Aspect)) then (W (a1.Aspect - a0.Aspect)) else (W (a0.Aspect - a1.Aspect))) == 1) || ((if (W (a1.Aspect - a0.Aspect)) > (W (a0.Aspect - a1.Aspect)) then (W (a1.Aspect - a0.Aspect)) else (W (a0.Aspect - a1.Aspect))) == 7))) = Ab ((if (W (a1.Aspect - a0.Aspect)) > (W (a0.Aspect - a1.Aspect)) then (W (a1.Aspect - a0.Aspect)) else (W (a0.Aspect - a1.Aspect))) == 7) by simp only [cond_true, cond_false, Bool.true_or, Bool.false_or, Bool.true_and, Bool.false_and, Bool.or_true, Bool.or_false, Bool.and_true, Bool.and_false, hb, hb_1])) rfl, trivial⟩)
theorem f70_ok {K : Nat} {a0 : Cell} {a1 : Cell} {r : Bool × Int} (h : f70 K a0 a1 = some r) : CallOK Tryz.prog 70 [.agg (Cell.cl a0), .agg (Cell.cl a1)] [] (.tup [Ab r.1, Ai r.2]) [] := by
 refine CallOK.of_tri Tryz.func70 rfl rfl (Nat.le_of_ble_eq_true rfl) ?_
 unfold f70 at h
 refine Tp rfl ?_
 refine Tri.seq ?_
 refine Tri.seq ?_
 obtain ⟨v13, hj, h⟩ := bind_some h
 refine Tri.joinv v13 (fun (y : Bool) => ⟨[(2, .ipt (Cell.cl a0) 0), (3, .ipt (Cell.cl a1) 0), (13, Ab y)], []⟩) ?_ ?_
 ·refine Tri.cond (b := v13) rfl (fun hb => ?_) (fun hb => ?_)
  ·have h := cond_t hb h
   refine Tp rfl ?_
   refine Tri.ret ?_
   refine Rr (fun r => .tup [Ab r.1, Ai r.2]) (fun r => []) [] h ?_ trivial
   rfl
  ·have h := cond_f hb h
   refine Tri.skip ?_
   refine Tr ?_
   refine Qe 2 rfl ?_
   obtain ⟨x16, hc, h⟩ := bind_some h
   refine Qc rfl rfl rfl (args := [.agg (Cell.cl a0), .agg (Cell.cl a1)]) (r := Ab x16) (calv rfl rfl fnok_179 rfl) (f179_ok hc) rfl ?_
   refine Qd rfl ?_
   refine Tri.ret ?_
   refine Rr (fun r => .tup [Ab r.1, Ai r.2]) (fun r => []) [] h ?_ trivial
   rfl
 ·have h := hj
  refine Tri.region ?_
  refine Qe 1 rfl ?_
  obtain ⟨x7, hc_1, h⟩ := bind_some h
  refine Qc rfl rfl rfl (args := [.agg (Cell.cl a0)]) (r := Ab x7) (calv rfl rfl fnok_178 rfl) (f178_ok hc_1) rfl ?_
  refine Qe 2 rfl ?_
  rcases b2 (!x7) with hb_1 | hb_1
  ·have h := cond_t hb_1 h
   refine Qk 9 hb_1 rfl ?_
   refine Qd rfl ?_
   exact Exists.intro true (And.intro h (E0 rfl))
  ·have h := cond_f hb_1 h
   refine Qk 9 hb_1 rfl ?_
   refine Qe 1 rfl ?_
   obtain ⟨x11, hc_2, h⟩ := bind_some h
   refine Qc rfl rfl rfl (args := [.agg (Cell.cl a1)]) (r := Ab x11) (calv rfl rfl fnok_178 rfl) (f178_ok hc_2) rfl ?_
   refine Qd rfl ?_
   exact Exists.intro (!x11) (And.intro h (E0 rfl))
theorem f75_ok {K : Nat} {a0 : Basin} {r : Int} (h : f75 K a0 = some r) : CallOK Tryz.prog 75 [.agg (Basin.cl a0)] [] (Ai r) [] := by
 refine CallOK.of_tri Tryz.func75 rfl rfl (Nat.le_of_ble_eq_true rfl) ?_
 unfold f75 at h
 refine Tp rfl ?_
 refine Tri.seq ?_
 refine Tri.seq ?_
 obtain ⟨v41, hj_5, h⟩ := bind_some h
 refine Tri.joinv v41 (fun (y : Bool) => ⟨[(1, .ipt (Basin.cl a0) 0), (41, Ab y)], []⟩) ?_ ?_
 ·refine Tri.cond (b := v41) rfl (fun hb => ?_) (fun hb => ?_)
  ·have h := cond_t hb h
   refine Tp rfl ?_
   refine Tri.ret ?_
   exact Ri h rfl
  ·have h := cond_f hb h
   refine Tri.skip ?_
   refine Tri.seq ?_
   refine Tp rfl ?_
   obtain ⟨j, hj, h⟩ := jo h
   refine Tri.rngL h (fun p => ⟨[(1, .ipt (Basin.cl a0) 0), (3, Ai p.1)], []⟩) (fun y => j y = some r) (fun (y : Unit) => ⟨[(1, .ipt (Basin.cl a0) 0)], []⟩) (E0 rfl) ?_ ?_ ?_
   ·rintro ⟨⟩ h
    subst hj
    refine Tri.seq ?_
    refine Tp rfl ?_
    obtain ⟨j_1, hj_1, h⟩ := jo h
    refine Tri.rngL h (fun p => ⟨[(1, .ipt (Basin.cl a0) 0), (4, Ai p.1)], []⟩) (fun y => j_1 y = some r) (fun (y : Unit) => ⟨[], []⟩) (E0 rfl) ?_ ?_ ?_
    ·rintro ⟨⟩ h
     subst hj_1
     refine Tp rfl ?_
     refine Tri.ret ?_
     exact Ri h rfl
    ·rintro v4 ⟨⟩ hi_1 h
     refine Tri.seq ?_
     refine Tr ?_
     refine Qe 3 rfl ?_
     refine Q1 rfl rfl rfl (Ax.ln (cl := Arr2_3.cl) rfl slc_23 rfl) ?_
     refine Qd rfl ?_
     refine Tri.cond (b := (decide (v4 < (a0.Pairs.length : Int)))) rfl (fun hb_1 => ?_) (fun hb_1 => ?_)
     ·exact (lt_f hi_1 hb_1).elim
     ·refine Tri.exit ?_
      exact Exists.intro () (And.intro h (E0 rfl))
    ·rintro nx_1 x_1 v4 ⟨⟩ _ hi_1 hw_1 hx_1 h
     refine Tri.seq ?_
     refine Tr ?_
     refine Qe 3 rfl ?_
     refine Q1 rfl rfl rfl (Ax.ln (cl := Arr2_3.cl) rfl slc_23 rfl) ?_
     refine Qd rfl ?_
     refine Tri.cond (b := (decide (v4 < (a0.Pairs.length : Int)))) rfl (fun hb_2 => ?_) (fun hb_2 => ?_)
     ·refine Tri.skip ?_
      refine Tri.seq ?_
      refine Tri.block ?_
      refine Tr ?_
      refine Qe 3 rfl ?_
      refine Q1 rfl rfl rfl (Ax.ix (cl := Arr2_3.cl) rfl slc_23 rfl rfl hx_1) ?_
      refine Qe 1 rfl ?_
      refine Qn rfl rfl rfl (v := .ptr 5 0) (x := some (.box (Arr2_3.cl (⟨0, 0⟩ : Arr2_3)))) (Ax.alloc rfl rfl zer_97 rfl ⟨Sub.refl _, Sub.refl _, trivial⟩) rfl rfl rfl rfl rfl ?_
      refine Qs rfl rfl (x := some (.box (Arr2_3.cl x_1))) (Ax.st_box rfl siz_97 rfl rfl rfl rfl rfl rfl rfl) ?_
      refine RunD.done ?_
      refine Tri.seq ?_
      refine Tri.seq ?_
      obtain ⟨v129, hj_3, h⟩ := bind_some h
      refine Tri.joinv v129 (fun (y : Bool) => ⟨[(1, .ipt (Basin.cl a0) 0), (4, Ai v4), (5, .ptr 5 0), (129, Ab y)], [(5, some (.box (Arr2_3.cl x_1)))]⟩) ?_ ?_
      ·refine Tri.cond (b := v129) rfl (fun hb_3 => ?_) (fun hb_3 => ?_)
       ·have h := cond_t hb_3 h
        refine Tp rfl ?_
        refine Tri.ret ?_
        exact Ri h rfl
       ·have h := cond_f hb_3 h
        refine Tri.skip ?_
        refine Tp rfl ?_
        obtain ⟨j_2, hj_2, h⟩ := jo h
        refine Tri.rngN h (fun p => ⟨[(1, .ipt (Basin.cl a0) 0), (4, Ai v4), (5, .ptr 5 0), (6, Ai p.1)], [(5, some (.box (Arr2_3.cl x_1)))]⟩) (fun y => j_2 y = some r) (fun (y : Unit) => ⟨[(1, .ipt (Basin.cl a0) 0), (4, Ai v4)], []⟩) (Ee [5] rfl trivial) ?_ ?_ ?_
        ·rintro ⟨⟩ h
         subst hj_2
         refine Tq rfl ?_
         exact Exists.intro (v4 + 1, ()) (And.intro (And.intro rfl h) (Es0 [4] rfl ⟨.imm (Sub.of_eq (show Ai (v4 + 1) = Ai (W (v4 + 1)) from congrArg Ai hw_1.symm)) rfl, trivial⟩))
        ·rintro v6 ⟨⟩ hi_2 _ h
         refine Tri.seq ?_
         refine Tp rfl ?_
         refine Tri.cond (b := (decide (v6 < v4))) rfl (fun hb_4 => ?_) (fun hb_4 => ?_)
         ·exact (lt_f hi_2 hb_4).elim
         ·refine Tri.exit ?_
          exact Exists.intro () (And.intro h (E0 rfl))
        ·rintro nx_2 v6 ⟨⟩ _ hi_2 hw_2 h
         refine Tri.seq ?_
         refine Tp rfl ?_
         refine Tri.cond (b := (decide (v6 < v4))) rfl (fun hb_5 => ?_) (fun hb_5 => ?_)
         ·refine Tri.skip ?_
          refine Tri.seq ?_
          refine Tri.block ?_
          refine Tr ?_
          refine Qe 3 rfl ?_
          obtain ⟨y, hy, h⟩ := bind_some h
          refine Q1 rfl rfl rfl (Ax.ix (cl := Arr2_3.cl) rfl slc_23 rfl rfl hy) ?_
          refine Qe 1 rfl ?_
          refine Qn rfl rfl rfl (v := .ptr 7 0) (x := some (.box (Arr2_3.cl (⟨0, 0⟩ : Arr2_3)))) (Ax.alloc rfl rfl zer_97 rfl ⟨Sub.refl _, Sub.refl _, trivial⟩) rfl rfl rfl rfl rfl ?_
          refine Qs rfl rfl (x := some (.box (Arr2_3.cl y))) (Ax.st_box rfl siz_97 rfl rfl rfl rfl rfl rfl rfl) ?_
          refine RunD.done ?_
          refine Tri.seq ?_
          refine Tri.join1 ⟨[(1, .ipt (Basin.cl a0) 0), (4, Ai v4), (5, .ptr 5 0), (6, Ai v6), (165, Ab (bif (y.a0 == x_1.a0) then ((y.a1 == x_1.a1) || ((y.a0 == x_1.a1) && (y.a1 == x_1.a0))) else ((y.a0 == x_1.a1) && (y.a1 == x_1.a0))))], [(5, some (.box (Arr2_3.cl x_1)))]⟩ ?_ ?_
          ·refine Tri.cond (b := (bif (y.a0 == x_1.a0) then ((y.a1 == x_1.a1) || ((y.a0 == x_1.a1) && (y.a1 == x_1.a0))) else ((y.a0 == x_1.a1) && (y.a1 == x_1.a0)))) rfl (fun hb_6 => ?_) (fun hb_6 => ?_)
           ·have h := cond_t hb_6 h
            refine Tp rfl ?_
            refine Tri.ret ?_
            exact Ri h rfl
           ·have h := cond_f hb_6 h
            refine Tri.skip ?_
            refine Tq rfl ?_
            exact Exists.intro (v6 + 1, ()) (And.intro (And.intro rfl h) (Es [5] [6] rfl trivial ⟨.imm (Sub.of_eq (show Ai (v6 + 1) = Ai (W (v6 + 1)) from congrArg Ai hw_2.symm)) rfl, trivial⟩))
          ·refine Tri.region ?_
           refine Q1 rfl rfl rfl (Ax.index_ptr (k := .i64) (n := 0) rfl arr_97 rfl rfl rfl (by decide) (by decide)) ?_
           refine Qe 1 rfl ?_
           refine Q1 rfl rfl rfl (Ax.index_ptr (k := .i64) (n := 0) rfl arr_97 rfl rfl rfl (by decide) (by decide)) ?_
           refine Qe 3 rfl ?_
           rcases b2 (y.a0 == x_1.a0) with hb_7 | hb_7
           ·refine Qk 145 hb_7 rfl ?_
            refine Q1 rfl rfl rfl (Ax.index_ptr (k := .i64) (n := 1) rfl arr_97 rfl rfl rfl (by decide) (by decide)) ?_
            refine Qe 1 rfl ?_
            refine Q1 rfl rfl rfl (Ax.index_ptr (k := .i64) (n := 1) rfl arr_97 rfl rfl rfl (by decide) (by decide)) ?_
            refine Qe 4 rfl ?_
            rcases b2 (y.a1 == x_1.a1) with hb_8 | hb_8
            ·refine Qk 152 hb_8 rfl ?_
             refine Qd rfl ?_
             exact (Es [5] [165] rfl trivial ⟨.imm (Sub.of_eq (show Ab (bif (y.a0 == x_1.a0) then ((y.a1 == x_1.a1) || ((y.a0 == x_1.a1) && (y.a1 == x_1.a0))) else ((y.a0 == x_1.a1) && (y.a1 == x_1.a0))) = Ab true by simp only [cond_true, cond_false, Bool.true_or, Bool.false_or, Bool.true_and, Bool.false_and, Bool.or_true, Bool.or_false, Bool.and_true, Bool.and_false, hb, hb_2, hb_3, hb_5, hb_7, hb_8])) rfl, trivial⟩)
            ·refine Qk 152 hb_8 rfl ?_
             refine Q1 rfl rfl rfl (Ax.index_ptr (k := .i64) (n := 0) rfl arr_97 rfl rfl rfl (by decide) (by decide)) ?_
             refine Qe 1 rfl ?_
             refine Q1 rfl rfl rfl (Ax.index_ptr (k := .i64) (n := 1) rfl arr_97 rfl rfl rfl (by decide) (by decide)) ?_
             refine Qe 3 rfl ?_
             rcases b2 (y.a0 == x_1.a1) with hb_9 | hb_9
             ·refine Qk 158 hb_9 rfl ?_
              refine Q1 rfl rfl rfl (Ax.index_ptr (k := .i64) (n := 1) rfl arr_97 rfl rfl rfl (by decide) (by decide)) ?_
              refine Qe 1 rfl ?_
              refine Q1 rfl rfl rfl (Ax.index_ptr (k := .i64) (n := 0) rfl arr_97 rfl rfl rfl (by decide) (by decide)) ?_
              refine Qd rfl ?_
              exact (Es [5] [165] rfl trivial ⟨.imm (Sub.of_eq (show Ab (bif (y.a0 == x_1.a0) then ((y.a1 == x_1.a1) || ((y.a0 == x_1.a1) && (y.a1 == x_1.a0))) else ((y.a0 == x_1.a1) && (y.a1 == x_1.a0))) = Ab (y.a1 == x_1.a0) by simp only [cond_true, cond_false, Bool.true_or, Bool.false_or, Bool.true_and, Bool.false_and, Bool.or_true, Bool.or_false, Bool.and_true, Bool.and_false, hb, hb_2, hb_3, hb_5, hb_7, hb_8, hb_9])) rfl, trivial⟩)
             ·refine Qk 158 hb_9 rfl ?_
              refine Qd rfl ?_
              exact (Es [5] [165] rfl trivial ⟨.imm (Sub.of_eq (show Ab (bif (y.a0 == x_1.a0) then ((y.a1 == x_1.a1) || ((y.a0 == x_1.a1) && (y.a1 == x_1.a0))) else ((y.a0 == x_1.a1) && (y.a1 == x_1.a0))) = Ab false by simp only [cond_true, cond_false, Bool.true_or, Bool.false_or, Bool.true_and, Bool.false_and, Bool.or_true, Bool.or_false, Bool.and_true, Bool.and_false, hb, hb_2, hb_3, hb_5, hb_7, hb_8, hb_9])) rfl, trivial⟩)
           ·refine Qk 145 hb_7 rfl ?_
            refine Qe 7 rfl ?_
            refine Q1 rfl rfl rfl (Ax.index_ptr (k := .i64) (n := 0) rfl arr_97 rfl rfl rfl (by decide) (by decide)) ?_
            refine Qe 1 rfl ?_
            refine Q1 rfl rfl rfl (Ax.index_ptr (k := .i64) (n := 1) rfl arr_97 rfl rfl rfl (by decide) (by decide)) ?_
            refine Qe 3 rfl ?_
            rcases b2 (y.a0 == x_1.a1) with hb_10 | hb_10
            ·refine Qk 158 hb_10 rfl ?_
             refine Q1 rfl rfl rfl (Ax.index_ptr (k := .i64) (n := 1) rfl arr_97 rfl rfl rfl (by decide) (by decide)) ?_
             refine Qe 1 rfl ?_
             refine Q1 rfl rfl rfl (Ax.index_ptr (k := .i64) (n := 0) rfl arr_97 rfl rfl rfl (by decide) (by decide)) ?_
             refine Qd rfl ?_
             exact (Es [5] [165] rfl trivial ⟨.imm (Sub.of_eq (show Ab (bif (y.a0 == x_1.a0) then ((y.a1 == x_1.a1) || ((y.a0 == x_1.a1) && (y.a1 == x_1.a0))) else ((y.a0 == x_1.a1) && (y.a1 == x_1.a0))) = Ab (y.a1 == x_1.a0) by simp only [cond_true, cond_false, Bool.true_or, Bool.false_or, Bool.true_and, Bool.false_and, Bool.or_true, Bool.or_false, Bool.and_true, Bool.and_false, hb, hb_2, hb_3, hb_5, hb_7, hb_10])) rfl, trivial⟩)
            ·refine Qk 158 hb_10 rfl ?_
             refine Qd rfl ?_
             exact (Es [5] [165] rfl trivial ⟨.imm (Sub.of_eq (show Ab (bif (y.a0 == x_1.a0) then ((y.a1 == x_1.a1) || ((y.a0 == x_1.a1) && (y.a1 == x_1.a0))) else ((y.a0 == x_1.a1) && (y.a1 == x_1.a0))) = Ab false by simp only [cond_true, cond_false, Bool.true_or, Bool.false_or, Bool.true_and, Bool.false_and, Bool.or_true, Bool.or_false, Bool.and_true, Bool.and_false, hb, hb_2, hb_3, hb_5, hb_7, hb_10])) rfl, trivial⟩)
         ·exact (lt_t hi_2 hb_5).elim
      ·have h := hj_3
       refine Tri.drawn [[], [0], [], [2], [2, 3], [2, 3, 4], [0, 1, 2, 3, 4, 5], [0, 1, 2, 3, 4, 5, 6], [0, 1, 2, 3, 4, 5, 6, 7], [0, 1, 2, 3, 4, 5, 6, 7, 8], [0, 1, 2, 3, 4, 5, 6, 7, 8, 9], [0, 1, 2, 3, 4, 5, 6, 7, 8], [0, 1, 2, 3, 4, 5, 6, 7, 8, 11], [0, 1, 2, 3, 4, 5, 6, 7, 8, 11, 12], [0, 1, 2, 3, 4, 5, 6, 7, 8, 11, 12, 13], [0, 1, 2, 3, 4, 5, 6, 7, 8, 9, 10, 11, 12, 13, 14], [0, 1, 2, 3, 4, 5, 6, 7, 8, 9, 10, 11, 12, 13, 14, 15], [0, 1, 2, 3, 4, 5, 6, 7, 8, 9, 10, 11, 12, 13, 14, 15, 16], [0, 1, 2, 3, 4, 5, 6, 7, 8, 9, 10, 11, 12, 13, 14, 15, 16, 17], [0, 1, 2, 3, 4, 5, 6, 7, 8, 9, 10, 11, 12, 13, 14, 15, 16, 17, 18], [0, 1, 2, 3, 4, 5, 6, 7, 8, 9, 10, 11, 12, 13, 14, 15, 16, 17, 18, 19], [0, 1, 2, 3, 4, 5, 6, 7, 8, 9, 10, 11, 12, 13, 14, 15, 16, 17, 18], [0, 1, 2, 3, 4, 5, 6, 7, 8, 9, 10, 11, 12, 13, 14, 15, 16, 17, 18, 21], [0, 1, 2, 3, 4, 5, 6, 7, 8, 9, 10, 11, 12, 13, 14, 15, 16, 17, 18, 19, 20, 21, 22], [0, 1, 2, 3, 4, 5, 6, 7, 8, 9, 10, 11, 12, 13, 14, 15, 16, 17, 18, 19, 20, 21, 22, 23], [0, 1, 2, 3, 4, 5, 6, 7, 8, 9, 10, 11, 12, 13, 14, 15, 16, 17, 18, 19, 20, 21, 22, 23, 24], [0, 1, 2, 3, 4, 5, 6, 7, 8, 9, 10, 11, 12, 13, 14, 15, 16, 17, 18, 19, 20, 21, 22, 23, 24, 25], [0, 1, 2, 3, 4, 5, 6, 7, 8, 9, 10, 11, 12, 13, 14, 15, 16, 17, 18, 19, 20, 21, 22, 23, 24, 25, 26], [0, 1, 2, 3, 4, 5, 6, 7, 8, 9, 10, 11, 12, 13, 14, 15, 16, 17, 18, 19, 20, 21, 22, 23, 24, 25], [0, 1, 2, 3, 4, 5, 6, 7, 8, 9, 10, 11, 12, 13, 14, 15, 16, 17, 18, 19, 20, 21, 22, 23, 24, 25, 28], [0, 1, 2, 3, 4, 5, 6, 7, 8, 9, 10, 11, 12, 13, 14, 15, 16, 17, 18, 19, 20, 21, 22, 23, 24, 25, 26, 27, 28, 29], [0, 1, 2, 3, 4, 5, 6, 7, 8, 9, 10, 11, 12, 13, 14, 15, 16, 17, 18, 19, 20, 21, 22, 23, 24, 25, 26, 27, 28, 29, 30], [0, 1, 2, 3, 4, 5, 6, 7, 8, 9, 10, 11, 12, 13, 14, 15, 16, 17, 18, 19, 20, 21, 22, 23, 24, 25, 26, 27, 28, 29, 30, 31], [0, 1, 2, 3, 4, 5, 6, 7, 8, 9, 10, 11, 12, 13, 14, 15, 16, 17, 18, 19, 20, 21, 22, 23, 24, 25], [0, 1, 2, 3, 4, 5, 6, 7, 8, 9, 10, 11, 12, 13, 14, 15, 16, 17, 18, 19, 20, 21, 22, 23, 24, 25, 33], [0, 1, 2, 3, 4, 5, 6, 7, 8, 9, 10, 11, 12, 13, 14, 15, 16, 17, 18, 19, 20, 21, 22, 23, 24, 25], [0, 1, 2, 3, 4, 5, 6, 7, 8, 9, 10, 11, 12, 13, 14, 15, 16, 17, 18, 19, 20, 21, 22, 23, 24, 25, 35], [0, 1, 2, 3, 4, 5, 6, 7, 8, 9, 10, 11, 12, 13, 14, 15, 16, 17, 18, 19, 20, 21, 22, 23, 24, 25, 33, 34, 35, 36], [0, 1, 2, 3, 4, 5, 6, 7, 8, 9, 10, 11, 12, 13, 14, 15, 16, 17, 18, 19, 20, 21, 22, 23, 24, 25, 33, 34, 35, 36, 37], [0, 1, 2, 3, 4, 5, 6, 7, 8, 9, 10, 11, 12, 13, 14, 15, 16, 17, 18, 19, 20, 21, 22, 23, 24, 25, 33, 34, 35, 36, 37, 38], [0, 1, 2, 3, 4, 5, 6, 7, 8, 9, 10, 11, 12, 13, 14, 15, 16, 17, 18, 19, 20, 21, 22, 23, 24, 25, 26, 27, 28, 29, 30, 31, 32, 33, 34, 35, 36, 37, 38, 39], [0, 1, 2, 3, 4, 5, 6, 7, 8, 9, 10, 11, 12, 13, 14, 15, 16, 17, 18, 19, 20, 21, 22, 23, 24, 25, 26, 27, 28, 29, 30, 31, 32, 33, 34, 35, 36, 37, 38, 39, 40]] hmix (by kernel_rfl) ?_
       refine Q1 rfl rfl rfl (Ax.index_ptr (k := .i64) (n := 0) rfl arr_97 rfl rfl rfl (by decide) (by decide)) ?_
       refine Qe 3 rfl ?_
       refine Q1 rfl rfl rfl (Ax.ln (cl := Cell.cl) rfl slc_22 rfl) ?_
       refine Qe 1 rfl ?_
       obtain ⟨x94, hc, h⟩ := bind_some h
       refine Qc rfl rfl rfl (args := [Ai x_1.a0, Ai (W ((a0.Cells.length : Int) - 1))]) (r := Ab x94) (calv rfl rfl fnok_182 rfl) (f182_ok hc) rfl ?_
       refine Qe 2 rfl ?_
       rcases b2 (!x94) with hb_11 | hb_11
       ·have h := cond_t hb_11 h
        refine Qk 96 hb_11 rfl ?_
        refine Qe 33 rfl ?_
        refine RunD.done ⟨by kernel_rfl, freshL_of [] (by kernel_rfl) (by kernel_rfl), ?_⟩
        exact Exists.intro true (And.intro h (Ee [5] rfl trivial))
       ·have h := cond_f hb_11 h
        refine Qk 96 hb_11 rfl ?_
        refine Q1 rfl rfl rfl (Ax.index_ptr (k := .i64) (n := 1) rfl arr_97 rfl rfl rfl (by decide) (by decide)) ?_
        refine Qe 3 rfl ?_
        refine Q1 rfl rfl rfl (Ax.ln (cl := Cell.cl) rfl slc_22 rfl) ?_
        refine Qe 1 rfl ?_
        obtain ⟨x103, hc_1, h⟩ := bind_some h
        refine Qc rfl rfl rfl (args := [Ai x_1.a1, Ai (W ((a0.Cells.length : Int) - 1))]) (r := Ab x103) (calv rfl rfl fnok_182 rfl) (f182_ok hc_1) rfl ?_
        refine Qe 3 rfl ?_
        rcases b2 (!x103) with hb_12 | hb_12
        ·have h := cond_t hb_12 h
         refine Qk 106 hb_12 rfl ?_
         refine Qe 23 rfl ?_
         refine RunD.done ⟨by kernel_rfl, freshL_of [] (by kernel_rfl) (by kernel_rfl), ?_⟩
         exact Exists.intro true (And.intro h (Ee [5] rfl trivial))
        ·have h := cond_f hb_12 h
         refine Qk 106 hb_12 rfl ?_
         refine Q1 rfl rfl rfl (Ax.index_ptr (k := .i64) (n := 0) rfl arr_97 rfl rfl rfl (by decide) (by decide)) ?_
         refine Qe 1 rfl ?_
         refine Q1 rfl rfl rfl (Ax.index_ptr (k := .i64) (n := 1) rfl arr_97 rfl rfl rfl (by decide) (by decide)) ?_
         refine Qe 4 rfl ?_
         rcases b2 (x_1.a0 == x_1.a1) with hb_13 | hb_13
         ·have h := cond_t hb_13 h
          refine Qk 113 hb_13 rfl ?_
          refine Qe 16 rfl ?_
          refine RunD.done ⟨by kernel_rfl, freshL_of [] (by kernel_rfl) (by kernel_rfl), ?_⟩
          exact Exists.intro true (And.intro h (Ee [5] rfl trivial))
         ·have h := cond_f hb_13 h
          refine Qk 113 hb_13 rfl ?_
          refine Qe 2 rfl ?_
          refine Q1 rfl rfl rfl (Ax.index_ptr (k := .i64) (n := 0) rfl arr_97 rfl rfl rfl (by decide) (by decide)) ?_
          refine Qe 1 rfl ?_
          obtain ⟨y_1, hy_1, h⟩ := bind_some h
          refine Q1 rfl rfl rfl (Ax.ix (cl := Cell.cl) rfl slc_22 rfl rfl hy_1) ?_
          refine Qe 4 rfl ?_
          refine Q1 rfl rfl rfl (Ax.index_ptr (k := .i64) (n := 1) rfl arr_97 rfl rfl rfl (by decide) (by decide)) ?_
          refine Qe 1 rfl ?_
          obtain ⟨y_2, hy_2, h⟩ := bind_some h
          refine Q1 rfl rfl rfl (Ax.ix (cl := Cell.cl) rfl slc_22 rfl rfl hy_2) ?_
          refine Qe 4 rfl ?_
          refine RunD.done ⟨by kernel_rfl, freshL_of [] (by kernel_rfl) (by kernel_rfl), ?_⟩
          exact Exists.intro (decide (y_1.Height > y_2.Height)) (And.intro h (Ee [5] rfl trivial))
     ·exact (lt_t hi_1 hb_2).elim
   ·rintro v3 ⟨⟩ hi h
    refine Tri.seq ?_
    refine Tr ?_
    refine Qe 3 rfl ?_
    refine Q1 rfl rfl rfl (Ax.ln (cl := Cell.cl) rfl slc_22 rfl) ?_
    refine Qd rfl ?_
    refine Tri.cond (b := (decide (v3 < (a0.Cells.length : Int)))) rfl (fun hb_14 => ?_) (fun hb_14 => ?_)
    ·exact (lt_f hi hb_14).elim
    ·refine Tri.exit ?_
     exact Exists.intro () (And.intro h (E0 rfl))
   ·rintro nx x v3 ⟨⟩ _ hi hw hx h
    refine Tri.seq ?_
    refine Tr ?_
    refine Qe 3 rfl ?_
    refine Q1 rfl rfl rfl (Ax.ln (cl := Cell.cl) rfl slc_22 rfl) ?_
    refine Qd rfl ?_
    refine Tri.cond (b := (decide (v3 < (a0.Cells.length : Int)))) rfl (fun hb_15 => ?_) (fun hb_15 => ?_)
    ·refine Tri.skip ?_
     refine Tri.seq ?_
     refine Tri.block ?_
     refine Tri.seq ?_
     obtain ⟨v75, hj_4, h⟩ := bind_some h
     refine Tri.joinv v75 (fun (y : Bool) => ⟨[(1, .ipt (Basin.cl a0) 0), (3, Ai v3), (75, Ab y)], []⟩) ?_ ?_
     ·refine Tri.cond (b := v75) rfl (fun hb_16 => ?_) (fun hb_16 => ?_)
      ·have h := cond_t hb_16 h
       refine Tp rfl ?_
       refine Tri.ret ?_
       exact Ri h rfl
      ·have h := cond_f hb_16 h
       refine Tri.skip ?_
       refine Tq rfl ?_
       exact Exists.intro (v3 + 1, ()) (And.intro (And.intro rfl h) (Es0 [3] rfl ⟨.imm (Sub.of_eq (show Ai (v3 + 1) = Ai (W (v3 + 1)) from congrArg Ai hw.symm)) rfl, trivial⟩))
     ·have h := hj_4
      refine Tri.drawn [[], [0], [], [0, 1, 2], [0, 1, 2, 3], [0, 1, 2, 3, 4], [0, 1, 2, 3, 4, 5], [0, 1, 2, 3, 4, 5, 6], [0, 1, 2, 3, 4, 5, 6, 7], [0, 1, 2, 3, 4, 5, 6, 7, 8], [0, 1, 2, 3, 4, 5, 6, 7, 8, 9], [0, 1, 2, 3, 4, 5, 6, 7, 8, 9, 10], [0, 1, 2, 3, 4, 5, 6, 7, 8, 9, 10, 11], [0, 1, 2, 3, 4, 5, 6, 7, 8, 9, 10], [0, 1, 2, 3, 4, 5, 6, 7, 8, 9, 10, 13], [0, 1, 2, 3, 4, 5, 6, 7, 8, 9, 10, 11, 12, 13, 14], [0, 1, 2, 3, 4, 5, 6, 7, 8, 9, 10, 11, 12, 13, 14, 15], [0, 1, 2, 3, 4, 5, 6, 7, 8, 9, 10, 11, 12, 13, 14, 15, 16], [0, 1, 2, 3, 4, 5, 6, 7, 8, 9, 10], [0, 1, 2, 3, 4, 5, 6, 7, 8, 9, 10, 18], [0, 1, 2, 3, 4, 5, 6, 7, 8, 9, 10], [0, 1, 2, 3, 4, 5, 6, 7, 8, 9, 10, 18, 19, 20], [0, 1, 2, 3, 4, 5, 6, 7, 8, 9, 10, 18, 19, 20, 21], [0, 1, 2, 3, 4, 5, 6, 7, 8, 9, 10, 18, 19, 20, 21, 22], [0, 1, 2, 3, 4, 5, 6, 7, 8, 9, 10, 11, 12, 13, 14, 15, 16, 17, 18, 19, 20, 21, 22, 23], [0, 1, 2, 3, 4, 5, 6, 7, 8, 9, 10, 11, 12, 13, 14, 15, 16, 17, 18, 19, 20, 21, 22, 23, 24], [0, 1, 2, 3, 4, 5, 6, 7, 8, 9, 10, 11, 12, 13, 14, 15, 16, 17, 18, 19, 20, 21, 22, 23, 24, 25]] hmix (by kernel_rfl) ?_
      refine Qe 3 rfl ?_
      refine Q1 rfl rfl rfl (Ax.ix (cl := Cell.cl) rfl slc_22 rfl rfl hx) ?_
      refine Qe 1 rfl ?_
      obtain ⟨x54, hc_2, h⟩ := bind_some h
      refine Qc rfl rfl rfl (args := [.agg (Cell.cl x)]) (r := Ab x54) (calv rfl rfl fnok_178 rfl) (f178_ok hc_2) rfl ?_
      refine Qe 2 rfl ?_
      rcases b2 (!x54) with hb_17 | hb_17
      ·have h := cond_t hb_17 h
       refine Qk 56 hb_17 rfl ?_
       refine Qe 19 rfl ?_
       refine RunD.done ⟨by kernel_rfl, freshL_of [] (by kernel_rfl) (by kernel_rfl), ?_⟩
       exact Exists.intro true (And.intro h (E0 rfl))
      ·have h := cond_f hb_17 h
       refine Qk 56 hb_17 rfl ?_
       refine Qe 3 rfl ?_
       rcases b2 (decide (v3 > 0)) with hb_18 | hb_18
       ·have h := cond_t hb_18 h
        refine Qk 59 hb_18 rfl ?_
        refine Qe 4 rfl ?_
        obtain ⟨y_3, hy_3, h⟩ := bind_some h
        refine Q1 rfl rfl rfl (Ax.ix (cl := Cell.cl) rfl slc_22 rfl rfl hy_3) ?_
        refine Qe 5 rfl ?_
        refine Q1 rfl rfl rfl (Ax.ix (cl := Cell.cl) rfl slc_22 rfl rfl hx) ?_
        refine Qe 5 rfl ?_
        refine RunD.done ⟨by kernel_rfl, freshL_of [] (by kernel_rfl) (by kernel_rfl), ?_⟩
        exact Exists.intro (decide (y_3.No ≥ x.No)) (And.intro h (E0 rfl))
       ·have h := cond_f hb_18 h
        refine Qk 59 hb_18 rfl ?_
        refine Qe 16 rfl ?_
        refine RunD.done ⟨by kernel_rfl, freshL_of [] (by kernel_rfl) (by kernel_rfl), ?_⟩
        exact Exists.intro false (And.intro h (E0 rfl))
    ·exact (lt_t hi hb_15).elim
 ·have h := hj_5
  refine Tri.region ?_
  refine Qe 2 rfl ?_
  refine Q1 rfl rfl rfl (Ax.ln (cl := Cell.cl) rfl slc_22 rfl) ?_
  refine Qe 2 rfl ?_
  rcases b2 (decide ((a0.Cells.length : Int) < 1)) with hb_19 | hb_19
  ·have h := cond_t hb_19 h
   refine Qk 12 hb_19 rfl ?_
   refine Qd rfl ?_
   exact Exists.intro true (And.intro h (E0 rfl))
  ·have h := cond_f hb_19 h
   refine Qk 12 hb_19 rfl ?_
   refine Qe 2 rfl ?_
   refine Q1 rfl rfl rfl (Ax.ln (cl := Cell.cl) rfl slc_22 rfl) ?_
   refine Qe 3 rfl ?_
   rcases b2 (decide ((a0.Cells.length : Int) > 12)) with hb_20 | hb_20
   ·have h := cond_t hb_20 h
    refine Qk 18 hb_20 rfl ?_
    refine Qd rfl ?_
    exact Exists.intro true (And.intro h (E0 rfl))
   ·have h := cond_f hb_20 h
    refine Qk 18 hb_20 rfl ?_
    refine Qe 2 rfl ?_
    refine Q1 rfl rfl rfl (Ax.ln (cl := Arr2_3.cl) rfl slc_23 rfl) ?_
    refine Qe 3 rfl ?_
    rcases b2 (decide ((a0.Pairs.length : Int) > 24)) with hb_21 | hb_21
    ·have h := cond_t hb_21 h
     refine Qk 24 hb_21 rfl ?_
     refine Qd rfl ?_
     exact Exists.intro true (And.intro h (E0 rfl))
    ·have h := cond_f hb_21 h
     refine Qk 24 hb_21 rfl ?_
     refine Qe 2 rfl ?_
     obtain ⟨x27, hc_3, h⟩ := bind_some h
     refine Qc rfl rfl rfl (args := [Ai a0.Gain, Ai 65536]) (r := Ab x27) (calv rfl rfl fnok_182 rfl) (f182_ok hc_3) rfl ?_
     refine Qe 3 rfl ?_
     rcases b2 (!x27) with hb_22 | hb_22
     ·have h := cond_t hb_22 h
      refine Qk 30 hb_22 rfl ?_
      refine Qd rfl ?_
      exact Exists.intro true (And.intro h (E0 rfl))
     ·have h := cond_f hb_22 h
      refine Qk 30 hb_22 rfl ?_
      refine Qe 2 rfl ?_
      obtain ⟨x33, hc_4, h⟩ := bind_some h
      refine Qc rfl rfl rfl (args := [Ai a0.Slack, Ai 65536]) (r := Ab x33) (calv rfl rfl fnok_182 rfl) (f182_ok hc_4) rfl ?_
      refine Qe 3 rfl ?_
      rcases b2 (!x33) with hb_23 | hb_23
      ·have h := cond_t hb_23 h
       refine Qk 36 hb_23 rfl ?_
       refine Qd rfl ?_
       exact Exists.intro true (And.intro h (E0 rfl))
      ·have h := cond_f hb_23 h
       refine Qk 36 hb_23 rfl ?_
       refine Qe 2 rfl ?_
       obtain ⟨x39, hc_5, h⟩ := bind_some h
       refine Qc rfl rfl rfl (args := [Ai a0.Deep, Ai 65536]) (r := Ab x39) (calv rfl rfl fnok_182 rfl) (f182_ok hc_5) rfl ?_
       refine Qd rfl ?_
       exact Exists.intro (!x39) (And.intro h (E0 rfl))
theorem f180_ok {K : Nat} {a0 : Basin} {a1 : Arr2_3} {r : Int} (h : f180 K a0 a1 = some r) : CallOK Tryz.prog 180 [.agg (Basin.cl a0), .agg (Arr2_3.cl a1)] [] (Ai r) [] := by
 refine CallOK.of_tri Tryz.func180 rfl rfl (Nat.le_of_ble_eq_true rfl) ?_
 unfold f180 at h
 refine Tp rfl ?_
 refine Tri.seq ?_
 refine Tri.drawn [] hmix (by kernel_rfl) ?_
 refine Qe 6 rfl ?_
 refine Q1 rfl rfl rfl (v := .ipt (Arr2_3.cl a1) 1) (Ax.index_ipt (k := .i64) (n := 1) rfl arr_97 rfl rfl (by decide) (by decide)) ?_
 refine Qe 1 rfl ?_
 obtain ⟨y, hy, h⟩ := bind_some h
 refine Q1 rfl rfl rfl (Ax.ix (cl := Cell.cl) rfl slc_22 rfl rfl hy) ?_
 refine Qe 4 rfl ?_
 refine Q1 rfl rfl rfl (v := .ipt (Arr2_3.cl a1) 0) (Ax.index_ipt (k := .i64) (n := 0) rfl arr_97 rfl rfl (by decide) (by decide)) ?_
 refine Qe 1 rfl ?_
 obtain ⟨y_1, hy_1, h⟩ := bind_some h
 refine Q1 rfl rfl rfl (Ax.ix (cl := Cell.cl) rfl slc_22 rfl rfl hy_1) ?_
 refine Qe 4 rfl ?_
 refine Q1 rfl rfl rfl (v := Ai (W (Int.tdiv (W (a0.Gain * (W (y.Height - y_1.Height)))) 100))) (Ax.div rfl rfl rfl (.inl rfl) (by decide)) ?_
 refine Qe 2 rfl ?_
 refine RunD.done ⟨by kernel_rfl, freshL_of [] (by kernel_rfl) (by kernel_rfl), ?_⟩
 refine Tri.ret ?_
 exact Ri h rfl
theorem f71_ok {K : Nat} {a0 : Basin} {a1 : Int} {r : Int × Bool × Int} (h : f71 K a0 a1 = some r) : CallOK Tryz.prog 71 [.agg (Basin.cl a0), Ai a1] [] (.tup [Ai r.1, Ab r.2.1, Ai r.2.2]) [] := by
 refine CallOK.of_tri Tryz.func71 rfl rfl (Nat.le_of_ble_eq_true rfl) ?_
 unfold f71 at h
 refine Tp rfl ?_
 refine Tri.seq ?_
 refine Tr ?_
 refine Qe 1 rfl ?_
 obtain ⟨x9, hc, h⟩ := bind_some h
 refine Qc rfl rfl rfl (args := [.agg (Basin.cl a0)]) (r := Ai x9) (calv rfl rfl fnok_75 rfl) (f75_ok hc) rfl ?_
 refine Qd rfl ?_
 refine Tri.cond (b := (x9 != 0)) rfl (fun hb => ?_) (fun hb => ?_)
 ·have h := cond_t hb h
  refine Tp rfl ?_
  refine Tri.ret ?_
  refine Rr (fun r => .tup [Ai r.1, Ab r.2.1, Ai r.2.2]) (fun r => []) [] h ?_ trivial
  rfl
 ·have h := cond_f hb h
  refine Tri.skip ?_
  refine Tri.seq ?_
  refine Tri.seq ?_
  refine Tri.join1 ⟨[(1, Ai a1), (2, .ipt (Basin.cl a0) 0), (19, Ab ((decide (a1 < 0)) || (decide (a1 ≥ (a0.Pairs.length : Int)))))], []⟩ ?_ ?_
  ·refine Tri.cond (b := ((decide (a1 < 0)) || (decide (a1 ≥ (a0.Pairs.length : Int))))) rfl (fun hb_1 => ?_) (fun hb_1 => ?_)
   ·have h := cond_t hb_1 h
    refine Tp rfl ?_
    refine Tri.ret ?_
    refine Rr (fun r => .tup [Ai r.1, Ab r.2.1, Ai r.2.2]) (fun r => []) [] h ?_ trivial
    rfl
   ·have h := cond_f hb_1 h
    refine Tri.skip ?_
    refine Tr ?_
    refine Qe 3 rfl ?_
    obtain ⟨y, hy, h⟩ := bind_some h
    refine Q1 rfl rfl rfl (Ax.ix (cl := Arr2_3.cl) rfl slc_23 rfl rfl hy) ?_
    refine Qe 1 rfl ?_
    refine Qn rfl rfl rfl (v := .ptr 7 0) (x := some (.box (Arr2_3.cl (⟨0, 0⟩ : Arr2_3)))) (Ax.alloc rfl rfl zer_97 rfl ⟨Sub.refl _, Sub.refl _, trivial⟩) rfl rfl rfl rfl rfl ?_
    refine Qs rfl rfl (x := some (.box (Arr2_3.cl y))) (Ax.st_box rfl siz_97 rfl rfl rfl rfl rfl rfl rfl) ?_
    refine RunD.done ?_
    refine Tri.seq ?_
    refine Tri.seq ?_
    refine Tri.drawn [[], [0], [], [2], [0, 1, 2, 3], [0, 1, 2, 3, 4], [], [6], [], [8], [6, 7, 8, 9], [6, 7, 8, 9, 10], [0, 1, 2, 3, 4, 5, 6, 7, 8, 9, 10, 11], [0, 1, 2, 3, 4, 5, 6, 7, 8, 9, 10, 11, 12]] hmix (by kernel_rfl) ?_
    refine Qe 2 rfl ?_
    refine Q1 rfl rfl rfl (Ax.index_ptr (k := .i64) (n := 0) rfl arr_97 rfl rfl rfl (by decide) (by decide)) ?_
    refine Qe 1 rfl ?_
    obtain ⟨y_1, hy_1, h⟩ := bind_some h
    refine Q1 rfl rfl rfl (Ax.ix (cl := Cell.cl) rfl slc_22 rfl rfl hy_1) ?_
    refine Qe 3 rfl ?_
    refine Q1 rfl rfl rfl (Ax.index_ptr (k := .i64) (n := 1) rfl arr_97 rfl rfl rfl (by decide) (by decide)) ?_
    refine Qe 1 rfl ?_
    obtain ⟨y_2, hy_2, h⟩ := bind_some h
    refine Q1 rfl rfl rfl (Ax.ix (cl := Cell.cl) rfl slc_22 rfl rfl hy_2) ?_
    refine Qe 1 rfl ?_
    obtain ⟨x37, hc_1, h⟩ := bind_some h
    refine Qc rfl rfl rfl (args := [.agg (Cell.cl y_1), .agg (Cell.cl y_2)]) (r := Ab x37) (calv rfl rfl fnok_179 rfl) (f179_ok hc_1) rfl ?_
    refine Qe 1 rfl ?_
    refine RunD.done ⟨by kernel_rfl, freshL_of [] (by kernel_rfl) (by kernel_rfl), ?_⟩
    refine Tri.cond (b := (!x37)) rfl (fun hb_2 => ?_) (fun hb_2 => ?_)
    ·have h := cond_t hb_2 h
     refine Tp rfl ?_
     refine Tri.ret ?_
     refine Rr (fun r => .tup [Ai r.1, Ab r.2.1, Ai r.2.2]) (fun r => []) [] h ?_ trivial
     rfl
    ·have h := cond_f hb_2 h
     refine Tri.skip ?_
     refine Tr ?_
     refine Qe 2 rfl ?_
     obtain ⟨x41, hc_2, h⟩ := bind_some h
     refine Qc rfl rfl rfl (args := [.agg (Basin.cl a0), .agg (Arr2_3.cl y)]) (r := Ai x41) (calv rfl rfl fnok_180 rfl) (f180_ok hc_2) rfl ?_
     refine Qd rfl ?_
     refine Tri.ret ?_
     refine Rr (fun r => .tup [Ai r.1, Ab r.2.1, Ai r.2.2]) (fun r => []) [] h ?_ trivial
     rfl
  ·refine Tri.region ?_
   refine Qe 3 rfl ?_
   rcases b2 (decide (a1 < 0)) with hb_3 | hb_3
   ·refine Qk 13 hb_3 rfl ?_
    refine Qd rfl ?_
    exact (Es0 [19] rfl ⟨.imm (Sub.of_eq (show Ab ((decide (a1 < 0)) || (decide (a1 ≥ (a0.Pairs.length : Int)))) = Ab true by simp only [cond_true, cond_false, Bool.true_or, Bool.false_or, Bool.true_and, Bool.false_and, Bool.or_true, Bool.or_false, Bool.and_true, Bool.and_false, hb, hb_3])) rfl, trivial⟩)
   ·refine Qk 13 hb_3 rfl ?_
    refine Qe 3 rfl ?_
    refine Q1 rfl rfl rfl (Ax.ln (cl := Arr2_3.cl) rfl slc_23 rfl) ?_
    refine Qd rfl ?_
    exact (Es0 [19] rfl ⟨.imm (Sub.of_eq (show Ab ((decide (a1 < 0)) || (decide (a1 ≥ (a0.Pairs.length : Int)))) = Ab (decide (a1 ≥ (a0.Pairs.length : Int))) by simp only [cond_true, cond_false, Bool.true_or, Bool.false_or, Bool.true_and, Bool.false_and, Bool.or_true, Bool.or_false, Bool.and_true, Bool.and_false, hb, hb_3])) rfl, trivial⟩)
theorem f116_ok {K : Nat} {a0 : Basin} {a1 : Int} {r : Int} (h : f116 K a0 a1 = some r) : CallOK Tryz.prog 116 [.agg (Basin.cl a0), Ai a1] [] (Ai r) [] := by
 refine CallOK.of_tri Tryz.func116 rfl rfl (Nat.le_of_ble_eq_true rfl) ?_
 unfold f116 at h
 refine Tp rfl ?_
 refine Tri.seq ?_
 refine Tp rfl ?_
 obtain ⟨j, hj, h⟩ := jo h
 refine Tri.rngL h (fun p => ⟨[(1, Ai a1), (2, .ipt (Basin.cl a0) 0), (5, Ai p.1)], []⟩) (fun y => j y = some r) (fun (y : Unit) => ⟨[], []⟩) (E0 rfl) ?_ ?_ ?_
 ·rintro ⟨⟩ h
  subst hj
  refine Tp rfl ?_
  refine Tri.ret ?_
  exact Ri h rfl
 ·rintro v5 ⟨⟩ hi h
  refine Tri.seq ?_
  refine Tr ?_
  refine Qe 3 rfl ?_
  refine Q1 rfl rfl rfl (Ax.ln (cl := Cell.cl) rfl slc_22 rfl) ?_
  refine Qd rfl ?_
  refine Tri.cond (b := (decide (v5 < (a0.Cells.length : Int)))) rfl (fun hb => ?_) (fun hb => ?_)
  ·exact (lt_f hi hb).elim
  ·refine Tri.exit ?_
   exact Exists.intro () (And.intro h (E0 rfl))
 ·rintro nx x v5 ⟨⟩ _ hi hw hx h
  refine Tri.seq ?_
  refine Tr ?_
  refine Qe 3 rfl ?_
  refine Q1 rfl rfl rfl (Ax.ln (cl := Cell.cl) rfl slc_22 rfl) ?_
  refine Qd rfl ?_
  refine Tri.cond (b := (decide (v5 < (a0.Cells.length : Int)))) rfl (fun hb_1 => ?_) (fun hb_1 => ?_)
  ·refine Tri.skip ?_
   refine Tri.seq ?_
   refine Tri.block ?_
   refine Tr ?_
   refine Qe 3 rfl ?_
   refine Q1 rfl rfl rfl (Ax.ix (cl := Cell.cl) rfl slc_22 rfl rfl hx) ?_
   refine Qd rfl ?_
   refine Tri.cond (b := (x.No == a1)) rfl (fun hb_2 => ?_) (fun hb_2 => ?_)
   ·have h := cond_t hb_2 h
    refine Tp rfl ?_
    refine Tri.ret ?_
    exact Ri h rfl
   ·have h := cond_f hb_2 h
    refine Tri.skip ?_
    refine Tq rfl ?_
    exact Exists.intro (v5 + 1, ()) (And.intro (And.intro rfl h) (Es0 [5] rfl ⟨.imm (Sub.of_eq (show Ai (v5 + 1) = Ai (W (v5 + 1)) from congrArg Ai hw.symm)) rfl, trivial⟩))
  ·exact (lt_t hi hb_1).elim
theorem f117_ok {K : Nat} {a0 : Scene} {a1 : Int} {r : Int} (h : f117 K a0 a1 = some r) : CallOK Tryz.prog 117 [.agg (Scene.cl a0), Ai a1] [] (Ai r) [] := by
 refine CallOK.of_tri Tryz.func117 rfl rfl (Nat.le_of_ble_eq_true rfl) ?_
 unfold f117 at h
 refine Tp rfl ?_
 refine Tri.seq ?_
 refine Tp rfl ?_
 obtain ⟨j, hj, h⟩ := jo h
 refine Tri.rngL h (fun p => ⟨[(1, Ai a1), (2, .ipt (Scene.cl a0) 0), (5, Ai p.1)], []⟩) (fun y => j y = some r) (fun (y : Unit) => ⟨[], []⟩) (E0 rfl) ?_ ?_ ?_
 ·rintro ⟨⟩ h
  subst hj
  refine Tp rfl ?_
  refine Tri.ret ?_
  exact Ri h rfl
 ·rintro v5 ⟨⟩ hi h
  refine Tri.seq ?_
  refine Tr ?_
  refine Qe 3 rfl ?_
  refine Q1 rfl rfl rfl (Ax.ln (cl := icl) rfl slc_26 rfl) ?_
  refine Qd rfl ?_
  refine Tri.cond (b := (decide (v5 < (a0.Days.length : Int)))) rfl (fun hb => ?_) (fun hb => ?_)
  ·exact (lt_f hi hb).elim
  ·refine Tri.exit ?_
   exact Exists.intro () (And.intro h (E0 rfl))
 ·rintro nx x v5 ⟨⟩ _ hi hw hx h
  refine Tri.seq ?_
  refine Tr ?_
  refine Qe 3 rfl ?_
  refine Q1 rfl rfl rfl (Ax.ln (cl := icl) rfl slc_26 rfl) ?_
  refine Qd rfl ?_
  refine Tri.cond (b := (decide (v5 < (a0.Days.length : Int)))) rfl (fun hb_1 => ?_) (fun hb_1 => ?_)
  ·refine Tri.skip ?_
   refine Tri.seq ?_
   refine Tri.block ?_
   refine Tr ?_
   refine Qe 3 rfl ?_
   refine Q1 rfl rfl rfl (Ax.ix (cl := icl) rfl slc_26 rfl rfl hx) ?_
   refine Qd rfl ?_
   refine Tri.cond (b := (x == a1)) rfl (fun hb_2 => ?_) (fun hb_2 => ?_)
   ·have h := cond_t hb_2 h
    refine Tp rfl ?_
    refine Tri.ret ?_
    exact Ri h rfl
   ·have h := cond_f hb_2 h
    refine Tri.skip ?_
    refine Tq rfl ?_
    exact Exists.intro (v5 + 1, ()) (And.intro (And.intro rfl h) (Es0 [5] rfl ⟨.imm (Sub.of_eq (show Ai (v5 + 1) = Ai (W (v5 + 1)) from congrArg Ai hw.symm)) rfl, trivial⟩))
  ·exact (lt_t hi hb_1).elim
theorem f181_ok {K : Nat} {a0 : Scene} {a1 : Sight} {r : Bool} (h : f181 K a0 a1 = some r) : CallOK Tryz.prog 181 [.agg (Scene.cl a0), .agg (Sight.cl a1)] [] (Ab r) [] := by
 refine CallOK.of_tri Tryz.func181 rfl rfl (Nat.le_of_ble_eq_true rfl) ?_
 unfold f181 at h
 refine Tp rfl ?_
 refine Tri.seq ?_
 obtain ⟨v4, hj, h⟩ := bind_some h
 refine Tri.joinv v4 (fun (y : Bool) => ⟨[(4, Ab y)], []⟩) ?_ ?_
 ·refine Tri.ret ?_
  exact Rb h rfl
 ·have h := hj
  refine Tri.region ?_
  refine Qe 2 rfl ?_
  obtain ⟨x7, hc, h⟩ := bind_some h
  refine Qc rfl rfl rfl (args := [Ai a1.No, Ai 8191]) (r := Ab x7) (calv rfl rfl fnok_182 rfl) (f182_ok hc) rfl ?_
  refine Qe 1 rfl ?_
  rcases b2 x7 with hb | hb
  ·have h := cond_t hb h
   refine Qk 8 hb rfl ?_
   refine Qe 4 rfl ?_
   obtain ⟨x13, hc_1, h⟩ := bind_some h
   refine Qc rfl rfl rfl (args := [.agg (Basin.cl a0.Basin), Ai a1.Cell]) (r := Ai x13) (calv rfl rfl fnok_116 rfl) (f116_ok hc_1) rfl ?_
   refine Qe 3 rfl ?_
   rcases b2 (decide (x13 ≥ 0)) with hb_1 | hb_1
   ·have h := cond_t hb_1 h
    refine Qk 16 hb_1 rfl ?_
    refine Qe 3 rfl ?_
    obtain ⟨x20, hc_2, h⟩ := bind_some h
    refine Qc rfl rfl rfl (args := [.agg (Scene.cl a0), Ai a1.Day]) (r := Ai x20) (calv rfl rfl fnok_117 rfl) (f117_ok hc_2) rfl ?_
    refine Qe 3 rfl ?_
    rcases b2 (decide (x20 ≥ 0)) with hb_2 | hb_2
    ·have h := cond_t hb_2 h
     refine Qk 23 hb_2 rfl ?_
     refine Qe 5 rfl ?_
     rcases b2 (decide (a1.Lo ≥ 0)) with hb_3 | hb_3
     ·have h := cond_t hb_3 h
      refine Qk 28 hb_3 rfl ?_
      refine Qe 7 rfl ?_
      rcases b2 (decide (a1.Lo ≤ a1.Hi)) with hb_4 | hb_4
      ·have h := cond_t hb_4 h
       refine Qk 35 hb_4 rfl ?_
       refine Qd rfl ?_
       exact Exists.intro (decide (a1.Hi ≤ 65536)) (And.intro h (E0 rfl))
      ·have h := cond_f hb_4 h
       refine Qk 35 hb_4 rfl ?_
       refine Qd rfl ?_
       exact Exists.intro false (And.intro h (E0 rfl))
     ·have h := cond_f hb_3 h
      refine Qk 28 hb_3 rfl ?_
      refine Qd rfl ?_
      exact Exists.intro false (And.intro h (E0 rfl))
    ·have h := cond_f hb_2 h
     refine Qk 23 hb_2 rfl ?_
     refine Qd rfl ?_
     exact Exists.intro false (And.intro h (E0 rfl))
   ·have h := cond_f hb_1 h
    refine Qk 16 hb_1 rfl ?_
    refine Qd rfl ?_
    exact Exists.intro false (And.intro h (E0 rfl))
  ·have h := cond_f hb h
   refine Qk 8 hb rfl ?_
   refine Qd rfl ?_
   exact Exists.intro false (And.intro h (E0 rfl))
theorem f183_ok {K : Nat} {a0 : Scene} {a1 : Change} {r : Bool} (h : f183 K a0 a1 = some r) : CallOK Tryz.prog 183 [.agg (Scene.cl a0), .agg (Change.cl a1)] [] (Ab r) [] := by
 refine CallOK.of_tri Tryz.func183 rfl rfl (Nat.le_of_ble_eq_true rfl) ?_
 unfold f183 at h
 refine Tp rfl ?_
 refine Tri.seq ?_
 obtain ⟨v4, hj, h⟩ := bind_some h
 refine Tri.joinv v4 (fun (y : Bool) => ⟨[(4, Ab y)], []⟩) ?_ ?_
 ·refine Tri.ret ?_
  exact Rb h rfl
 ·have h := hj
  refine Tri.region ?_
  refine Qe 4 rfl ?_
  obtain ⟨x9, hc, h⟩ := bind_some h
  refine Qc rfl rfl rfl (args := [.agg (Basin.cl a0.Basin), Ai a1.Cell]) (r := Ai x9) (calv rfl rfl fnok_116 rfl) (f116_ok hc) rfl ?_
  refine Qe 2 rfl ?_
  rcases b2 (decide (x9 ≥ 0)) with hb | hb
  ·have h := cond_t hb h
   refine Qk 11 hb rfl ?_
   refine Qe 3 rfl ?_
   obtain ⟨x15, hc_1, h⟩ := bind_some h
   refine Qc rfl rfl rfl (args := [.agg (Scene.cl a0), Ai a1.From]) (r := Ai x15) (calv rfl rfl fnok_117 rfl) (f117_ok hc_1) rfl ?_
   refine Qe 3 rfl ?_
   rcases b2 (decide (x15 ≥ 0)) with hb_1 | hb_1
   ·have h := cond_t hb_1 h
    refine Qk 18 hb_1 rfl ?_
    refine Qe 3 rfl ?_
    obtain ⟨x22, hc_2, h⟩ := bind_some h
    refine Qc rfl rfl rfl (args := [.agg (Scene.cl a0), Ai a1.To]) (r := Ai x22) (calv rfl rfl fnok_117 rfl) (f117_ok hc_2) rfl ?_
    refine Qe 3 rfl ?_
    rcases b2 (decide (x22 ≥ 0)) with hb_2 | hb_2
    ·have h := cond_t hb_2 h
     refine Qk 25 hb_2 rfl ?_
     refine Qe 7 rfl ?_
     rcases b2 (decide (a1.From < a1.To)) with hb_3 | hb_3
     ·have h := cond_t hb_3 h
      refine Qk 32 hb_3 rfl ?_
      refine Qe 5 rfl ?_
      rcases b2 (decide (a1.Lo ≥ (-65536))) with hb_4 | hb_4
      ·have h := cond_t hb_4 h
       refine Qk 37 hb_4 rfl ?_
       refine Qe 7 rfl ?_
       rcases b2 (decide (a1.Lo ≤ a1.Hi)) with hb_5 | hb_5
       ·have h := cond_t hb_5 h
        refine Qk 44 hb_5 rfl ?_
        refine Qd rfl ?_
        exact Exists.intro (decide (a1.Hi ≤ 65536)) (And.intro h (E0 rfl))
       ·have h := cond_f hb_5 h
        refine Qk 44 hb_5 rfl ?_
        refine Qd rfl ?_
        exact Exists.intro false (And.intro h (E0 rfl))
      ·have h := cond_f hb_4 h
       refine Qk 37 hb_4 rfl ?_
       refine Qd rfl ?_
       exact Exists.intro false (And.intro h (E0 rfl))
     ·have h := cond_f hb_3 h
      refine Qk 32 hb_3 rfl ?_
      refine Qd rfl ?_
      exact Exists.intro false (And.intro h (E0 rfl))
    ·have h := cond_f hb_2 h
     refine Qk 25 hb_2 rfl ?_
     refine Qd rfl ?_
     exact Exists.intro false (And.intro h (E0 rfl))
   ·have h := cond_f hb_1 h
    refine Qk 18 hb_1 rfl ?_
    refine Qd rfl ?_
    exact Exists.intro false (And.intro h (E0 rfl))
  ·have h := cond_f hb h
   refine Qk 11 hb rfl ?_
   refine Qd rfl ?_
   exact Exists.intro false (And.intro h (E0 rfl))
theorem f76_ok {K : Nat} {a0 : Scene} {r : Int} (h : f76 K a0 = some r) : CallOK Tryz.prog 76 [.agg (Scene.cl a0)] [] (Ai r) [] := by
 refine CallOK.of_tri Tryz.func76 rfl rfl (Nat.le_of_ble_eq_true rfl) ?_
 unfold f76 at h
 refine Tp rfl ?_
 refine Tri.seq ?_
 refine Tr ?_
 refine Qe 2 rfl ?_
 obtain ⟨x8, hc, h⟩ := bind_some h
 refine Qc rfl rfl rfl (args := [.agg (Basin.cl a0.Basin)]) (r := Ai x8) (calv rfl rfl fnok_75 rfl) (f75_ok hc) rfl ?_
 refine Qd rfl ?_
 refine Tri.cond (b := (x8 != 0)) rfl (fun hb => ?_) (fun hb => ?_)
 ·have h := cond_t hb h
  refine Tp rfl ?_
  refine Tri.ret ?_
  exact Ri h rfl
 ·have h := cond_f hb h
  refine Tri.skip ?_
  refine Tri.seq ?_
  refine Tri.seq ?_
  refine Tri.join1 ⟨[(1, .ipt (Scene.cl a0) 0), (19, Ab ((decide ((a0.Days.length : Int) < 1)) || (decide ((a0.Days.length : Int) > 16))))], []⟩ ?_ ?_
  ·refine Tri.cond (b := ((decide ((a0.Days.length : Int) < 1)) || (decide ((a0.Days.length : Int) > 16)))) rfl (fun hb_1 => ?_) (fun hb_1 => ?_)
   ·have h := cond_t hb_1 h
    refine Tp rfl ?_
    refine Tri.ret ?_
    exact Ri h rfl
   ·have h := cond_f hb_1 h
    refine Tri.skip ?_
    refine Tri.seq ?_
    refine Tp rfl ?_
    obtain ⟨j, hj, h⟩ := jo h
    refine Tri.rngL h (fun p => ⟨[(1, .ipt (Scene.cl a0) 0), (3, Ai p.1)], []⟩) (fun y => j y = some r) (fun (y : Unit) => ⟨[(1, .ipt (Scene.cl a0) 0)], []⟩) (E0 rfl) ?_ ?_ ?_
    ·rintro ⟨⟩ h
     subst hj
     refine Tri.seq ?_
     refine Tri.seq ?_
     refine Tri.join1 ⟨[(1, .ipt (Scene.cl a0) 0), (61, Ab ((decide ((a0.Sights.length : Int) > 256)) || (decide ((a0.Changes.length : Int) > 256))))], []⟩ ?_ ?_
     ·refine Tri.cond (b := ((decide ((a0.Sights.length : Int) > 256)) || (decide ((a0.Changes.length : Int) > 256)))) rfl (fun hb_2 => ?_) (fun hb_2 => ?_)
      ·have h := cond_t hb_2 h
       refine Tp rfl ?_
       refine Tri.ret ?_
       exact Ri h rfl
      ·have h := cond_f hb_2 h
       refine Tri.skip ?_
       refine Tri.seq ?_
       refine Tp rfl ?_
       obtain ⟨j_1, hj_1, h⟩ := jo h
       refine Tri.rngL h (fun p => ⟨[(1, .ipt (Scene.cl a0) 0), (4, Ai p.1)], []⟩) (fun y => j_1 y = some r) (fun (y : Unit) => ⟨[(1, .ipt (Scene.cl a0) 0)], []⟩) (E0 rfl) ?_ ?_ ?_
       ·rintro ⟨⟩ h
        subst hj_1
        refine Tri.seq ?_
        refine Tp rfl ?_
        obtain ⟨j_2, hj_2, h⟩ := jo h
        refine Tri.rngL h (fun p => ⟨[(1, .ipt (Scene.cl a0) 0), (5, Ai p.1)], []⟩) (fun y => j_2 y = some r) (fun (y : Unit) => ⟨[], []⟩) (E0 rfl) ?_ ?_ ?_
        ·rintro ⟨⟩ h
         subst hj_2
         refine Tp rfl ?_
         refine Tri.ret ?_
         exact Ri h rfl
        ·rintro v5 ⟨⟩ hi_2 h
         refine Tri.seq ?_
         refine Tr ?_
         refine Qe 3 rfl ?_
         refine Q1 rfl rfl rfl (Ax.ln (cl := Change.cl) rfl slc_28 rfl) ?_
         refine Qd rfl ?_
         refine Tri.cond (b := (decide (v5 < (a0.Changes.length : Int)))) rfl (fun hb_3 => ?_) (fun hb_3 => ?_)
         ·exact (lt_f hi_2 hb_3).elim
         ·refine Tri.exit ?_
          exact Exists.intro () (And.intro h (E0 rfl))
        ·rintro nx_2 x_2 v5 ⟨⟩ _ hi_2 hw_2 hx_2 h
         refine Tri.seq ?_
         refine Tr ?_
         refine Qe 3 rfl ?_
         refine Q1 rfl rfl rfl (Ax.ln (cl := Change.cl) rfl slc_28 rfl) ?_
         refine Qd rfl ?_
         refine Tri.cond (b := (decide (v5 < (a0.Changes.length : Int)))) rfl (fun hb_4 => ?_) (fun hb_4 => ?_)
         ·refine Tri.skip ?_
          refine Tri.seq ?_
          refine Tri.block ?_
          refine Tri.seq ?_
          refine Tri.drawn [[], [], [1], [], [1, 2, 3], [1, 2, 3, 4], [0, 1, 2, 3, 4, 5], [0, 1, 2, 3, 4, 5, 6]] hmix (by kernel_rfl) ?_
          refine Qe 4 rfl ?_
          refine Q1 rfl rfl rfl (Ax.ix (cl := Change.cl) rfl slc_28 rfl rfl hx_2) ?_
          refine Qe 1 rfl ?_
          obtain ⟨x90, hc_1, h⟩ := bind_some h
          refine Qc rfl rfl rfl (args := [.agg (Scene.cl a0), .agg (Change.cl x_2)]) (r := Ab x90) (calv rfl rfl fnok_183 rfl) (f183_ok hc_1) rfl ?_
          refine Qe 1 rfl ?_
          refine RunD.done ⟨by kernel_rfl, freshL_of [] (by kernel_rfl) (by kernel_rfl), ?_⟩
          refine Tri.cond (b := (!x90)) rfl (fun hb_5 => ?_) (fun hb_5 => ?_)
          ·have h := cond_t hb_5 h
           refine Tp rfl ?_
           refine Tri.ret ?_
           exact Ri h rfl
          ·have h := cond_f hb_5 h
           refine Tri.skip ?_
           refine Tq rfl ?_
           exact Exists.intro (v5 + 1, ()) (And.intro (And.intro rfl h) (Es0 [5] rfl ⟨.imm (Sub.of_eq (show Ai (v5 + 1) = Ai (W (v5 + 1)) from congrArg Ai hw_2.symm)) rfl, trivial⟩))
         ·exact (lt_t hi_2 hb_4).elim
       ·rintro v4 ⟨⟩ hi_1 h
        refine Tri.seq ?_
        refine Tr ?_
        refine Qe 3 rfl ?_
        refine Q1 rfl rfl rfl (Ax.ln (cl := Sight.cl) rfl slc_27 rfl) ?_
        refine Qd rfl ?_
        refine Tri.cond (b := (decide (v4 < (a0.Sights.length : Int)))) rfl (fun hb_6 => ?_) (fun hb_6 => ?_)
        ·exact (lt_f hi_1 hb_6).elim
        ·refine Tri.exit ?_
         exact Exists.intro () (And.intro h (E0 rfl))
       ·rintro nx_1 x_1 v4 ⟨⟩ _ hi_1 hw_1 hx_1 h
        refine Tri.seq ?_
        refine Tr ?_
        refine Qe 3 rfl ?_
        refine Q1 rfl rfl rfl (Ax.ln (cl := Sight.cl) rfl slc_27 rfl) ?_
        refine Qd rfl ?_
        refine Tri.cond (b := (decide (v4 < (a0.Sights.length : Int)))) rfl (fun hb_7 => ?_) (fun hb_7 => ?_)
        ·refine Tri.skip ?_
         refine Tri.seq ?_
         refine Tri.block ?_
         refine Tri.seq ?_
         refine Tri.drawn [[], [], [1], [], [1, 2, 3], [1, 2, 3, 4], [0, 1, 2, 3, 4, 5], [0, 1, 2, 3, 4, 5, 6]] hmix (by kernel_rfl) ?_
         refine Qe 4 rfl ?_
         refine Q1 rfl rfl rfl (Ax.ix (cl := Sight.cl) rfl slc_27 rfl rfl hx_1) ?_
         refine Qe 1 rfl ?_
         obtain ⟨x75, hc_2, h⟩ := bind_some h
         refine Qc rfl rfl rfl (args := [.agg (Scene.cl a0), .agg (Sight.cl x_1)]) (r := Ab x75) (calv rfl rfl fnok_181 rfl) (f181_ok hc_2) rfl ?_
         refine Qe 1 rfl ?_
         refine RunD.done ⟨by kernel_rfl, freshL_of [] (by kernel_rfl) (by kernel_rfl), ?_⟩
         refine Tri.cond (b := (!x75)) rfl (fun hb_8 => ?_) (fun hb_8 => ?_)
         ·have h := cond_t hb_8 h
          refine Tp rfl ?_
          refine Tri.ret ?_
          exact Ri h rfl
         ·have h := cond_f hb_8 h
          refine Tri.skip ?_
          refine Tq rfl ?_
          exact Exists.intro (v4 + 1, ()) (And.intro (And.intro rfl h) (Es0 [4] rfl ⟨.imm (Sub.of_eq (show Ai (v4 + 1) = Ai (W (v4 + 1)) from congrArg Ai hw_1.symm)) rfl, trivial⟩))
        ·exact (lt_t hi_1 hb_7).elim
     ·refine Tri.region ?_
      refine Qe 2 rfl ?_
      refine Q1 rfl rfl rfl (Ax.ln (cl := Sight.cl) rfl slc_27 rfl) ?_
      refine Qe 2 rfl ?_
      rcases b2 (decide ((a0.Sights.length : Int) > 256)) with hb_9 | hb_9
      ·refine Qk 56 hb_9 rfl ?_
       refine Qd rfl ?_
       exact (Es0 [61] rfl ⟨.imm (Sub.of_eq (show Ab ((decide ((a0.Sights.length : Int) > 256)) || (decide ((a0.Changes.length : Int) > 256))) = Ab true by simp only [cond_true, cond_false, Bool.true_or, Bool.false_or, Bool.true_and, Bool.false_and, Bool.or_true, Bool.or_false, Bool.and_true, Bool.and_false, hb, hb_1, hb_9])) rfl, trivial⟩)
      ·refine Qk 56 hb_9 rfl ?_
       refine Qe 2 rfl ?_
       refine Q1 rfl rfl rfl (Ax.ln (cl := Change.cl) rfl slc_28 rfl) ?_
       refine Qd rfl ?_
       exact (Es0 [61] rfl ⟨.imm (Sub.of_eq (show Ab ((decide ((a0.Sights.length : Int) > 256)) || (decide ((a0.Changes.length : Int) > 256))) = Ab (decide ((a0.Changes.length : Int) > 256)) by simp only [cond_true, cond_false, Bool.true_or, Bool.false_or, Bool.true_and, Bool.false_and, Bool.or_true, Bool.or_false, Bool.and_true, Bool.and_false, hb, hb_1, hb_9])) rfl, trivial⟩)
    ·rintro v3 ⟨⟩ hi h
     refine Tri.seq ?_
     refine Tr ?_
     refine Qe 3 rfl ?_
     refine Q1 rfl rfl rfl (Ax.ln (cl := icl) rfl slc_26 rfl) ?_
     refine Qd rfl ?_
     refine Tri.cond (b := (decide (v3 < (a0.Days.length : Int)))) rfl (fun hb_10 => ?_) (fun hb_10 => ?_)
     ·exact (lt_f hi hb_10).elim
     ·refine Tri.exit ?_
      exact Exists.intro () (And.intro h (E0 rfl))
    ·rintro nx x v3 ⟨⟩ _ hi hw hx h
     refine Tri.seq ?_
     refine Tr ?_
     refine Qe 3 rfl ?_
     refine Q1 rfl rfl rfl (Ax.ln (cl := icl) rfl slc_26 rfl) ?_
     refine Qd rfl ?_
     refine Tri.cond (b := (decide (v3 < (a0.Days.length : Int)))) rfl (fun hb_11 => ?_) (fun hb_11 => ?_)
     ·refine Tri.skip ?_
      refine Tri.seq ?_
      refine Tri.block ?_
      refine Tri.seq ?_
      obtain ⟨v51, hj_3, h⟩ := bind_some h
      refine Tri.joinv v51 (fun (y : Bool) => ⟨[(1, .ipt (Scene.cl a0) 0), (3, Ai v3), (51, Ab y)], []⟩) ?_ ?_
      ·refine Tri.cond (b := v51) rfl (fun hb_12 => ?_) (fun hb_12 => ?_)
       ·have h := cond_t hb_12 h
        refine Tp rfl ?_
        refine Tri.ret ?_
        exact Ri h rfl
       ·have h := cond_f hb_12 h
        refine Tri.skip ?_
        refine Tq rfl ?_
        exact Exists.intro (v3 + 1, ()) (And.intro (And.intro rfl h) (Es0 [3] rfl ⟨.imm (Sub.of_eq (show Ai (v3 + 1) = Ai (W (v3 + 1)) from congrArg Ai hw.symm)) rfl, trivial⟩))
      ·have h := hj_3
       refine Tri.drawn [[], [0], [], [0, 1, 2], [0, 1, 2, 3], [0, 1, 2, 3, 4], [0, 1, 2, 3, 4, 5], [0, 1, 2, 3, 4, 5, 6], [0, 1, 2, 3, 4, 5, 6, 7], [0, 1, 2, 3, 4, 5, 6, 7, 8], [0, 1, 2, 3, 4, 5, 6, 7, 8, 9], [0, 1, 2, 3, 4, 5, 6, 7, 8, 9, 10], [0, 1, 2, 3, 4, 5, 6, 7, 8, 9, 10, 11], [0, 1, 2, 3, 4, 5, 6, 7, 8, 9, 10], [0, 1, 2, 3, 4, 5, 6, 7, 8, 9, 10, 13], [0, 1, 2, 3, 4, 5, 6, 7, 8, 9, 10, 11, 12, 13, 14], [0, 1, 2, 3, 4, 5, 6, 7, 8, 9, 10, 11, 12, 13, 14, 15], [0, 1, 2, 3, 4, 5, 6, 7, 8, 9, 10], [0, 1, 2, 3, 4, 5, 6, 7, 8, 9, 10, 17], [0, 1, 2, 3, 4, 5, 6, 7, 8, 9, 10], [0, 1, 2, 3, 4, 5, 6, 7, 8, 9, 10, 17, 18, 19], [0, 1, 2, 3, 4, 5, 6, 7, 8, 9, 10, 17, 18, 19, 20], [0, 1, 2, 3, 4, 5, 6, 7, 8, 9, 10, 11, 12, 13, 14, 15, 16, 17, 18, 19, 20, 21], [0, 1, 2, 3, 4, 5, 6, 7, 8, 9, 10, 11, 12, 13, 14, 15, 16, 17, 18, 19, 20, 21, 22], [0, 1, 2, 3, 4, 5, 6, 7, 8, 9, 10, 11, 12, 13, 14, 15, 16, 17, 18, 19, 20, 21, 22, 23]] hmix (by kernel_rfl) ?_
       refine Qe 3 rfl ?_
       refine Q1 rfl rfl rfl (Ax.ix (cl := icl) rfl slc_26 rfl rfl hx) ?_
       refine Qe 1 rfl ?_
       obtain ⟨x32, hc_3, h⟩ := bind_some h
       refine Qc rfl rfl rfl (args := [Ai x, Ai 1048576]) (r := Ab x32) (calv rfl rfl fnok_182 rfl) (f182_ok hc_3) rfl ?_
       refine Qe 2 rfl ?_
       rcases b2 (!x32) with hb_13 | hb_13
       ·have h := cond_t hb_13 h
        refine Qk 34 hb_13 rfl ?_
        refine Qe 17 rfl ?_
        refine RunD.done ⟨by kernel_rfl, freshL_of [] (by kernel_rfl) (by kernel_rfl), ?_⟩
        exact Exists.intro true (And.intro h (E0 rfl))
       ·have h := cond_f hb_13 h
        refine Qk 34 hb_13 rfl ?_
        refine Qe 3 rfl ?_
        rcases b2 (decide (v3 > 0)) with hb_14 | hb_14
        ·have h := cond_t hb_14 h
         refine Qk 37 hb_14 rfl ?_
         refine Qe 4 rfl ?_
         obtain ⟨y, hy, h⟩ := bind_some h
         refine Q1 rfl rfl rfl (Ax.ix (cl := icl) rfl slc_26 rfl rfl hy) ?_
         refine Qe 4 rfl ?_
         refine Q1 rfl rfl rfl (Ax.ix (cl := icl) rfl slc_26 rfl rfl hx) ?_
         refine Qe 4 rfl ?_
         refine RunD.done ⟨by kernel_rfl, freshL_of [] (by kernel_rfl) (by kernel_rfl), ?_⟩
         exact Exists.intro (decide (y ≥ x)) (And.intro h (E0 rfl))
        ·have h := cond_f hb_14 h
         refine Qk 37 hb_14 rfl ?_
         refine Qe 14 rfl ?_
         refine RunD.done ⟨by kernel_rfl, freshL_of [] (by kernel_rfl) (by kernel_rfl), ?_⟩
         exact Exists.intro false (And.intro h (E0 rfl))
     ·exact (lt_t hi hb_11).elim
  ·refine Tri.region ?_
   refine Qe 2 rfl ?_
   refine Q1 rfl rfl rfl (Ax.ln (cl := icl) rfl slc_26 rfl) ?_
   refine Qe 2 rfl ?_
   rcases b2 (decide ((a0.Days.length : Int) < 1)) with hb_15 | hb_15
   ·refine Qk 14 hb_15 rfl ?_
    refine Qd rfl ?_
    exact (Es0 [19] rfl ⟨.imm (Sub.of_eq (show Ab ((decide ((a0.Days.length : Int) < 1)) || (decide ((a0.Days.length : Int) > 16))) = Ab true by simp only [cond_true, cond_false, Bool.true_or, Bool.false_or, Bool.true_and, Bool.false_and, Bool.or_true, Bool.or_false, Bool.and_true, Bool.and_false, hb, hb_15])) rfl, trivial⟩)
   ·refine Qk 14 hb_15 rfl ?_
    refine Qe 2 rfl ?_
    refine Q1 rfl rfl rfl (Ax.ln (cl := icl) rfl slc_26 rfl) ?_
    refine Qd rfl ?_
    exact (Es0 [19] rfl ⟨.imm (Sub.of_eq (show Ab ((decide ((a0.Days.length : Int) < 1)) || (decide ((a0.Days.length : Int) > 16))) = Ab (decide ((a0.Days.length : Int) > 16)) by simp only [cond_true, cond_false, Bool.true_or, Bool.false_or, Bool.true_and, Bool.false_and, Bool.or_true, Bool.or_false, Bool.and_true, Bool.and_false, hb, hb_15])) rfl, trivial⟩)
theorem f72_ok {K : Nat} {a0 : Scene} {a1 : Sight} {r : Scene × Int} (h : f72 K a0 a1 = some r) : CallOK Tryz.prog 72 [.agg (Scene.cl a0), .agg (Sight.cl a1)] [] (.tup [.agg (Scene.cl r.1), Ai r.2]) [] := by
 refine CallOK.of_tri Tryz.func72 rfl rfl (Nat.le_of_ble_eq_true rfl) ?_
 unfold f72 at h
 refine Tr ?_
 refine Qe 2 rfl ?_
 refine Qn rfl rfl rfl (v := .ptr 4 0) (x := some (.box (Scene.cl (⟨(⟨([] : List Cell), ([] : List Arr2_3), 0, 0, 0⟩ : Basin), ([] : List Int), ([] : List Sight), ([] : List Change)⟩ : Scene)))) (Ax.alloc rfl rfl zer_30 rfl ⟨Sub.nil _, Sub.nil _, Sub.refl _, Sub.refl _, Sub.refl _, Sub.nil _, Sub.nil _, Sub.nil _, trivial⟩) rfl rfl rfl rfl rfl ?_
 refine Qd rfl ?_
 refine Tri.seq ?_
 refine Tr ?_
 refine Qe 1 rfl ?_
 obtain ⟨x10, hc, h⟩ := bind_some h
 refine Qc rfl rfl rfl (args := [.agg (Scene.cl a0)]) (r := Ai x10) (calv rfl rfl fnok_76 rfl) (f76_ok hc) rfl ?_
 refine Qd rfl ?_
 refine Tp rfl ?_
 refine Tri.cond (b := (x10 != 0)) rfl (fun hb => ?_) (fun hb => ?_)
 ·have h := cond_t hb h
  refine Tr ?_
  refine Q1 rfl rfl rfl (v := .agg (Scene.cl (⟨(⟨([] : List Cell), ([] : List Arr2_3), 0, 0, 0⟩ : Basin), ([] : List Int), ([] : List Sight), ([] : List Change)⟩ : Scene))) (Ax.build rfl zer_30 (bld plc_30 zer_30) rfl ⟨Sub.nil _, Sub.nil _, Sub.refl _, Sub.refl _, Sub.refl _, Sub.nil _, Sub.nil _, Sub.nil _, trivial⟩) ?_
  refine Qe 1 rfl ?_
  refine Qs rfl rfl (x := some (.box (Scene.cl (⟨(⟨([] : List Cell), ([] : List Arr2_3), 0, 0, 0⟩ : Basin), ([] : List Int), ([] : List Sight), ([] : List Change)⟩ : Scene)))) (Ax.st_box rfl siz_30 rfl rfl rfl rfl rfl rfl rfl) ?_
  refine Qd rfl ?_
  refine Tri.ret ?_
  refine Rr (fun r => .tup [.agg (Scene.cl r.1), Ai r.2]) (fun r => []) [] h ?_ trivial
  rfl
 ·have h := cond_f hb h
  refine Tri.skip ?_
  refine Tri.seq ?_
  refine Tr ?_
  refine Qe 2 rfl ?_
  refine Q1 rfl rfl rfl (Ax.ln (cl := Sight.cl) rfl slc_27 rfl) ?_
  refine Qd rfl ?_
  refine Tri.cond (b := ((a0.Sights.length : Int) == 256)) rfl (fun hb_1 => ?_) (fun hb_1 => ?_)
  ·have h := cond_t hb_1 h
   refine Tr ?_
   refine Q1 rfl rfl rfl (v := .agg (Scene.cl (⟨(⟨([] : List Cell), ([] : List Arr2_3), 0, 0, 0⟩ : Basin), ([] : List Int), ([] : List Sight), ([] : List Change)⟩ : Scene))) (Ax.build rfl zer_30 (bld plc_30 zer_30) rfl ⟨Sub.nil _, Sub.nil _, Sub.refl _, Sub.refl _, Sub.refl _, Sub.nil _, Sub.nil _, Sub.nil _, trivial⟩) ?_
   refine Qs rfl rfl (x := some (.box (Scene.cl (⟨(⟨([] : List Cell), ([] : List Arr2_3), 0, 0, 0⟩ : Basin), ([] : List Int), ([] : List Sight), ([] : List Change)⟩ : Scene)))) (Ax.st_box rfl siz_30 rfl rfl rfl rfl rfl rfl rfl) ?_
   refine Qd rfl ?_
   refine Tri.ret ?_
   refine Rr (fun r => .tup [.agg (Scene.cl r.1), Ai r.2]) (fun r => []) [] h ?_ trivial
   rfl
  ·have h := cond_f hb_1 h
   refine Tri.skip ?_
   refine Tri.seq ?_
   refine Tr ?_
   refine Qe 2 rfl ?_
   obtain ⟨x22, hc_1, h⟩ := bind_some h
   refine Qc rfl rfl rfl (args := [.agg (Scene.cl a0), .agg (Sight.cl a1)]) (r := Ab x22) (calv rfl rfl fnok_181 rfl) (f181_ok hc_1) rfl ?_
   refine Qd rfl ?_
   refine Tri.cond (b := (!x22)) rfl (fun hb_2 => ?_) (fun hb_2 => ?_)
   ·have h := cond_t hb_2 h
    refine Tr ?_
    refine Q1 rfl rfl rfl (v := .agg (Scene.cl (⟨(⟨([] : List Cell), ([] : List Arr2_3), 0, 0, 0⟩ : Basin), ([] : List Int), ([] : List Sight), ([] : List Change)⟩ : Scene))) (Ax.build rfl zer_30 (bld plc_30 zer_30) rfl ⟨Sub.nil _, Sub.nil _, Sub.refl _, Sub.refl _, Sub.refl _, Sub.nil _, Sub.nil _, Sub.nil _, trivial⟩) ?_
    refine Qs rfl rfl (x := some (.box (Scene.cl (⟨(⟨([] : List Cell), ([] : List Arr2_3), 0, 0, 0⟩ : Basin), ([] : List Int), ([] : List Sight), ([] : List Change)⟩ : Scene)))) (Ax.st_box rfl siz_30 rfl rfl rfl rfl rfl rfl rfl) ?_
    refine Qd rfl ?_
    refine Tri.ret ?_
    refine Rr (fun r => .tup [.agg (Scene.cl r.1), Ai r.2]) (fun r => []) [] h ?_ trivial
    rfl
   ·have h := cond_f hb_2 h
    refine Tri.skip ?_
    refine Tr ?_
    refine Qe 1 rfl ?_
    refine Qn rfl rfl rfl (v := .ptr 7 0) (x := some (.box [.lst 4 (([] : List Cell).map Cell.cl), .lst 2 (([] : List Arr2_3).map Arr2_3.cl), Ai 0, Ai 0, Ai 0, .lst 1 (([] : List Int).map icl), .sc (.slice none 0 0), .lst 5 (([] : List Change).map Change.cl)])) (Ax.alloc rfl rfl zer_30 rfl ⟨Sub.nil _, Sub.nil _, Sub.refl _, Sub.refl _, Sub.refl _, Sub.nil _, Sub.refl _, Sub.nil _, trivial⟩) rfl rfl rfl rfl rfl ?_
    refine Qs rfl rfl (x := some (.box (Scene.cl a0))) (Ax.st_box rfl siz_30 rfl rfl rfl rfl rfl rfl rfl) ?_
    refine RunD.done ?_
    refine Tr ?_
    refine Qe 1 rfl ?_
    refine Qs rfl rfl (x := some (.box [.lst 4 (a0.Basin.Cells.map Cell.cl), .lst 2 (a0.Basin.Pairs.map Arr2_3.cl), Ai a0.Basin.Gain, Ai a0.Basin.Slack, Ai a0.Basin.Deep, .lst 1 (a0.Days.map icl), .sc (.slice none 0 0), .lst 5 (a0.Changes.map Change.cl)])) (Ax.st_box rfl siz_27 rfl rfl rfl rfl rfl rfl rfl) ?_
    refine RunD.done ?_
    refine Tri.ent (Ent.ghost 7 6 900000706 64 5 (cells' := [.lst 4 (a0.Basin.Cells.map Cell.cl), .lst 2 (a0.Basin.Pairs.map Arr2_3.cl), Ai a0.Basin.Gain, Ai a0.Basin.Slack, Ai a0.Basin.Deep, .lst 1 (a0.Days.map icl), .hnd 900000706, .lst 5 (a0.Changes.map Change.cl)]) rfl rfl rfl rfl) ?_
    refine Tri.seq ?_
    refine Tp rfl ?_
    obtain ⟨voo7_6_1, hj, h⟩ := bind_some h
    refine Tri.rngLv hj (fun p => ⟨[(2, .ipt (Scene.cl a0) 0), (3, .ipt (Sight.cl a1) 0), (4, .ptr 4 0), (7, .ptr 7 0), (8, Ai p.1)], [(4, some (.box (Scene.cl (⟨(⟨([] : List Cell), ([] : List Arr2_3), 0, 0, 0⟩ : Basin), ([] : List Int), ([] : List Sight), ([] : List Change)⟩ : Scene)))), (900000706, some (.arr 64 5 (p.2.map Sight.cl))), (7, some (.box [.lst 4 (a0.Basin.Cells.map Cell.cl), .lst 2 (a0.Basin.Pairs.map Arr2_3.cl), Ai a0.Basin.Gain, Ai a0.Basin.Slack, Ai a0.Basin.Deep, .lst 1 (a0.Days.map icl), .hnd 900000706, .lst 5 (a0.Changes.map Change.cl)]))]⟩) (fun (y : List Sight) => ⟨[(3, .ipt (Sight.cl a1) 0), (4, .ptr 4 0), (7, .ptr 7 0)], [(4, some (.box (Scene.cl (⟨(⟨([] : List Cell), ([] : List Arr2_3), 0, 0, 0⟩ : Basin), ([] : List Int), ([] : List Sight), ([] : List Change)⟩ : Scene)))), (900000706, some (.arr 64 5 (y.map Sight.cl))), (7, some (.box [.lst 4 (a0.Basin.Cells.map Cell.cl), .lst 2 (a0.Basin.Pairs.map Arr2_3.cl), Ai a0.Basin.Gain, Ai a0.Basin.Slack, Ai a0.Basin.Deep, .lst 1 (a0.Days.map icl), .hnd 900000706, .lst 5 (a0.Changes.map Change.cl)]))]⟩) (Ee [4, 900000706, 7] rfl ⟨im_flat Sight_im ([] : List Sight), trivial⟩) ?_ ?_ ?_
    ·refine Tr ?_
     refine Qe 3 rfl ?_
     refine Q1 rfl rfl rfl (v := .lst 5 (([a1] : List Sight).map Sight.cl)) (Ax.sl (xs := ([a1] : List Sight)) rfl slc_27 rfl rfl ⟨Sub.refl _, Sub.refl _, Sub.refl _, Sub.refl _, Sub.refl _, trivial⟩ rfl Sight_len Sight_one Sight_im) ?_
     obtain ⟨z48, hz, h⟩ := bind_some h
     refine Qa rfl rfl rfl (v := .hnd 48) (x := some (.arr 64 5 (z48.map Sight.cl))) (Ax.app_l (cl := Sight.cl) rfl rfl slc_27 rfl rfl rfl Sight_one Sight_im hz rfl rfl) rfl rfl rfl rfl rfl ?_
     refine Qe 1 rfl ?_
     refine Qs rfl rfl (x := some (.box [.lst 4 (a0.Basin.Cells.map Cell.cl), .lst 2 (a0.Basin.Pairs.map Arr2_3.cl), Ai a0.Basin.Gain, Ai a0.Basin.Slack, Ai a0.Basin.Deep, .lst 1 (a0.Days.map icl), .hnd 48, .lst 5 (a0.Changes.map Change.cl)])) (Ax.st_box rfl siz_27 rfl rfl rfl rfl rfl rfl rfl) ?_
     refine RunD.done ?_
     refine Tr ?_
     refine Qe 1 rfl ?_
     refine Qs rfl rfl (x := some (.box [.lst 4 (a0.Basin.Cells.map Cell.cl), .lst 2 (a0.Basin.Pairs.map Arr2_3.cl), Ai a0.Basin.Gain, Ai a0.Basin.Slack, Ai a0.Basin.Deep, .lst 1 (a0.Days.map icl), .hnd 48, .lst 5 (a0.Changes.map Change.cl)])) (Ax.st_box rfl siz_30 rfl rfl rfl rfl rfl rfl rfl) ?_
     refine Qd rfl ?_
     refine Tri.ret ?_
     refine RetQ.eq2 (fun r => .tup [.agg (Scene.cl r.1), Ai r.2]) (fun r => []) (Option.some.inj h) ?_
     exact RetQ.mk (vs := [.agg [.lst 4 (a0.Basin.Cells.map Cell.cl), .lst 2 (a0.Basin.Pairs.map Arr2_3.cl), Ai a0.Basin.Gain, Ai a0.Basin.Slack, Ai a0.Basin.Deep, .lst 1 (a0.Days.map icl), .hnd 48, .lst 5 (a0.Changes.map Change.cl)], Ai 0]) (.inr rfl) ⟨_, _, rfl, .cell_box rfl siz_30 rfl rfl rfl, ⟨_, _, rfl, .tmp rfl, rfl⟩⟩ [48] [] rfl rfl trivial (.tupV ⟨.frz (.aggV ⟨(.imm rfl), (.imm rfl), (.imm rfl), (.imm rfl), (.imm rfl), (.imm rfl), (.hnd (List.Mem.head _) rfl (im_flat Sight_im z48)), (.imm rfl), trivial⟩) rfl, .rfl' rfl, trivial⟩)
    ·rintro v8 voo7_6 hi h
     refine Tri.seq ?_
     refine Tr ?_
     refine Qe 3 rfl ?_
     refine Q1 rfl rfl rfl (Ax.ln (cl := Sight.cl) rfl slc_27 rfl) ?_
     refine Qd rfl ?_
     refine Tri.cond (b := (decide (v8 < (a0.Sights.length : Int)))) rfl (fun hb_3 => ?_) (fun hb_3 => ?_)
     ·exact (lt_f hi hb_3).elim
     ·refine Tri.exit ?_
      exact Exists.intro voo7_6 (And.intro h (Ee [4, 900000706, 7] rfl ⟨imf Sight_im, trivial⟩))
    ·rintro nx x v8 voo7_6 _ hi hw hx h
     refine Tri.seq ?_
     refine Tr ?_
     refine Qe 3 rfl ?_
     refine Q1 rfl rfl rfl (Ax.ln (cl := Sight.cl) rfl slc_27 rfl) ?_
     refine Qd rfl ?_
     refine Tri.cond (b := (decide (v8 < (a0.Sights.length : Int)))) rfl (fun hb_4 => ?_) (fun hb_4 => ?_)
     ·refine Tri.skip ?_
      refine Tri.seq ?_
      refine Tri.block ?_
      refine Tri.drawn [[], [0], [], [2], [], [2, 3, 4], [2, 3, 4, 5], [2, 3, 4, 5, 6], [0, 1, 2, 3, 4, 5, 6, 7], [0, 1, 2, 3, 4, 5, 6, 7, 8], [0, 1, 2, 3, 4, 5, 6, 7, 8, 9]] hmix (by kernel_rfl) ?_
      refine Qe 5 rfl ?_
      refine Q1 rfl rfl rfl (Ax.ix (cl := Sight.cl) rfl slc_27 rfl rfl hx) ?_
      refine Qe 1 rfl ?_
      refine Q1 rfl rfl rfl (v := .lst 5 (([x] : List Sight).map Sight.cl)) (Ax.sl (xs := ([x] : List Sight)) rfl slc_27 rfl rfl ⟨Sub.refl _, Sub.refl _, Sub.refl _, Sub.refl _, Sub.refl _, trivial⟩ rfl Sight_len Sight_one Sight_im) ?_
      obtain ⟨z42, hz_1, h⟩ := bind_some h
      refine Qa rfl rfl rfl (v := .hnd 42) (x := some (.arr 64 5 (z42.map Sight.cl))) (Ax.app_l (cl := Sight.cl) rfl rfl slc_27 rfl rfl rfl Sight_one Sight_im hz_1 rfl rfl) rfl rfl rfl rfl rfl ?_
      refine Qe 1 rfl ?_
      refine Qs rfl rfl (x := some (.box [.lst 4 (a0.Basin.Cells.map Cell.cl), .lst 2 (a0.Basin.Pairs.map Arr2_3.cl), Ai a0.Basin.Gain, Ai a0.Basin.Slack, Ai a0.Basin.Deep, .lst 1 (a0.Days.map icl), .hnd 42, .lst 5 (a0.Changes.map Change.cl)])) (Ax.st_box rfl siz_27 rfl rfl rfl rfl rfl rfl rfl) ?_
      refine RunD.done ⟨by kernel_rfl, freshL_of [42] (by kernel_rfl) (by kernel_rfl), ?_⟩
      refine Tq rfl ?_
      exact Exists.intro (v8 + 1, z42) (And.intro (And.intro rfl h) (Es [4, 42, 7] [8] rfl ⟨imf Sight_im, trivial⟩ ⟨.imm (Sub.of_eq (show Ai (v8 + 1) = Ai (W (v8 + 1)) from congrArg Ai hw.symm)) rfl, trivial⟩))
     ·exact (lt_t hi hb_4).elim
end Go.Proofs.YthlchdnbokhclaaGreat.Ql

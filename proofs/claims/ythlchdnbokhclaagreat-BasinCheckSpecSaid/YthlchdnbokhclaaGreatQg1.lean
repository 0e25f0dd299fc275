import Derived.Test.YthlchdnbokhclaaGreatQt
set_option linter.all false
namespace Go.Proofs.YthlchdnbokhclaaGreat.Ql
open Go Go.Proofs
set_option maxRecDepth 100000
set_option maxHeartbeats 0
theorem f140_ok {K : Nat} {a0 : Int} {a1 : Int} {a2 : Int} {r : Bool} (h : f140 K a0 a1 a2 = some r) : CallOK Tryz.prog 140 [Ai a0, Ai a1, Ai a2] [] (Ab r) [] := by
 refine CallOK.of_tri Tryz.func140 rfl rfl (Nat.le_of_ble_eq_true rfl) ?_
 unfold f140 at h
 refine Tp rfl ?_
 refine Tri.seq ?_
 refine Tri.join1 ⟨[(6, Ab ((decide (a0 ≥ a1)) && (decide (a0 ≤ a2))))], []⟩ ?_ ?_
 ·refine Tri.ret ?_
  exact Rb h rfl
 ·refine Tri.region ?_
  refine Qe 4 rfl ?_
  rcases b2 (decide (a0 ≥ a1)) with hb | hb
  ·refine Qk 10 hb rfl ?_
   refine Qd rfl ?_
   exact (Es0 [6] rfl ⟨.imm (Sub.of_eq (show Ab ((decide (a0 ≥ a1)) && (decide (a0 ≤ a2))) = Ab (decide (a0 ≤ a2)) by simp only [cond_true, cond_false, Bool.true_or, Bool.false_or, Bool.true_and, Bool.false_and, Bool.or_true, Bool.or_false, Bool.and_true, Bool.and_false, hb])) rfl, trivial⟩)
  ·refine Qk 10 hb rfl ?_
   refine Qd rfl ?_
   exact (Es0 [6] rfl ⟨.imm (Sub.of_eq (show Ab ((decide (a0 ≥ a1)) && (decide (a0 ≤ a2))) = Ab false by simp only [cond_true, cond_false, Bool.true_or, Bool.false_or, Bool.true_and, Bool.false_and, Bool.or_true, Bool.or_false, Bool.and_true, Bool.and_false, hb])) rfl, trivial⟩)
theorem f177_ok {K : Nat} {a0 : Cell} {r : Bool} (h : f177 K a0 = some r) : CallOK Tryz.prog 177 [.agg (Cell.cl a0)] [] (Ab r) [] := by
 refine CallOK.of_tri Tryz.func177 rfl rfl (Nat.le_of_ble_eq_true rfl) ?_
 unfold f177 at h
 refine Tp rfl ?_
 refine Tri.seq ?_
 obtain ⟨v2, hj, h⟩ := bind_some h
 refine Tri.joinv v2 (fun (y : Bool) => ⟨[(2, Ab y)], []⟩) ?_ ?_
 ·refine Tri.ret ?_
  exact Rb h rfl
 ·have h := hj
  refine Tri.region ?_
  refine Qe 2 rfl ?_
  obtain ⟨x5, hc, h⟩ := bind_some h
  refine Qc rfl rfl rfl (args := [Ai a0.No, Ai 0, Ai 4095]) (r := Ab x5) (calv rfl rfl fnok_140 rfl) (f140_ok hc) rfl ?_
  refine Qe 1 rfl ?_
  rcases b2 x5 with hb | hb
  ·have h := cond_t hb h
   refine Qk 6 hb rfl ?_
   refine Qe 2 rfl ?_
   obtain ⟨x9, hc_1, h⟩ := bind_some h
   refine Qc rfl rfl rfl (args := [Ai a0.Height, Ai 0, Ai 9000]) (r := Ab x9) (calv rfl rfl fnok_140 rfl) (f140_ok hc_1) rfl ?_
   refine Qe 2 rfl ?_
   rcases b2 x9 with hb_1 | hb_1
   ·have h := cond_t hb_1 h
    refine Qk 11 hb_1 rfl ?_
    refine Qe 2 rfl ?_
    obtain ⟨x14, hc_2, h⟩ := bind_some h
    refine Qc rfl rfl rfl (args := [Ai a0.Aspect, Ai 0, Ai 7]) (r := Ab x14) (calv rfl rfl fnok_140 rfl) (f140_ok hc_2) rfl ?_
    refine Qe 2 rfl ?_
    rcases b2 x14 with hb_2 | hb_2
    ·have h := cond_t hb_2 h
     refine Qk 16 hb_2 rfl ?_
     refine Qe 2 rfl ?_
     obtain ⟨x19, hc_3, h⟩ := bind_some h
     refine Qc rfl rfl rfl (args := [Ai a0.Area, Ai 1, Ai 4096]) (r := Ab x19) (calv rfl rfl fnok_140 rfl) (f140_ok hc_3) rfl ?_
     refine Qd rfl ?_
     exact Exists.intro x19 (And.intro h (E0 rfl))
    ·have h := cond_f hb_2 h
     refine Qk 16 hb_2 rfl ?_
     refine Qd rfl ?_
     exact Exists.intro false (And.intro h (E0 rfl))
   ·have h := cond_f hb_1 h
    refine Qk 11 hb_1 rfl ?_
    refine Qd rfl ?_
    exact Exists.intro false (And.intro h (E0 rfl))
  ·have h := cond_f hb h
   refine Qk 6 hb rfl ?_
   refine Qd rfl ?_
   exact Exists.intro false (And.intro h (E0 rfl))
theorem f74_ok {K : Nat} {a0 : Basin} {r : Int} (h : f74 K a0 = some r) : CallOK Tryz.prog 74 [.agg (Basin.cl a0)] [] (Ai r) [] := by
 refine CallOK.of_tri Tryz.func74 rfl rfl (Nat.le_of_ble_eq_true rfl) ?_
 unfold f74 at h
 refine Tp rfl ?_
 refine Tri.seq ?_
 obtain ⟨v3, hj_5, h⟩ := bind_some h
 refine Tri.joinv v3 (fun (y : Bool) => ⟨[(1, .ipt (Basin.cl a0) 0), (3, Ab y)], []⟩) ?_ ?_
 ·refine Tri.seq ?_
  obtain ⟨v3_1, hj_4, h⟩ := bind_some h
  refine Tri.joinv v3_1 (fun (y : Bool) => ⟨[(1, .ipt (Basin.cl a0) 0), (3, Ab y)], []⟩) ?_ ?_
  ·refine Tri.seq ?_
   refine Tp rfl ?_
   refine Tri.cond (b := (!v3_1)) rfl (fun hb => ?_) (fun hb => ?_)
   ·have h := cond_t hb h
    refine Tp rfl ?_
    refine Tri.ret ?_
    exact Ri h rfl
   ·have h := cond_f hb h
    refine Tri.skip ?_
    refine Tri.seq ?_
    refine Tr ?_
    refine Qe 2 rfl ?_
    refine Q1 rfl rfl rfl (Ax.ln (cl := Cell.cl) rfl slc_22 rfl) ?_
    refine Qd rfl ?_
    obtain ⟨j, hj, h⟩ := jo h
    refine Tri.rngL h (fun p => ⟨[(1, .ipt (Basin.cl a0) 0), (39, .lst 4 (a0.Cells.map Cell.cl)), (40, Ai (a0.Cells.length : Int)), (41, Ai p.1)], []⟩) (fun y => j y = some r) (fun (y : Unit) => ⟨[(1, .ipt (Basin.cl a0) 0)], []⟩) (E0 rfl) ?_ ?_ ?_
    ·rintro ⟨⟩ h
     subst hj
     refine Tr ?_
     refine Qn rfl rfl rfl (v := .hnd 66) (x := some (.mp (([] : List (Int × Int)).map prV))) (Ax.mkm rfl rfl) rfl rfl rfl rfl rfl ?_
     refine Qd rfl ?_
     refine Tri.seq ?_
     refine Tr ?_
     refine Qe 2 rfl ?_
     refine Q1 rfl rfl rfl (Ax.ln (cl := Arr2_3.cl) rfl slc_23 rfl) ?_
     refine Qd rfl ?_
     obtain ⟨j_1, hj_1, h⟩ := jo h
     refine Tri.rngL h (fun p => ⟨[(1, .ipt (Basin.cl a0) 0), (6, .hnd 66), (68, .lst 2 (a0.Pairs.map Arr2_3.cl)), (69, Ai (a0.Pairs.length : Int)), (70, Ai p.1)], [(66, some (.mp (p.2.map prV)))]⟩) (fun y => j_1 y = some r) (fun (y : Unit) => ⟨[], []⟩) (Ee [66] rfl trivial) ?_ ?_ ?_
     ·rintro ⟨⟩ h
      subst hj_1
      refine Tp rfl ?_
      refine Tri.ret ?_
      exact Ri h rfl
     ·rintro v70 vo6 hi_1 h
      refine Tp rfl ?_
      refine Tri.seq ?_
      refine Tri.cond (b := (decide (v70 < (a0.Pairs.length : Int)))) rfl (fun hb_1 => ?_) (fun hb_1 => ?_)
      ·exact (lt_f hi_1 hb_1).elim
      ·refine Tri.exit ?_
       exact Exists.intro () (And.intro h (E0 rfl))
     ·rintro nx_1 x_1 v70 vo6 _ hi_1 hw_1 hx_1 h
      refine Tp rfl ?_
      refine Tri.seq ?_
      refine Tri.cond (b := (decide (v70 < (a0.Pairs.length : Int)))) rfl (fun hb_2 => ?_) (fun hb_2 => ?_)
      ·refine Tri.skip ?_
       refine Tri.seq ?_
       refine Tri.block ?_
       refine Tr ?_
       refine Q1 rfl rfl rfl (Ax.ix (cl := Arr2_3.cl) rfl slc_23 rfl rfl hx_1) ?_
       refine Qe 1 rfl ?_
       refine Qn rfl rfl rfl (v := .ptr 8 0) (x := some (.box (Arr2_3.cl (⟨0, 0⟩ : Arr2_3)))) (Ax.alloc rfl rfl zer_97 rfl ⟨Sub.refl _, Sub.refl _, trivial⟩) rfl rfl rfl rfl rfl ?_
       refine Qs rfl rfl (x := some (.box (Arr2_3.cl x_1))) (Ax.st_box rfl siz_97 rfl rfl rfl rfl rfl rfl rfl) ?_
       refine RunD.done ?_
       refine Tri.seq ?_
       refine Tri.seq ?_
       obtain ⟨v115, hj_2, h⟩ := bind_some h
       refine Tri.joinv v115 (fun (y : Bool) => ⟨[(1, .ipt (Basin.cl a0) 0), (6, .hnd 66), (8, .ptr 8 0), (68, .lst 2 (a0.Pairs.map Arr2_3.cl)), (69, Ai (a0.Pairs.length : Int)), (70, Ai v70), (115, Ab y)], [(66, some (.mp (vo6.map prV))), (8, some (.box (Arr2_3.cl x_1)))]⟩) ?_ ?_
       ·refine Tri.cond (b := v115) rfl (fun hb_3 => ?_) (fun hb_3 => ?_)
        ·have h := cond_t hb_3 h
         refine Tp rfl ?_
         refine Tri.ret ?_
         exact Ri h rfl
        ·have h := cond_f hb_3 h
         refine Tri.skip ?_
         refine Tr ?_
         refine Q1 rfl rfl rfl (Ax.index_ptr (k := .i64) (n := 0) rfl arr_97 rfl rfl rfl (by decide) (by decide)) ?_
         refine Qe 1 rfl ?_
         refine Q1 rfl rfl rfl (Ax.index_ptr (k := .i64) (n := 1) rfl arr_97 rfl rfl rfl (by decide) (by decide)) ?_
         refine Qe 1 rfl ?_
         refine Q1 rfl rfl rfl (v := Ai (if x_1.a1 < x_1.a0 then x_1.a1 else x_1.a0)) (Ax.min rfl rfl rfl) ?_
         refine Q1 rfl rfl rfl (Ax.index_ptr (k := .i64) (n := 0) rfl arr_97 rfl rfl rfl (by decide) (by decide)) ?_
         refine Qe 1 rfl ?_
         refine Q1 rfl rfl rfl (Ax.index_ptr (k := .i64) (n := 1) rfl arr_97 rfl rfl rfl (by decide) (by decide)) ?_
         refine Qe 1 rfl ?_
         refine Q1 rfl rfl rfl (v := Ai (if x_1.a1 > x_1.a0 then x_1.a1 else x_1.a0)) (Ax.max rfl rfl rfl) ?_
         refine Q1 rfl rfl rfl (v := .agg (Arr2_3.cl (⟨(if x_1.a1 < x_1.a0 then x_1.a1 else x_1.a0), (if x_1.a1 > x_1.a0 then x_1.a1 else x_1.a0)⟩ : Arr2_3))) (Ax.build rfl zer_97 (blda pla_97 zer_97) rfl ⟨Sub.refl _, Sub.refl _, trivial⟩) ?_
         refine Qn rfl rfl rfl (v := .ptr 9 0) (x := some (.box (Arr2_3.cl (⟨0, 0⟩ : Arr2_3)))) (Ax.alloc rfl rfl zer_97 rfl ⟨Sub.refl _, Sub.refl _, trivial⟩) rfl rfl rfl rfl rfl ?_
         refine Qs rfl rfl (x := some (.box (Arr2_3.cl (⟨(if x_1.a1 < x_1.a0 then x_1.a1 else x_1.a0), (if x_1.a1 > x_1.a0 then x_1.a1 else x_1.a0)⟩ : Arr2_3)))) (Ax.st_box rfl siz_97 rfl rfl rfl rfl rfl rfl rfl) ?_
         refine RunD.done ?_
         refine Tri.seq ?_
         refine Tr ?_
         refine Qe 2 rfl ?_
         refine Q1 rfl rfl rfl (v := Ab (vo6.contains ((if x_1.a1 < x_1.a0 then x_1.a1 else x_1.a0), (if x_1.a1 > x_1.a0 then x_1.a1 else x_1.a0)))) (Ax.lkm (ps := vo6) (a := (if x_1.a1 < x_1.a0 then x_1.a1 else x_1.a0)) (b := (if x_1.a1 > x_1.a0 then x_1.a1 else x_1.a0)) rfl mpt_268 rfl rfl rfl) ?_
         refine RunD.done ?_
         refine Tri.cond (b := (vo6.contains ((if x_1.a1 < x_1.a0 then x_1.a1 else x_1.a0), (if x_1.a1 > x_1.a0 then x_1.a1 else x_1.a0)))) rfl (fun hb_4 => ?_) (fun hb_4 => ?_)
         ·have h := cond_t hb_4 h
          refine Tp rfl ?_
          refine Tri.ret ?_
          exact Ri h rfl
         ·have h := cond_f hb_4 h
          refine Tri.skip ?_
          refine Tri.region ?_
          refine Qe 2 rfl ?_
          refine Qs rfl rfl (x := some (.mp ((if vo6.contains ((if x_1.a1 < x_1.a0 then x_1.a1 else x_1.a0), (if x_1.a1 > x_1.a0 then x_1.a1 else x_1.a0)) then vo6 else vo6 ++ [((if x_1.a1 < x_1.a0 then x_1.a1 else x_1.a0), (if x_1.a1 > x_1.a0 then x_1.a1 else x_1.a0))]).map prV))) (Ax.ptm (ps := vo6) (a := (if x_1.a1 < x_1.a0 then x_1.a1 else x_1.a0)) (b := (if x_1.a1 > x_1.a0 then x_1.a1 else x_1.a0)) rfl mpt_268 rfl rfl rfl rfl) ?_
          refine RunD.done ?_
          refine Tq rfl ?_
          exact Exists.intro (v70 + 1, (if vo6.contains ((if x_1.a1 < x_1.a0 then x_1.a1 else x_1.a0), (if x_1.a1 > x_1.a0 then x_1.a1 else x_1.a0)) then vo6 else vo6 ++ [((if x_1.a1 < x_1.a0 then x_1.a1 else x_1.a0), (if x_1.a1 > x_1.a0 then x_1.a1 else x_1.a0))])) (And.intro (And.intro rfl h) (Es [66] [70] rfl trivial ⟨.imm (Sub.of_eq (show Ai (v70 + 1) = Ai (W (v70 + 1)) from congrArg Ai hw_1.symm)) rfl, trivial⟩))
       ·have h := hj_2
        refine Tri.drawn [[], [0], [], [2], [2, 3], [2, 3, 4], [0, 1, 2, 3, 4, 5], [0, 1, 2, 3, 4, 5, 6], [0, 1, 2, 3, 4, 5, 6, 7], [0, 1, 2, 3, 4, 5, 6, 7, 8], [0, 1, 2, 3, 4, 5, 6, 7, 8, 9], [0, 1, 2, 3, 4, 5, 6, 7, 8], [0, 1, 2, 3, 4, 5, 6, 7, 8, 11], [0, 1, 2, 3, 4, 5, 6, 7, 8, 11, 12], [0, 1, 2, 3, 4, 5, 6, 7, 8, 11, 12, 13], [0, 1, 2, 3, 4, 5, 6, 7, 8, 9, 10, 11, 12, 13, 14], [0, 1, 2, 3, 4, 5, 6, 7, 8, 9, 10, 11, 12, 13, 14, 15], [0, 1, 2, 3, 4, 5, 6, 7, 8, 9, 10, 11, 12, 13, 14, 15, 16], [0, 1, 2, 3, 4, 5, 6, 7, 8, 9, 10, 11, 12, 13, 14, 15, 16, 17], [0, 1, 2, 3, 4, 5, 6, 7, 8, 9, 10, 11, 12, 13, 14, 15, 16, 17, 18], [0, 1, 2, 3, 4, 5, 6, 7, 8, 9, 10, 11, 12, 13, 14, 15, 16, 17, 18, 19], [0, 1, 2, 3, 4, 5, 6, 7, 8, 9, 10, 11, 12, 13, 14, 15, 16, 17, 18], [0, 1, 2, 3, 4, 5, 6, 7, 8, 9, 10, 11, 12, 13, 14, 15, 16, 17, 18, 21], [0, 1, 2, 3, 4, 5, 6, 7, 8, 9, 10, 11, 12, 13, 14, 15, 16, 17, 18, 19, 20, 21, 22], [0, 1, 2, 3, 4, 5, 6, 7, 8, 9, 10, 11, 12, 13, 14, 15, 16, 17, 18, 19, 20, 21, 22, 23], [0, 1, 2, 3, 4, 5, 6, 7, 8, 9, 10, 11, 12, 13, 14, 15, 16, 17, 18, 19, 20, 21, 22, 23, 24], [0, 1, 2, 3, 4, 5, 6, 7, 8, 9, 10, 11, 12, 13, 14, 15, 16, 17, 18, 19, 20, 21, 22, 23, 24, 25], [0, 1, 2, 3, 4, 5, 6, 7, 8, 9, 10, 11, 12, 13, 14, 15, 16, 17, 18, 19, 20, 21, 22, 23, 24, 25, 26], [0, 1, 2, 3, 4, 5, 6, 7, 8, 9, 10, 11, 12, 13, 14, 15, 16, 17, 18, 19, 20, 21, 22, 23, 24, 25], [0, 1, 2, 3, 4, 5, 6, 7, 8, 9, 10, 11, 12, 13, 14, 15, 16, 17, 18, 19, 20, 21, 22, 23, 24, 25, 28], [0, 1, 2, 3, 4, 5, 6, 7, 8, 9, 10, 11, 12, 13, 14, 15, 16, 17, 18, 19, 20, 21, 22, 23, 24, 25, 26, 27, 28, 29], [0, 1, 2, 3, 4, 5, 6, 7, 8, 9, 10, 11, 12, 13, 14, 15, 16, 17, 18, 19, 20, 21, 22, 23, 24, 25, 26, 27, 28, 29, 30], [0, 1, 2, 3, 4, 5, 6, 7, 8, 9, 10, 11, 12, 13, 14, 15, 16, 17, 18, 19, 20, 21, 22, 23, 24, 25, 26, 27, 28, 29, 30, 31], [0, 1, 2, 3, 4, 5, 6, 7, 8, 9, 10, 11, 12, 13, 14, 15, 16, 17, 18, 19, 20, 21, 22, 23, 24, 25], [0, 1, 2, 3, 4, 5, 6, 7, 8, 9, 10, 11, 12, 13, 14, 15, 16, 17, 18, 19, 20, 21, 22, 23, 24, 25, 33], [0, 1, 2, 3, 4, 5, 6, 7, 8, 9, 10, 11, 12, 13, 14, 15, 16, 17, 18, 19, 20, 21, 22, 23, 24, 25], [0, 1, 2, 3, 4, 5, 6, 7, 8, 9, 10, 11, 12, 13, 14, 15, 16, 17, 18, 19, 20, 21, 22, 23, 24, 25, 35], [0, 1, 2, 3, 4, 5, 6, 7, 8, 9, 10, 11, 12, 13, 14, 15, 16, 17, 18, 19, 20, 21, 22, 23, 24, 25, 33, 34, 35, 36], [0, 1, 2, 3, 4, 5, 6, 7, 8, 9, 10, 11, 12, 13, 14, 15, 16, 17, 18, 19, 20, 21, 22, 23, 24, 25, 33, 34, 35, 36, 37], [0, 1, 2, 3, 4, 5, 6, 7, 8, 9, 10, 11, 12, 13, 14, 15, 16, 17, 18, 19, 20, 21, 22, 23, 24, 25, 33, 34, 35, 36, 37, 38], [0, 1, 2, 3, 4, 5, 6, 7, 8, 9, 10, 11, 12, 13, 14, 15, 16, 17, 18, 19, 20, 21, 22, 23, 24, 25, 26, 27, 28, 29, 30, 31, 32, 33, 34, 35, 36, 37, 38, 39], [0, 1, 2, 3, 4, 5, 6, 7, 8, 9, 10, 11, 12, 13, 14, 15, 16, 17, 18, 19, 20, 21, 22, 23, 24, 25, 26, 27, 28, 29, 30, 31, 32, 33, 34, 35, 36, 37, 38, 39, 40]] hmix (by kernel_rfl) ?_
        refine Q1 rfl rfl rfl (Ax.index_ptr (k := .i64) (n := 0) rfl arr_97 rfl rfl rfl (by decide) (by decide)) ?_
        refine Qe 3 rfl ?_
        refine Q1 rfl rfl rfl (Ax.ln (cl := Cell.cl) rfl slc_22 rfl) ?_
        refine Qe 1 rfl ?_
        obtain ⟨x80, hc, h⟩ := bind_some h
        refine Qc rfl rfl rfl (args := [Ai x_1.a0, Ai 0, Ai (W ((a0.Cells.length : Int) - 1))]) (r := Ab x80) (calv rfl rfl fnok_140 rfl) (f140_ok hc) rfl ?_
        refine Qe 2 rfl ?_
        rcases b2 (!x80) with hb_5 | hb_5
        ·have h := cond_t hb_5 h
         refine Qk 82 hb_5 rfl ?_
         refine Qe 33 rfl ?_
         refine RunD.done ⟨by kernel_rfl, freshL_of [] (by kernel_rfl) (by kernel_rfl), ?_⟩
         exact Exists.intro true (And.intro h (Ee [66, 8] rfl trivial))
        ·have h := cond_f hb_5 h
         refine Qk 82 hb_5 rfl ?_
         refine Q1 rfl rfl rfl (Ax.index_ptr (k := .i64) (n := 1) rfl arr_97 rfl rfl rfl (by decide) (by decide)) ?_
         refine Qe 3 rfl ?_
         refine Q1 rfl rfl rfl (Ax.ln (cl := Cell.cl) rfl slc_22 rfl) ?_
         refine Qe 1 rfl ?_
         obtain ⟨x89, hc_1, h⟩ := bind_some h
         refine Qc rfl rfl rfl (args := [Ai x_1.a1, Ai 0, Ai (W ((a0.Cells.length : Int) - 1))]) (r := Ab x89) (calv rfl rfl fnok_140 rfl) (f140_ok hc_1) rfl ?_
         refine Qe 3 rfl ?_
         rcases b2 (!x89) with hb_6 | hb_6
         ·have h := cond_t hb_6 h
          refine Qk 92 hb_6 rfl ?_
          refine Qe 23 rfl ?_
          refine RunD.done ⟨by kernel_rfl, freshL_of [] (by kernel_rfl) (by kernel_rfl), ?_⟩
          exact Exists.intro true (And.intro h (Ee [66, 8] rfl trivial))
         ·have h := cond_f hb_6 h
          refine Qk 92 hb_6 rfl ?_
          refine Q1 rfl rfl rfl (Ax.index_ptr (k := .i64) (n := 0) rfl arr_97 rfl rfl rfl (by decide) (by decide)) ?_
          refine Qe 1 rfl ?_
          refine Q1 rfl rfl rfl (Ax.index_ptr (k := .i64) (n := 1) rfl arr_97 rfl rfl rfl (by decide) (by decide)) ?_
          refine Qe 4 rfl ?_
          rcases b2 (x_1.a0 == x_1.a1) with hb_7 | hb_7
          ·have h := cond_t hb_7 h
           refine Qk 99 hb_7 rfl ?_
           refine Qe 16 rfl ?_
           refine RunD.done ⟨by kernel_rfl, freshL_of [] (by kernel_rfl) (by kernel_rfl), ?_⟩
           exact Exists.intro true (And.intro h (Ee [66, 8] rfl trivial))
          ·have h := cond_f hb_7 h
           refine Qk 99 hb_7 rfl ?_
           refine Qe 2 rfl ?_
           refine Q1 rfl rfl rfl (Ax.index_ptr (k := .i64) (n := 0) rfl arr_97 rfl rfl rfl (by decide) (by decide)) ?_
           refine Qe 1 rfl ?_
           obtain ⟨y, hy, h⟩ := bind_some h
           refine Q1 rfl rfl rfl (Ax.ix (cl := Cell.cl) rfl slc_22 rfl rfl hy) ?_
           refine Qe 4 rfl ?_
           refine Q1 rfl rfl rfl (Ax.index_ptr (k := .i64) (n := 1) rfl arr_97 rfl rfl rfl (by decide) (by decide)) ?_
           refine Qe 1 rfl ?_
           obtain ⟨y_1, hy_1, h⟩ := bind_some h
           refine Q1 rfl rfl rfl (Ax.ix (cl := Cell.cl) rfl slc_22 rfl rfl hy_1) ?_
           refine Qe 4 rfl ?_
           refine RunD.done ⟨by kernel_rfl, freshL_of [] (by kernel_rfl) (by kernel_rfl), ?_⟩
           exact Exists.intro (decide (y.Height > y_1.Height)) (And.intro h (Ee [66, 8] rfl trivial))
      ·exact (lt_t hi_1 hb_2).elim
    ·rintro v41 ⟨⟩ hi h
     refine Tp rfl ?_
     refine Tri.seq ?_
     refine Tri.cond (b := (decide (v41 < (a0.Cells.length : Int)))) rfl (fun hb_8 => ?_) (fun hb_8 => ?_)
     ·exact (lt_f hi hb_8).elim
     ·refine Tri.exit ?_
      exact Exists.intro () (And.intro h (E0 rfl))
    ·rintro nx x v41 ⟨⟩ _ hi hw hx h
     refine Tp rfl ?_
     refine Tri.seq ?_
     refine Tri.cond (b := (decide (v41 < (a0.Cells.length : Int)))) rfl (fun hb_9 => ?_) (fun hb_9 => ?_)
     ·refine Tri.skip ?_
      refine Tri.seq ?_
      refine Tri.block ?_
      refine Tr ?_
      refine Qe 1 rfl ?_
      refine Q1 rfl rfl rfl (Ax.ix (cl := Cell.cl) rfl slc_22 rfl rfl hx) ?_
      refine Qe 1 rfl ?_
      refine Qn rfl rfl rfl (v := .ptr 5 0) (x := some (.box (Cell.cl (⟨0, 0, 0, 0⟩ : Cell)))) (Ax.alloc rfl rfl zer_56 rfl ⟨Sub.refl _, Sub.refl _, Sub.refl _, Sub.refl _, trivial⟩) rfl rfl rfl rfl rfl ?_
      refine Qe 1 rfl ?_
      refine Qs rfl rfl (x := some (.box (Cell.cl x))) (Ax.st_box rfl siz_56 rfl rfl rfl rfl rfl rfl rfl) ?_
      refine RunD.done ?_
      refine Tri.seq ?_
      obtain ⟨v64, hj_3, h⟩ := bind_some h
      refine Tri.joinv v64 (fun (y : Bool) => ⟨[(1, .ipt (Basin.cl a0) 0), (39, .lst 4 (a0.Cells.map Cell.cl)), (40, Ai (a0.Cells.length : Int)), (41, Ai v41), (64, Ab y)], []⟩) ?_ ?_
      ·refine Tri.cond (b := v64) rfl (fun hb_10 => ?_) (fun hb_10 => ?_)
       ·have h := cond_t hb_10 h
        refine Tp rfl ?_
        refine Tri.ret ?_
        exact Ri h rfl
       ·have h := cond_f hb_10 h
        refine Tri.skip ?_
        refine Tq rfl ?_
        exact Exists.intro (v41 + 1, ()) (And.intro (And.intro rfl h) (Es0 [41] rfl ⟨.imm (Sub.of_eq (show Ai (v41 + 1) = Ai (W (v41 + 1)) from congrArg Ai hw.symm)) rfl, trivial⟩))
      ·have h := hj_3
       refine Tri.drawn [[], [0], [0, 1], [0, 1, 2], [0, 1, 2, 3], [0, 1, 2, 3, 4], [0, 1, 2, 3, 4, 5], [0, 1, 2, 3, 4, 5, 6], [0, 1, 2, 3, 4, 5, 6, 7], [0, 1, 2, 3, 4, 5, 6], [0, 1, 2, 3, 4, 5, 6, 9], [0, 1, 2, 3, 4, 5, 6, 7, 8, 9, 10], [0, 1, 2, 3, 4, 5, 6, 7, 8, 9, 10, 11], [0, 1, 2, 3, 4, 5, 6, 7, 8, 9, 10, 11, 12], [0, 1, 2, 3, 4, 5, 6], [0, 1, 2, 3, 4, 5, 6, 14], [0, 1, 2, 3, 4, 5, 6, 7, 8, 9, 10, 11, 12, 13, 14, 15], [0, 1, 2, 3, 4, 5, 6, 7, 8, 9, 10, 11, 12, 13, 14, 15, 16], [0, 1, 2, 3, 4, 5, 6, 7, 8, 9, 10, 11, 12, 13, 14, 15, 16, 17]] hmix (by kernel_rfl) ?_
       refine Qe 1 rfl ?_
       obtain ⟨x47, hc_2, h⟩ := bind_some h
       refine Qc rfl rfl rfl (args := [.agg (Cell.cl x)]) (r := Ab x47) (calv rfl rfl fnok_177 rfl) (f177_ok hc_2) rfl ?_
       refine Qe 2 rfl ?_
       rcases b2 (!x47) with hb_11 | hb_11
       ·have h := cond_t hb_11 h
        refine Qk 49 hb_11 rfl ?_
        refine Qe 15 rfl ?_
        refine RunD.done ⟨by kernel_rfl, freshL_of [] (by kernel_rfl) (by kernel_rfl), ?_⟩
        exact Exists.intro true (And.intro h (E0 rfl))
       ·have h := cond_f hb_11 h
        refine Qk 49 hb_11 rfl ?_
        refine Qe 3 rfl ?_
        rcases b2 (decide (v41 > 0)) with hb_12 | hb_12
        ·have h := cond_t hb_12 h
         refine Qk 52 hb_12 rfl ?_
         refine Qe 4 rfl ?_
         obtain ⟨y_2, hy_2, h⟩ := bind_some h
         refine Q1 rfl rfl rfl (Ax.ix (cl := Cell.cl) rfl slc_22 rfl rfl hy_2) ?_
         refine Qe 7 rfl ?_
         refine RunD.done ⟨by kernel_rfl, freshL_of [] (by kernel_rfl) (by kernel_rfl), ?_⟩
         exact Exists.intro (decide (y_2.No ≥ x.No)) (And.intro h (E0 rfl))
        ·have h := cond_f hb_12 h
         refine Qk 52 hb_12 rfl ?_
         refine Qe 12 rfl ?_
         refine RunD.done ⟨by kernel_rfl, freshL_of [] (by kernel_rfl) (by kernel_rfl), ?_⟩
         exact Exists.intro false (And.intro h (E0 rfl))
     ·exact (lt_t hi hb_9).elim
  ·have h := hj_4
   refine Tri.region ?_
   refine Qe 2 rfl ?_
   rcases b2 v3 with hb_13 | hb_13
   ·have h := cond_t hb_13 h
    refine Qk 21 hb_13 rfl ?_
    refine Qe 2 rfl ?_
    obtain ⟨x24, hc_3, h⟩ := bind_some h
    refine Qc rfl rfl rfl (args := [Ai a0.Gain, Ai 0, Ai 65536]) (r := Ab x24) (calv rfl rfl fnok_140 rfl) (f140_ok hc_3) rfl ?_
    refine Qe 2 rfl ?_
    rcases b2 x24 with hb_14 | hb_14
    ·have h := cond_t hb_14 h
     refine Qk 26 hb_14 rfl ?_
     refine Qe 2 rfl ?_
     obtain ⟨x29, hc_4, h⟩ := bind_some h
     refine Qc rfl rfl rfl (args := [Ai a0.Slack, Ai 0, Ai 65536]) (r := Ab x29) (calv rfl rfl fnok_140 rfl) (f140_ok hc_4) rfl ?_
     refine Qe 2 rfl ?_
     rcases b2 x29 with hb_15 | hb_15
     ·have h := cond_t hb_15 h
      refine Qk 31 hb_15 rfl ?_
      refine Qe 2 rfl ?_
      obtain ⟨x34, hc_5, h⟩ := bind_some h
      refine Qc rfl rfl rfl (args := [Ai a0.Deep, Ai 0, Ai 65536]) (r := Ab x34) (calv rfl rfl fnok_140 rfl) (f140_ok hc_5) rfl ?_
      refine Qd rfl ?_
      exact Exists.intro x34 (And.intro h (E0 rfl))
     ·have h := cond_f hb_15 h
      refine Qk 31 hb_15 rfl ?_
      refine Qd rfl ?_
      exact Exists.intro false (And.intro h (E0 rfl))
    ·have h := cond_f hb_14 h
     refine Qk 26 hb_14 rfl ?_
     refine Qd rfl ?_
     exact Exists.intro false (And.intro h (E0 rfl))
   ·have h := cond_f hb_13 h
    refine Qk 21 hb_13 rfl ?_
    refine Qd rfl ?_
    exact Exists.intro false (And.intro h (E0 rfl))
 ·have h := hj_5
  refine Tri.region ?_
  refine Qe 2 rfl ?_
  refine Q1 rfl rfl rfl (Ax.ln (cl := Cell.cl) rfl slc_22 rfl) ?_
  obtain ⟨x13, hc_6, h⟩ := bind_some h
  refine Qc rfl rfl rfl (args := [Ai (a0.Cells.length : Int), Ai 1, Ai 12]) (r := Ab x13) (calv rfl rfl fnok_140 rfl) (f140_ok hc_6) rfl ?_
  refine Qe 1 rfl ?_
  rcases b2 x13 with hb_16 | hb_16
  ·have h := cond_t hb_16 h
   refine Qk 14 hb_16 rfl ?_
   refine Qe 2 rfl ?_
   refine Q1 rfl rfl rfl (Ax.ln (cl := Arr2_3.cl) rfl slc_23 rfl) ?_
   refine Qd rfl ?_
   exact Exists.intro (decide ((a0.Pairs.length : Int) ≤ 24)) (And.intro h (E0 rfl))
  ·have h := cond_f hb_16 h
   refine Qk 14 hb_16 rfl ?_
   refine Qd rfl ?_
   exact Exists.intro false (And.intro h (E0 rfl))
theorem f194_ok {K : Nat} {a0 : List Int} {a1 : Int} {r : Int} (h : f194 K a0 a1 = some r) : CallOK Tryz.prog 194 [.lst 1 (a0.map icl), Ai a1] [] (Ai r) [] := by
 refine CallOK.of_tri Tryz.func194 rfl rfl (Nat.le_of_ble_eq_true rfl) ?_
 unfold f194 at h
 refine Tp rfl ?_
 refine Tri.seq ?_
 refine Tr ?_
 refine Qe 1 rfl ?_
 refine Q1 rfl rfl rfl (Ax.ln (cl := icl) rfl slc_26 rfl) ?_
 refine Qd rfl ?_
 obtain ⟨j, hj, h⟩ := jo h
 refine Tri.rngL h (fun p => ⟨[(0, .lst 1 (a0.map icl)), (1, Ai a1), (7, Ai (a0.length : Int)), (8, Ai p.1)], []⟩) (fun y => j y = some r) (fun (y : Unit) => ⟨[], []⟩) (E0 rfl) ?_ ?_ ?_
 ·rintro ⟨⟩ h
  subst hj
  refine Tp rfl ?_
  refine Tri.ret ?_
  exact Ri h rfl
 ·rintro v8 ⟨⟩ hi h
  refine Tp rfl ?_
  refine Tri.seq ?_
  refine Tri.cond (b := (decide (v8 < (a0.length : Int)))) rfl (fun hb => ?_) (fun hb => ?_)
  ·exact (lt_f hi hb).elim
  ·refine Tri.exit ?_
   exact Exists.intro () (And.intro h (E0 rfl))
 ·rintro nx x v8 ⟨⟩ _ hi hw hx h
  refine Tp rfl ?_
  refine Tri.seq ?_
  refine Tri.cond (b := (decide (v8 < (a0.length : Int)))) rfl (fun hb_1 => ?_) (fun hb_1 => ?_)
  ·refine Tri.skip ?_
   refine Tri.seq ?_
   refine Tri.block ?_
   refine Tp rfl ?_
   refine Tr ?_
   refine Qe 3 rfl ?_
   refine Q1 rfl rfl rfl (Ax.ix (cl := icl) rfl slc_26 rfl rfl hx) ?_
   refine Qd rfl ?_
   refine Tri.cond (b := (a1 == x)) rfl (fun hb_2 => ?_) (fun hb_2 => ?_)
   ·have h := cond_t hb_2 h
    refine Tp rfl ?_
    refine Tri.ret ?_
    exact Ri h rfl
   ·have h := cond_f hb_2 h
    refine Tri.skip ?_
    refine Tq rfl ?_
    exact Exists.intro (v8 + 1, ()) (And.intro (And.intro rfl h) (Es0 [8] rfl ⟨.imm (Sub.of_eq (show Ai (v8 + 1) = Ai (W (v8 + 1)) from congrArg Ai hw.symm)) rfl, trivial⟩))
  ·exact (lt_t hi hb_1).elim
theorem f83_ok {K : Nat} {a0 : List Int} {a1 : Int} {r : Bool} (h : f83 K a0 a1 = some r) : CallOK Tryz.prog 83 [.lst 1 (a0.map icl), Ai a1] [] (Ab r) [] := by
 refine CallOK.of_tri Tryz.func83 rfl rfl (Nat.le_of_ble_eq_true rfl) ?_
 unfold f83 at h
 refine Tp rfl ?_
 refine Tr ?_
 refine Qe 2 rfl ?_
 obtain ⟨x7, hc, h⟩ := bind_some h
 refine Qc rfl rfl rfl (args := [.lst 1 (a0.map icl), Ai a1]) (r := Ai x7) (calv rfl rfl fnok_194 rfl) (f194_ok hc) rfl ?_
 refine Qd rfl ?_
 refine Tri.ret ?_
 exact Rb h rfl
theorem f209_ok {K : Nat} {a0 : List Cell} {a1 : Cell → Option Bool} {g1 : Nat} {caps1 : List AV} {r : Int} (hg1 : FnOK Tryz.prog g1) (ho1 : (AV.fn g1 caps1).only [] = true) (hp1 : ∀ x0 r, a1 x0 = some r → CallOK Tryz.prog g1 ([.agg (Cell.cl x0)] ++ caps1) [] (Ab r) []) (h : f209 K a0 a1 = some r) : CallOK Tryz.prog 209 [.lst 4 (a0.map Cell.cl), .fn g1 caps1] [] (Ai r) [] := by
 refine CallOK.of_tri Tryz.func209 rfl rfl (Nat.le_of_ble_eq_true rfl) ?_
 unfold f209 at h
 refine Tp rfl ?_
 refine Tri.seq ?_
 refine Tr ?_
 refine Qe 1 rfl ?_
 refine Q1 rfl rfl rfl (Ax.ln (cl := Cell.cl) rfl slc_22 rfl) ?_
 refine Qd rfl ?_
 obtain ⟨j, hj, h⟩ := jo h
 refine Tri.rngL h (fun p => ⟨[(0, .lst 4 (a0.map Cell.cl)), (1, .fn g1 caps1), (7, Ai (a0.length : Int)), (8, Ai p.1)], []⟩) (fun y => j y = some r) (fun (y : Unit) => ⟨[], []⟩) (Es0 [1] rfl ⟨.imm (Sub.refl _) ho1, trivial⟩) ?_ ?_ ?_
 ·rintro ⟨⟩ h
  subst hj
  refine Tp rfl ?_
  refine Tri.ret ?_
  exact Ri h rfl
 ·rintro v8 ⟨⟩ hi h
  refine Tp rfl ?_
  refine Tri.seq ?_
  refine Tri.cond (b := (decide (v8 < (a0.length : Int)))) rfl (fun hb => ?_) (fun hb => ?_)
  ·exact (lt_f hi hb).elim
  ·refine Tri.exit ?_
   exact Exists.intro () (And.intro h (E0 rfl))
 ·rintro nx x v8 ⟨⟩ _ hi hw hx h
  refine Tp rfl ?_
  refine Tri.seq ?_
  refine Tri.cond (b := (decide (v8 < (a0.length : Int)))) rfl (fun hb_1 => ?_) (fun hb_1 => ?_)
  ·refine Tri.skip ?_
   refine Tri.seq ?_
   refine Tri.block ?_
   refine Tp rfl ?_
   refine Tr ?_
   refine Qe 3 rfl ?_
   refine Q1 rfl rfl rfl (Ax.ix (cl := Cell.cl) rfl slc_22 rfl rfl hx) ?_
   refine Qe 1 rfl ?_
   obtain ⟨x16, hc, h⟩ := bind_some h
   refine Qc rfl rfl rfl (args := [.agg (Cell.cl x)] ++ caps1) (r := Ab x16) (calv rfl rfl hg1 rfl) (hp1 _ _ hc) rfl ?_
   refine RunD.done ?_
   refine Tri.cond (b := x16) rfl (fun hb_2 => ?_) (fun hb_2 => ?_)
   ·have h := cond_t hb_2 h
    refine Tp rfl ?_
    refine Tri.ret ?_
    exact Ri h rfl
   ·have h := cond_f hb_2 h
    refine Tri.skip ?_
    refine Tq rfl ?_
    exact Exists.intro (v8 + 1, ()) (And.intro (And.intro rfl h) (Es0 [1, 8] rfl ⟨.imm (Sub.refl _) ho1, .imm (Sub.of_eq (show Ai (v8 + 1) = Ai (W (v8 + 1)) from congrArg Ai hw.symm)) rfl, trivial⟩))
  ·exact (lt_t hi hb_1).elim
theorem f296_ok {K : Nat} {a0 : Cell} {a1 : Int} {r : Bool} (h : f296 K a0 a1 = some r) : CallOK Tryz.prog 296 [.agg (Cell.cl a0), .ipt (icl a1) 0] [] (Ab r) [] := by
 refine CallOK.of_tri Tryz.func296 rfl rfl (Nat.le_of_ble_eq_true rfl) ?_
 unfold f296 at h
 refine Tp rfl ?_
 refine Tp rfl ?_
 refine Tri.ret ?_
 exact Rb h rfl
theorem f221_ok {K : Nat} {a0 : Basin} {a1 : Int} {r : Int} (h : f221 K a0 a1 = some r) : CallOK Tryz.prog 221 [.agg (Basin.cl a0), Ai a1] [] (Ai r) [] := by
 refine CallOK.of_tri Tryz.func221 rfl rfl (Nat.le_of_ble_eq_true rfl) ?_
 unfold f221 at h
 refine Tp rfl ?_
 refine Tr ?_
 refine Qe 2 rfl ?_
 refine Q1 rfl rfl rfl (v := .fn 296 [.ipt (icl a1) 0]) (Ax.func rfl rfl) ?_
 obtain ⟨x8, hc, h⟩ := bind_some h
 refine Qc rfl rfl rfl (args := [.lst 4 (a0.Cells.map Cell.cl), .fn 296 [.ipt (icl a1) 0]]) (r := Ai x8) (calv rfl rfl fnok_209 rfl) (f209_ok fnok_296 rfl (fun _ _ hr => f296_ok hr) hc) rfl ?_
 refine Qd rfl ?_
 refine Tri.ret ?_
 exact Ri h rfl
theorem f130_ok {K : Nat} {a0 : Scene} {a1 : Sight} {r : Bool} (h : f130 K a0 a1 = some r) : CallOK Tryz.prog 130 [.agg (Scene.cl a0), .agg (Sight.cl a1)] [] (Ab r) [] := by
 refine CallOK.of_tri Tryz.func130 rfl rfl (Nat.le_of_ble_eq_true rfl) ?_
 unfold f130 at h
 refine Tp rfl ?_
 refine Tri.seq ?_
 obtain ⟨v4, hj, h⟩ := bind_some h
 refine Tri.joinv v4 (fun (y : Bool) => ⟨[(4, Ab y)], []⟩) ?_ ?_
 ·refine Tri.ret ?_
  exact Rb h rfl
 ·have h := hj
  refine Tri.region ?_
  refine Qe 2 rfl ?_
  obtain ⟨x7, hc, h⟩ := bind_some h
  refine Qc rfl rfl rfl (args := [Ai a1.No, Ai 0, Ai 8191]) (r := Ab x7) (calv rfl rfl fnok_140 rfl) (f140_ok hc) rfl ?_
  refine Qe 1 rfl ?_
  rcases b2 x7 with hb | hb
  ·have h := cond_t hb h
   refine Qk 8 hb rfl ?_
   refine Qe 4 rfl ?_
   obtain ⟨x13, hc_1, h⟩ := bind_some h
   refine Qc rfl rfl rfl (args := [.agg (Basin.cl a0.Basin), Ai a1.Cell]) (r := Ai x13) (calv rfl rfl fnok_221 rfl) (f221_ok hc_1) rfl ?_
   refine Qe 3 rfl ?_
   rcases b2 (decide (x13 ≥ 0)) with hb_1 | hb_1
   ·have h := cond_t hb_1 h
    refine Qk 16 hb_1 rfl ?_
    refine Qe 4 rfl ?_
    obtain ⟨x21, hc_2, h⟩ := bind_some h
    refine Qc rfl rfl rfl (args := [.lst 1 (a0.Days.map icl), Ai a1.Day]) (r := Ab x21) (calv rfl rfl fnok_83 rfl) (f83_ok hc_2) rfl ?_
    refine Qe 2 rfl ?_
    rcases b2 x21 with hb_2 | hb_2
    ·have h := cond_t hb_2 h
     refine Qk 23 hb_2 rfl ?_
     refine Qe 5 rfl ?_
     rcases b2 (decide (0 ≤ a1.Lo)) with hb_3 | hb_3
     ·have h := cond_t hb_3 h
      refine Qk 28 hb_3 rfl ?_
      refine Qe 7 rfl ?_
      rcases b2 (decide (a1.Lo ≤ a1.Hi)) with hb_4 | hb_4
      ·have h := cond_t hb_4 h
       refine Qk 35 hb_4 rfl ?_
       refine Qd rfl ?_
       exact Exists.intro (decide (a1.Hi ≤ 65536)) (And.intro h (E0 rfl))
      ·have h := cond_f hb_4 h
       refine Qk 35 hb_4 rfl ?_
       refine Qd rfl ?_
       exact Exists.intro false (And.intro h (E0 rfl))
     ·have h := cond_f hb_3 h
      refine Qk 28 hb_3 rfl ?_
      refine Qd rfl ?_
      exact Exists.intro false (And.intro h (E0 rfl))
    ·have h := cond_f hb_2 h
     refine Qk 23 hb_2 rfl ?_
     refine Qd rfl ?_
     exact Exists.intro false (And.intro h (E0 rfl))
   ·have h := cond_f hb_1 h
    refine Qk 16 hb_1 rfl ?_
    refine Qd rfl ?_
    exact Exists.intro false (And.intro h (E0 rfl))
  ·have h := cond_f hb h
   refine Qk 8 hb rfl ?_
   refine Qd rfl ?_
   exact Exists.intro false (And.intro h (E0 rfl))
theorem f174_ok {K : Nat} {a0 : List Int} {r : Bool} (h : f174 K a0 = some r) : CallOK Tryz.prog 174 [.lst 1 (a0.map icl)] [] (Ab r) [] := by
 refine CallOK.of_tri Tryz.func174 rfl rfl (Nat.le_of_ble_eq_true rfl) ?_
 unfold f174 at h
 refine Tp rfl ?_
 refine Tri.seq ?_
 refine Tp rfl ?_
 obtain ⟨j, hj, h⟩ := jo h
 refine Tri.rngN h (fun p => ⟨[(0, .lst 1 (a0.map icl)), (3, Ai p.1)], []⟩) (fun y => j y = some r) (fun (y : Unit) => ⟨[], []⟩) (E0 rfl) ?_ ?_ ?_
 ·rintro ⟨⟩ h
  subst hj
  refine Tp rfl ?_
  refine Tri.ret ?_
  exact Rb h rfl
 ·rintro v3 ⟨⟩ hi _ h
  refine Tri.seq ?_
  refine Tr ?_
  refine Qe 2 rfl ?_
  refine Q1 rfl rfl rfl (Ax.ln (cl := icl) rfl slc_26 rfl) ?_
  refine Qd rfl ?_
  refine Tri.cond (b := (decide (v3 < (a0.length : Int)))) rfl (fun hb => ?_) (fun hb => ?_)
  ·exact (lt_f hi hb).elim
  ·refine Tri.exit ?_
   exact Exists.intro () (And.intro h (E0 rfl))
 ·rintro nx v3 ⟨⟩ _ hi hw h
  refine Tri.seq ?_
  refine Tr ?_
  refine Qe 2 rfl ?_
  refine Q1 rfl rfl rfl (Ax.ln (cl := icl) rfl slc_26 rfl) ?_
  refine Qd rfl ?_
  refine Tri.cond (b := (decide (v3 < (a0.length : Int)))) rfl (fun hb_1 => ?_) (fun hb_1 => ?_)
  ·refine Tri.skip ?_
   refine Tri.seq ?_
   refine Tri.block ?_
   refine Tri.seq ?_
   refine Tri.drawn [] hmix (by kernel_rfl) ?_
   refine Qe 3 rfl ?_
   obtain ⟨y, hy, h⟩ := bind_some h
   refine Q1 rfl rfl rfl (Ax.ix (cl := icl) rfl slc_26 rfl rfl hy) ?_
   refine Qe 3 rfl ?_
   obtain ⟨y_1, hy_1, h⟩ := bind_some h
   refine Q1 rfl rfl rfl (Ax.ix (cl := icl) rfl slc_26 rfl rfl hy_1) ?_
   refine Qe 2 rfl ?_
   refine RunD.done ⟨by kernel_rfl, freshL_of [] (by kernel_rfl) (by kernel_rfl), ?_⟩
   refine Tri.cond (b := (decide (y ≥ y_1))) rfl (fun hb_2 => ?_) (fun hb_2 => ?_)
   ·have h := cond_t hb_2 h
    refine Tp rfl ?_
    refine Tri.ret ?_
    exact Rb h rfl
   ·have h := cond_f hb_2 h
    refine Tri.skip ?_
    refine Tq rfl ?_
    exact Exists.intro (v3 + 1, ()) (And.intro (And.intro rfl h) (Es0 [3] rfl ⟨.imm (Sub.of_eq (show Ai (v3 + 1) = Ai (W (v3 + 1)) from congrArg Ai hw.symm)) rfl, trivial⟩))
  ·exact (lt_t hi hb_1).elim
theorem f175_ok {K : Nat} {a0 : Scene} {a1 : Change} {r : Bool} (h : f175 K a0 a1 = some r) : CallOK Tryz.prog 175 [.agg (Scene.cl a0), .agg (Change.cl a1)] [] (Ab r) [] := by
 refine CallOK.of_tri Tryz.func175 rfl rfl (Nat.le_of_ble_eq_true rfl) ?_
 unfold f175 at h
 refine Tp rfl ?_
 refine Tri.seq ?_
 obtain ⟨v5, hj_1, h⟩ := bind_some h
 refine Tri.joinv v5 (fun (y : Bool) => ⟨[(2, .ipt (Scene.cl a0) 0), (3, .ipt (Change.cl a1) 0), (5, Ab y)], []⟩) ?_ ?_
 ·refine Tri.seq ?_
  obtain ⟨v4, hj, h⟩ := bind_some h
  refine Tri.joinv v4 (fun (y : Bool) => ⟨[(4, Ab y)], []⟩) ?_ ?_
  ·refine Tri.ret ?_
   exact Rb h rfl
  ·have h := hj
   refine Tri.region ?_
   refine Qe 2 rfl ?_
   rcases b2 v5 with hb | hb
   ·have h := cond_t hb h
    refine Qk 26 hb rfl ?_
    refine Qe 4 rfl ?_
    obtain ⟨x31, hc, h⟩ := bind_some h
    refine Qc rfl rfl rfl (args := [.agg (Basin.cl a0.Basin), Ai a1.Cell]) (r := Ai x31) (calv rfl rfl fnok_221 rfl) (f221_ok hc) rfl ?_
    refine Qe 3 rfl ?_
    rcases b2 (decide (x31 ≥ 0)) with hb_1 | hb_1
    ·have h := cond_t hb_1 h
     refine Qk 34 hb_1 rfl ?_
     refine Qe 5 rfl ?_
     rcases b2 (decide ((-65536) ≤ a1.Lo)) with hb_2 | hb_2
     ·have h := cond_t hb_2 h
      refine Qk 39 hb_2 rfl ?_
      refine Qe 7 rfl ?_
      rcases b2 (decide (a1.Lo ≤ a1.Hi)) with hb_3 | hb_3
      ·have h := cond_t hb_3 h
       refine Qk 46 hb_3 rfl ?_
       refine Qd rfl ?_
       exact Exists.intro (decide (a1.Hi ≤ 65536)) (And.intro h (E0 rfl))
      ·have h := cond_f hb_3 h
       refine Qk 46 hb_3 rfl ?_
       refine Qd rfl ?_
       exact Exists.intro false (And.intro h (E0 rfl))
     ·have h := cond_f hb_2 h
      refine Qk 39 hb_2 rfl ?_
      refine Qd rfl ?_
      exact Exists.intro false (And.intro h (E0 rfl))
    ·have h := cond_f hb_1 h
     refine Qk 34 hb_1 rfl ?_
     refine Qd rfl ?_
     exact Exists.intro false (And.intro h (E0 rfl))
   ·have h := cond_f hb h
    refine Qk 26 hb rfl ?_
    refine Qd rfl ?_
    exact Exists.intro false (And.intro h (E0 rfl))
 ·have h := hj_1
  refine Tri.region ?_
  refine Qe 6 rfl ?_
  rcases b2 (decide (a1.From < a1.To)) with hb_4 | hb_4
  ·have h := cond_t hb_4 h
   refine Qk 11 hb_4 rfl ?_
   refine Qe 4 rfl ?_
   obtain ⟨x16, hc_1, h⟩ := bind_some h
   refine Qc rfl rfl rfl (args := [.lst 1 (a0.Days.map icl), Ai a1.From]) (r := Ab x16) (calv rfl rfl fnok_83 rfl) (f83_ok hc_1) rfl ?_
   refine Qe 2 rfl ?_
   rcases b2 x16 with hb_5 | hb_5
   ·have h := cond_t hb_5 h
    refine Qk 18 hb_5 rfl ?_
    refine Qe 4 rfl ?_
    obtain ⟨x23, hc_2, h⟩ := bind_some h
    refine Qc rfl rfl rfl (args := [.lst 1 (a0.Days.map icl), Ai a1.To]) (r := Ab x23) (calv rfl rfl fnok_83 rfl) (f83_ok hc_2) rfl ?_
    refine Qd rfl ?_
    exact Exists.intro x23 (And.intro h (E0 rfl))
   ·have h := cond_f hb_5 h
    refine Qk 18 hb_5 rfl ?_
    refine Qd rfl ?_
    exact Exists.intro false (And.intro h (E0 rfl))
  ·have h := cond_f hb_4 h
   refine Qk 11 hb_4 rfl ?_
   refine Qd rfl ?_
   exact Exists.intro false (And.intro h (E0 rfl))
theorem f66_ok {K : Nat} {a0 : Scene} {r : Int} (h : f66 K a0 = some r) : CallOK Tryz.prog 66 [.agg (Scene.cl a0)] [] (Ai r) [] := by
 refine CallOK.of_tri Tryz.func66 rfl rfl (Nat.le_of_ble_eq_true rfl) ?_
 unfold f66 at h
 refine Tp rfl ?_
 refine Tri.seq ?_
 refine Tr ?_
 refine Qe 2 rfl ?_
 obtain ⟨x10, hc, h⟩ := bind_some h
 refine Qc rfl rfl rfl (args := [.agg (Basin.cl a0.Basin)]) (r := Ai x10) (calv rfl rfl fnok_74 rfl) (f74_ok hc) rfl ?_
 refine Qd rfl ?_
 refine Tp rfl ?_
 refine Tri.cond (b := (x10 != 0)) rfl (fun hb => ?_) (fun hb => ?_)
 ·have h := cond_t hb h
  refine Tp rfl ?_
  refine Tri.ret ?_
  exact Ri h rfl
 ·have h := cond_f hb h
  refine Tri.skip ?_
  refine Tri.seq ?_
  refine Tri.seq ?_
  obtain ⟨v42, hj_2, h⟩ := bind_some h
  refine Tri.joinv v42 (fun (y : Bool) => ⟨[(1, .ipt (Scene.cl a0) 0), (42, Ab y)], []⟩) ?_ ?_
  ·refine Tri.cond (b := v42) rfl (fun hb_1 => ?_) (fun hb_1 => ?_)
   ·have h := cond_t hb_1 h
    refine Tp rfl ?_
    refine Tri.ret ?_
    exact Ri h rfl
   ·have h := cond_f hb_1 h
    refine Tri.skip ?_
    refine Tri.seq ?_
    refine Tri.seq ?_
    refine Tri.join1 ⟨[(1, .ipt (Scene.cl a0) 0), (52, Ab ((decide ((a0.Sights.length : Int) > 256)) || (decide ((a0.Changes.length : Int) > 256))))], []⟩ ?_ ?_
    ·refine Tri.cond (b := ((decide ((a0.Sights.length : Int) > 256)) || (decide ((a0.Changes.length : Int) > 256)))) rfl (fun hb_2 => ?_) (fun hb_2 => ?_)
     ·have h := cond_t hb_2 h
      refine Tp rfl ?_
      refine Tri.ret ?_
      exact Ri h rfl
     ·have h := cond_f hb_2 h
      refine Tri.skip ?_
      refine Tri.seq ?_
      refine Tr ?_
      refine Qe 2 rfl ?_
      refine Q1 rfl rfl rfl (Ax.ln (cl := Sight.cl) rfl slc_27 rfl) ?_
      refine Qd rfl ?_
      obtain ⟨j, hj, h⟩ := jo h
      refine Tri.rngL h (fun p => ⟨[(1, .ipt (Scene.cl a0) 0), (54, .lst 5 (a0.Sights.map Sight.cl)), (55, Ai (a0.Sights.length : Int)), (56, Ai p.1)], []⟩) (fun y => j y = some r) (fun (y : Unit) => ⟨[(1, .ipt (Scene.cl a0) 0)], []⟩) (E0 rfl) ?_ ?_ ?_
      ·rintro ⟨⟩ h
       subst hj
       refine Tri.seq ?_
       refine Tr ?_
       refine Qe 2 rfl ?_
       refine Q1 rfl rfl rfl (Ax.ln (cl := Change.cl) rfl slc_28 rfl) ?_
       refine Qd rfl ?_
       obtain ⟨j_1, hj_1, h⟩ := jo h
       refine Tri.rngL h (fun p => ⟨[(1, .ipt (Scene.cl a0) 0), (66, .lst 5 (a0.Changes.map Change.cl)), (67, Ai (a0.Changes.length : Int)), (68, Ai p.1)], []⟩) (fun y => j_1 y = some r) (fun (y : Unit) => ⟨[], []⟩) (E0 rfl) ?_ ?_ ?_
       ·rintro ⟨⟩ h
        subst hj_1
        refine Tp rfl ?_
        refine Tri.ret ?_
        exact Ri h rfl
       ·rintro v68 ⟨⟩ hi_1 h
        refine Tp rfl ?_
        refine Tri.seq ?_
        refine Tri.cond (b := (decide (v68 < (a0.Changes.length : Int)))) rfl (fun hb_3 => ?_) (fun hb_3 => ?_)
        ·exact (lt_f hi_1 hb_3).elim
        ·refine Tri.exit ?_
         exact Exists.intro () (And.intro h (E0 rfl))
       ·rintro nx_1 x_1 v68 ⟨⟩ _ hi_1 hw_1 hx_1 h
        refine Tp rfl ?_
        refine Tri.seq ?_
        refine Tri.cond (b := (decide (v68 < (a0.Changes.length : Int)))) rfl (fun hb_4 => ?_) (fun hb_4 => ?_)
        ·refine Tri.skip ?_
         refine Tri.seq ?_
         refine Tri.block ?_
         refine Tr ?_
         refine Q1 rfl rfl rfl (Ax.ix (cl := Change.cl) rfl slc_28 rfl rfl hx_1) ?_
         refine Qe 1 rfl ?_
         refine Qn rfl rfl rfl (v := .ptr 7 0) (x := some (.box (Change.cl (⟨0, 0, 0, 0, 0⟩ : Change)))) (Ax.alloc rfl rfl zer_67 rfl ⟨Sub.refl _, Sub.refl _, Sub.refl _, Sub.refl _, Sub.refl _, trivial⟩) rfl rfl rfl rfl rfl ?_
         refine Qs rfl rfl (x := some (.box (Change.cl x_1))) (Ax.st_box rfl siz_67 rfl rfl rfl rfl rfl rfl rfl) ?_
         refine RunD.done ?_
         refine Tr ?_
         refine Qe 2 rfl ?_
         obtain ⟨x74, hc_1, h⟩ := bind_some h
         refine Qc rfl rfl rfl (args := [.agg (Scene.cl a0), .agg (Change.cl x_1)]) (r := Ab x74) (calv rfl rfl fnok_175 rfl) (f175_ok hc_1) rfl ?_
         refine Qd rfl ?_
         refine Tri.cond (b := (!x74)) rfl (fun hb_5 => ?_) (fun hb_5 => ?_)
         ·have h := cond_t hb_5 h
          refine Tp rfl ?_
          refine Tri.ret ?_
          exact Ri h rfl
         ·have h := cond_f hb_5 h
          refine Tri.skip ?_
          refine Tq rfl ?_
          exact Exists.intro (v68 + 1, ()) (And.intro (And.intro rfl h) (Es0 [68] rfl ⟨.imm (Sub.of_eq (show Ai (v68 + 1) = Ai (W (v68 + 1)) from congrArg Ai hw_1.symm)) rfl, trivial⟩))
        ·exact (lt_t hi_1 hb_4).elim
      ·rintro v56 ⟨⟩ hi h
       refine Tp rfl ?_
       refine Tri.seq ?_
       refine Tri.cond (b := (decide (v56 < (a0.Sights.length : Int)))) rfl (fun hb_6 => ?_) (fun hb_6 => ?_)
       ·exact (lt_f hi hb_6).elim
       ·refine Tri.exit ?_
        exact Exists.intro () (And.intro h (E0 rfl))
      ·rintro nx x v56 ⟨⟩ _ hi hw hx h
       refine Tp rfl ?_
       refine Tri.seq ?_
       refine Tri.cond (b := (decide (v56 < (a0.Sights.length : Int)))) rfl (fun hb_7 => ?_) (fun hb_7 => ?_)
       ·refine Tri.skip ?_
        refine Tri.seq ?_
        refine Tri.block ?_
        refine Tr ?_
        refine Q1 rfl rfl rfl (Ax.ix (cl := Sight.cl) rfl slc_27 rfl rfl hx) ?_
        refine Qe 1 rfl ?_
        refine Qn rfl rfl rfl (v := .ptr 5 0) (x := some (.box (Sight.cl (⟨0, 0, 0, 0, 0⟩ : Sight)))) (Ax.alloc rfl rfl zer_64 rfl ⟨Sub.refl _, Sub.refl _, Sub.refl _, Sub.refl _, Sub.refl _, trivial⟩) rfl rfl rfl rfl rfl ?_
        refine Qs rfl rfl (x := some (.box (Sight.cl x))) (Ax.st_box rfl siz_64 rfl rfl rfl rfl rfl rfl rfl) ?_
        refine RunD.done ?_
        refine Tr ?_
        refine Qe 2 rfl ?_
        obtain ⟨x62, hc_2, h⟩ := bind_some h
        refine Qc rfl rfl rfl (args := [.agg (Scene.cl a0), .agg (Sight.cl x)]) (r := Ab x62) (calv rfl rfl fnok_130 rfl) (f130_ok hc_2) rfl ?_
        refine Qd rfl ?_
        refine Tri.cond (b := (!x62)) rfl (fun hb_8 => ?_) (fun hb_8 => ?_)
        ·have h := cond_t hb_8 h
         refine Tp rfl ?_
         refine Tri.ret ?_
         exact Ri h rfl
        ·have h := cond_f hb_8 h
         refine Tri.skip ?_
         refine Tq rfl ?_
         exact Exists.intro (v56 + 1, ()) (And.intro (And.intro rfl h) (Es0 [56] rfl ⟨.imm (Sub.of_eq (show Ai (v56 + 1) = Ai (W (v56 + 1)) from congrArg Ai hw.symm)) rfl, trivial⟩))
       ·exact (lt_t hi hb_7).elim
    ·refine Tri.region ?_
     refine Qe 2 rfl ?_
     refine Q1 rfl rfl rfl (Ax.ln (cl := Sight.cl) rfl slc_27 rfl) ?_
     refine Qe 2 rfl ?_
     rcases b2 (decide ((a0.Sights.length : Int) > 256)) with hb_9 | hb_9
     ·refine Qk 47 hb_9 rfl ?_
      refine Qd rfl ?_
      exact (Es0 [52] rfl ⟨.imm (Sub.of_eq (show Ab ((decide ((a0.Sights.length : Int) > 256)) || (decide ((a0.Changes.length : Int) > 256))) = Ab true by simp only [cond_true, cond_false, Bool.true_or, Bool.false_or, Bool.true_and, Bool.false_and, Bool.or_true, Bool.or_false, Bool.and_true, Bool.and_false, hb, hb_1, hb_9])) rfl, trivial⟩)
     ·refine Qk 47 hb_9 rfl ?_
      refine Qe 2 rfl ?_
      refine Q1 rfl rfl rfl (Ax.ln (cl := Change.cl) rfl slc_28 rfl) ?_
      refine Qd rfl ?_
      exact (Es0 [52] rfl ⟨.imm (Sub.of_eq (show Ab ((decide ((a0.Sights.length : Int) > 256)) || (decide ((a0.Changes.length : Int) > 256))) = Ab (decide ((a0.Changes.length : Int) > 256)) by simp only [cond_true, cond_false, Bool.true_or, Bool.false_or, Bool.true_and, Bool.false_and, Bool.or_true, Bool.or_false, Bool.and_true, Bool.and_false, hb, hb_1, hb_9])) rfl, trivial⟩)
  ·have h := hj_2
   refine Tri.region ?_
   refine Qe 2 rfl ?_
   refine Q1 rfl rfl rfl (Ax.ln (cl := icl) rfl slc_26 rfl) ?_
   obtain ⟨x17, hc_3, h⟩ := bind_some h
   refine Qc rfl rfl rfl (args := [Ai (a0.Days.length : Int), Ai 1, Ai 16]) (r := Ab x17) (calv rfl rfl fnok_140 rfl) (f140_ok hc_3) rfl ?_
   refine Qe 2 rfl ?_
   rcases b2 (!x17) with hb_10 | hb_10
   ·have h := cond_t hb_10 h
    refine Qk 19 hb_10 rfl ?_
    refine Qd rfl ?_
    exact Exists.intro true (And.intro h (E0 rfl))
   ·have h := cond_f hb_10 h
    refine Qk 19 hb_10 rfl ?_
    refine Qe 2 rfl ?_
    obtain ⟨x22, hc_4, h⟩ := bind_some h
    refine Qc rfl rfl rfl (args := [.lst 1 (a0.Days.map icl)]) (r := Ab x22) (calv rfl rfl fnok_174 rfl) (f174_ok hc_4) rfl ?_
    refine Qe 3 rfl ?_
    rcases b2 (!x22) with hb_11 | hb_11
    ·have h := cond_t hb_11 h
     refine Qk 25 hb_11 rfl ?_
     refine Qd rfl ?_
     exact Exists.intro true (And.intro h (E0 rfl))
    ·have h := cond_f hb_11 h
     refine Qk 25 hb_11 rfl ?_
     refine Qe 2 rfl ?_
     obtain ⟨y, hy, h⟩ := bind_some h
     refine Q1 rfl rfl rfl (Ax.ix (cl := icl) rfl slc_26 rfl rfl hy) ?_
     refine Qe 4 rfl ?_
     rcases b2 (decide (y < 0)) with hb_12 | hb_12
     ·have h := cond_t hb_12 h
      refine Qk 32 hb_12 rfl ?_
      refine Qd rfl ?_
      exact Exists.intro true (And.intro h (E0 rfl))
     ·have h := cond_f hb_12 h
      refine Qk 32 hb_12 rfl ?_
      refine Qe 4 rfl ?_
      refine Q1 rfl rfl rfl (Ax.ln (cl := icl) rfl slc_26 rfl) ?_
      refine Qe 1 rfl ?_
      obtain ⟨y_1, hy_1, h⟩ := bind_some h
      refine Q1 rfl rfl rfl (Ax.ix (cl := icl) rfl slc_26 rfl rfl hy_1) ?_
      refine Qd rfl ?_
      exact Exists.intro (decide (y_1 > 1048576)) (And.intro h (E0 rfl))
theorem f141_ok {K : Nat} {a0 : Cell} {a1 : Cell} {r : Bool} (h : f141 K a0 a1 = some r) : CallOK Tryz.prog 141 [.agg (Cell.cl a0), .agg (Cell.cl a1)] [] (Ab r) [] := by
 refine CallOK.of_tri Tryz.func141 rfl rfl (Nat.le_of_ble_eq_true rfl) ?_
 unfold f141 at h
 refine Tp rfl ?_
 refine Tr ?_
 refine Qe 6 rfl ?_
 refine Q1 rfl rfl rfl (v := Ai (Int.tmod (W ((W (a0.Aspect - a1.Aspect)) + 8)) 8)) (Ax.div rfl rfl rfl (.inr rfl) (by decide)) ?_
 refine Qd rfl ?_
 refine Tri.seq ?_
 refine Tri.join1 ⟨[(4, Ab ((decide ((Int.tmod (W ((W (a0.Aspect - a1.Aspect)) + 8)) 8) ≤ 1)) || ((Int.tmod (W ((W (a0.Aspect - a1.Aspect)) + 8)) 8) == 7)))], []⟩ ?_ ?_
 ·refine Tri.ret ?_
  exact Rb h rfl
 ·refine Tri.region ?_
  refine Qe 3 rfl ?_
  rcases b2 (decide ((Int.tmod (W ((W (a0.Aspect - a1.Aspect)) + 8)) 8) ≤ 1)) with hb | hb
  ·refine Qk 15 hb rfl ?_
   refine Qd rfl ?_
   exact (Es0 [4] rfl ⟨.imm (Sub.of_eq (show Ab ((decide ((Int.tmod (W ((W (a0.Aspect - a1.Aspect)) + 8)) 8) ≤ 1)) || ((Int.tmod (W ((W (a0.Aspect - a1.Aspect)) + 8)) 8) == 7)) = Ab true by simp only [cond_true, cond_false, Bool.true_or, Bool.false_or, Bool.true_and, Bool.false_and, Bool.or_true, Bool.or_false, Bool.and_true, Bool.and_false, hb])) rfl, trivial⟩)
  ·refine Qk 15 hb rfl ?_
   refine Qd rfl ?_
   exact (Es0 [4] rfl ⟨.imm (Sub.of_eq (show Ab ((decide ((Int.tmod (W ((W (a0.Aspect - a1.Aspect)) + 8)) 8) ≤ 1)) || ((Int.tmod (W ((W (a0.Aspect - a1.Aspect)) + 8)) 8) == 7)) = Ab ((Int.tmod (W ((W (a0.Aspect - a1.Aspect)) + 8)) 8) == 7) by simp only [cond_true, cond_false, Bool.true_or, Bool.false_or, Bool.true_and, Bool.false_and, Bool.or_true, Bool.or_false, Bool.and_true, Bool.and_false, hb])) rfl, trivial⟩)
theorem f142_ok {K : Nat} {a0 : Basin} {a1 : Arr2_3} {r : Int} (h : f142 K a0 a1 = some r) : CallOK Tryz.prog 142 [.agg (Basin.cl a0), .agg (Arr2_3.cl a1)] [] (Ai r) [] := by
 refine CallOK.of_tri Tryz.func142 rfl rfl (Nat.le_of_ble_eq_true rfl) ?_
 unfold f142 at h
 refine Tp rfl ?_
 refine Tri.seq ?_
 refine Tri.drawn [] hmix (by kernel_rfl) ?_
 refine Qe 6 rfl ?_
 refine Q1 rfl rfl rfl (v := .ipt (Arr2_3.cl a1) 1) (Ax.index_ipt (k := .i64) (n := 1) rfl arr_97 rfl rfl (by decide) (by decide)) ?_
 refine Qe 1 rfl ?_
 obtain ⟨y, hy, h⟩ := bind_some h
 refine Q1 rfl rfl rfl (Ax.ix (cl := Cell.cl) rfl slc_22 rfl rfl hy) ?_
 refine Qe 4 rfl ?_
 refine Q1 rfl rfl rfl (v := .ipt (Arr2_3.cl a1) 0) (Ax.index_ipt (k := .i64) (n := 0) rfl arr_97 rfl rfl (by decide) (by decide)) ?_
 refine Qe 1 rfl ?_
 obtain ⟨y_1, hy_1, h⟩ := bind_some h
 refine Q1 rfl rfl rfl (Ax.ix (cl := Cell.cl) rfl slc_22 rfl rfl hy_1) ?_
 refine Qe 4 rfl ?_
 refine Q1 rfl rfl rfl (v := Ai (W (Int.tdiv (W (a0.Gain * (W (y.Height - y_1.Height)))) 100))) (Ax.div rfl rfl rfl (.inl rfl) (by decide)) ?_
 refine Qe 2 rfl ?_
 refine RunD.done ⟨by kernel_rfl, freshL_of [] (by kernel_rfl) (by kernel_rfl), ?_⟩
 refine Tri.ret ?_
 exact Ri h rfl
theorem f202_ok {K : Nat} {a0 : Laid_basin} {a1 : Int} {a2 : Int} {r : Int} (h : f202 K a0 a1 a2 = some r) : CallOK Tryz.prog 202 [.ipt (Laid_basin.cl a0) 0, Ai a1, Ai a2] [] (Ai r) [] := by
 refine CallOK.of_tri Tryz.func202 rfl rfl (Nat.le_of_ble_eq_true rfl) ?_
 unfold f202 at h
 refine Tp rfl ?_
 refine Tr ?_
 refine Qe 2 rfl ?_
 refine Q1 rfl rfl rfl (Ax.nil_ipt rfl rfl) ?_
 refine Qe 4 rfl ?_
 refine Q1 rfl rfl rfl (Ax.ln (cl := Cell.cl) rfl slc_22 rfl) ?_
 refine Qd rfl ?_
 refine Tri.ret ?_
 exact Ri h rfl
theorem f219_ok {K : Nat} {a0 : Laid_basin} {a1 : Int} {a2 : Int} {a3 : Int} {a4 : Reason} {r : Laid_basin} (h : f219 K a0 a1 a2 a3 a4 = some r) : CallOK Tryz.prog 219 [.ptr 80170000 0, Ai a1, Ai a2, Ai a3, .agg (Reason.cl a4)] [(80170010, .arr 174 3 (a0.net.Diffs.map Diff.cl)), (80170011, .arr 42 4 (a0.reasons.map Reason.cl)), (80170000, .box [.lst 4 (a0.s.Basin.Cells.map Cell.cl), .lst 2 (a0.s.Basin.Pairs.map Arr2_3.cl), Ai a0.s.Basin.Gain, Ai a0.s.Basin.Slack, Ai a0.s.Basin.Deep, .lst 1 (a0.s.Days.map icl), .lst 5 (a0.s.Sights.map Sight.cl), .lst 5 (a0.s.Changes.map Change.cl), Ai a0.net.Nodes, .hnd 80170010, .hnd 80170011])] (.tup []) [(80170510, .arr 174 3 (r.net.Diffs.map Diff.cl)), (80170511, .arr 42 4 (r.reasons.map Reason.cl)), (80170000, .box [.lst 4 (r.s.Basin.Cells.map Cell.cl), .lst 2 (r.s.Basin.Pairs.map Arr2_3.cl), Ai r.s.Basin.Gain, Ai r.s.Basin.Slack, Ai r.s.Basin.Deep, .lst 1 (r.s.Days.map icl), .lst 5 (r.s.Sights.map Sight.cl), .lst 5 (r.s.Changes.map Change.cl), Ai r.net.Nodes, .hnd 80170510, .hnd 80170511])] := by
 refine CallOK.of_tri Tryz.func219 rfl rfl (Nat.le_of_ble_eq_true rfl) ?_
 unfold f219 at h
 refine Tp rfl ?_
 refine Tr ?_
 refine Qe 2 rfl ?_
 refine Q1 rfl rfl rfl (Ax.nil_ptr rfl rfl rfl) ?_
 refine Qe 6 rfl ?_
 refine Q1 rfl rfl rfl (v := .agg (Diff.cl (⟨a1, a2, a3⟩ : Diff))) (Ax.build rfl zer_174 (bld plc_174 zer_174) rfl ⟨Sub.refl _, Sub.refl _, Sub.refl _, trivial⟩) ?_
 refine Q1 rfl rfl rfl (v := .lst 3 (([(⟨a1, a2, a3⟩ : Diff)] : List Diff).map Diff.cl)) (Ax.sl (xs := ([(⟨a1, a2, a3⟩ : Diff)] : List Diff)) rfl slc_32 rfl rfl ⟨Sub.refl _, Sub.refl _, Sub.refl _, trivial⟩ rfl Diff_len Diff_one Diff_im) ?_
 obtain ⟨z21, hz, h⟩ := bind_some h
 refine Qa rfl rfl rfl (v := .hnd 21) (x := some (.arr 174 3 (z21.map Diff.cl))) (Ax.app_l (cl := Diff.cl) rfl rfl slc_32 rfl rfl rfl Diff_one Diff_im hz rfl rfl) rfl rfl rfl rfl rfl ?_
 refine Q1 rfl rfl rfl (Ax.nil_ptr rfl rfl rfl) ?_
 refine Qe 2 rfl ?_
 refine Qs rfl rfl (x := some (.box [.lst 4 (a0.s.Basin.Cells.map Cell.cl), .lst 2 (a0.s.Basin.Pairs.map Arr2_3.cl), Ai a0.s.Basin.Gain, Ai a0.s.Basin.Slack, Ai a0.s.Basin.Deep, .lst 1 (a0.s.Days.map icl), .lst 5 (a0.s.Sights.map Sight.cl), .lst 5 (a0.s.Changes.map Change.cl), Ai a0.net.Nodes, .hnd 21, .hnd 80170011])) (Ax.st_box rfl siz_32 rfl rfl rfl rfl rfl rfl rfl) ?_
 refine RunD.done ?_
 refine Tri.drawn [[], [], [1], [1, 2], [1, 2, 3], [], [5], [1, 2, 3, 4, 5, 6], [0, 1, 2, 3, 4, 5, 6, 7], [0, 1, 2, 3, 4, 5, 6, 7, 8], [0, 1, 2, 3, 4, 5, 6, 7, 8, 9]] hmix (by kernel_rfl) ?_
 refine Qe 2 rfl ?_
 refine Q1 rfl rfl rfl (Ax.nil_ptr rfl rfl rfl) ?_
 refine Qe 3 rfl ?_
 refine Q1 rfl rfl rfl (v := .lst 4 (([a4] : List Reason).map Reason.cl)) (Ax.sl (xs := ([a4] : List Reason)) rfl slc_35 rfl rfl ⟨Sub.refl _, Sub.refl _, Sub.refl _, Sub.refl _, trivial⟩ rfl Reason_len Reason_one Reason_im) ?_
 obtain ⟨z32, hz_1, h⟩ := bind_some h
 refine Qa rfl rfl rfl (v := .hnd 32) (x := some (.arr 42 4 (z32.map Reason.cl))) (Ax.app_l (cl := Reason.cl) rfl rfl slc_35 rfl rfl rfl Reason_one Reason_im hz_1 rfl rfl) rfl rfl rfl rfl rfl ?_
 refine Q1 rfl rfl rfl (Ax.nil_ptr rfl rfl rfl) ?_
 refine Qe 1 rfl ?_
 refine Qs rfl rfl (x := some (.box [.lst 4 (a0.s.Basin.Cells.map Cell.cl), .lst 2 (a0.s.Basin.Pairs.map Arr2_3.cl), Ai a0.s.Basin.Gain, Ai a0.s.Basin.Slack, Ai a0.s.Basin.Deep, .lst 1 (a0.s.Days.map icl), .lst 5 (a0.s.Sights.map Sight.cl), .lst 5 (a0.s.Changes.map Change.cl), Ai a0.net.Nodes, .hnd 21, .hnd 32])) (Ax.st_box rfl siz_35 rfl rfl rfl rfl rfl rfl rfl) ?_
 refine RunD.done ⟨by kernel_rfl, freshL_of [32] (by kernel_rfl) (by kernel_rfl), ?_⟩
 refine RetQ.eq2 (fun r => .tup []) (fun r => [(80170510, .arr 174 3 (r.net.Diffs.map Diff.cl)), (80170511, .arr 42 4 (r.reasons.map Reason.cl)), (80170000, .box [.lst 4 (r.s.Basin.Cells.map Cell.cl), .lst 2 (r.s.Basin.Pairs.map Arr2_3.cl), Ai r.s.Basin.Gain, Ai r.s.Basin.Slack, Ai r.s.Basin.Deep, .lst 1 (r.s.Days.map icl), .lst 5 (r.s.Sights.map Sight.cl), .lst 5 (r.s.Changes.map Change.cl), Ai r.net.Nodes, .hnd 80170510, .hnd 80170511])]) (Option.some.inj h) ?_
 exact RetQ.mk (vs := []) (.inl rfl) rfl [] [(80170510, 21, .arr 174 3 (z21.map Diff.cl)), (80170511, 32, .arr 42 4 (z32.map Reason.cl)), (80170000, 80170000, .box [.lst 4 (a0.s.Basin.Cells.map Cell.cl), .lst 2 (a0.s.Basin.Pairs.map Arr2_3.cl), Ai a0.s.Basin.Gain, Ai a0.s.Basin.Slack, Ai a0.s.Basin.Deep, .lst 1 (a0.s.Days.map icl), .lst 5 (a0.s.Sights.map Sight.cl), .lst 5 (a0.s.Changes.map Change.cl), Ai a0.net.Nodes, .hnd 80170510, .hnd 80170511])] rfl rfl ⟨⟨_, rfl, .arr (im_flat Diff_im z21)⟩, ⟨_, rfl, .arr (im_flat Reason_im z32)⟩, ⟨_, rfl, .boxV ⟨.rfl' rfl, .rfl' rfl, .rfl' rfl, .rfl' rfl, .rfl' rfl, .rfl' rfl, .rfl' rfl, .rfl' rfl, .rfl' rfl, .hnd (List.Mem.head _), .hnd (List.Mem.tail _ (List.Mem.head _)), trivial⟩⟩, trivial⟩ (.tupV trivial)
theorem f220_ok {K : Nat} {a0 : Int} {a1 : Int} {a2 : Laid_basin} {a3 : Basin} {a4 : Scene} {r : Int} (h : f220 K a0 a1 a2 a3 a4 = some r) : CallOK Tryz.prog 220 [Ai a0, Ai a1, .ipt [.ipt (Laid_basin.cl a2) 0] 0, .ipt (Basin.cl a3) 0, .ipt (Scene.cl a4) 0] [] (Ai r) [] := by
 refine CallOK.of_tri Tryz.func220 rfl rfl (Nat.le_of_ble_eq_true rfl) ?_
 unfold f220 at h
 refine Tp rfl ?_
 refine Tri.seq ?_
 refine Tri.drawn [[], [], [], [1, 2], [], [4], [], [1, 2, 3, 4, 5, 6], [0, 1, 2, 3, 4, 5, 6, 7], [0, 1, 2, 3, 4, 5, 6, 7, 8]] hmix (by kernel_rfl) ?_
 refine Qe 3 rfl ?_
 obtain ⟨x11, hc, h⟩ := bind_some h
 refine Qc rfl rfl rfl (args := [.agg (Basin.cl a3), Ai a0]) (r := Ai x11) (calv rfl rfl fnok_221 rfl) (f221_ok hc) rfl ?_
 refine Qe 3 rfl ?_
 obtain ⟨x15, hc_1, h⟩ := bind_some h
 refine Qc rfl rfl rfl (args := [.lst 1 (a4.Days.map icl), Ai a1]) (r := Ai x15) (calv rfl rfl fnok_194 rfl) (f194_ok hc_1) rfl ?_
 obtain ⟨x16, hc_2, h⟩ := bind_some h
 refine Qc rfl rfl rfl (args := [.ipt (Laid_basin.cl a2) 0, Ai x11, Ai x15]) (r := Ai x16) (calv rfl rfl fnok_202 rfl) (f202_ok hc_2) rfl ?_
 refine Qe 1 rfl ?_
 refine RunD.done ⟨by kernel_rfl, freshL_of [] (by kernel_rfl) (by kernel_rfl), ?_⟩
 refine Tri.ret ?_
 exact Ri h rfl
end Go.Proofs.YthlchdnbokhclaaGreat.Ql

import Derived.Test.YthlchdnbokhclaaGreatQt
import Derived.Test.YthlchdnbokhclaaGreatQg2
import Derived.Test.YthlchdnbokhclaaGreatQg1
set_option linter.all false
namespace Go.Proofs.YthlchdnbokhclaaGreat.Ql
open Go Go.Proofs
set_option maxRecDepth 100000
set_option maxHeartbeats 0
theorem f343_fr {K : Nat} {a0 : List Int} {a1 : Int} {r : List Int} (h : f343 K a0 a1 = some r) : CallOK Tryz.prog 343 [.lst 1 (a0.map icl), Ai a1] [] (.hnd 3445000) [(3445000, .arr 3 1 (r.map icl))] := by
 refine CallOK.of_tri Tryz.func343 rfl rfl (Nat.le_of_ble_eq_true rfl) ?_
 unfold f343 at h
 refine Tr ?_
 refine Qn rfl rfl rfl (v := .hnd 4) (x := some (.arr 3 1 (([] : List Int).map icl))) (Ax.nil_new 3 1 (.inr rfl) rfl) rfl rfl rfl rfl rfl ?_
 refine RunD.done ?_
 refine Tri.seq ?_
 refine Tp rfl ?_
 refine Tri.cond (b := (decide (a1 < 0))) rfl (fun hb => ?_) (fun hb => ?_)
 ·have h := cond_t hb h
  cases h
 ·have h := cond_f hb h
  refine Tri.skip ?_
  refine Tr ?_
  refine Qe 1 rfl ?_
  refine Q1 rfl rfl rfl (Ax.ln (cl := icl) rfl slc_26 rfl) ?_
  refine Q1 rfl rfl rfl (v := .sc (.int .u64 (IntKind.wrap .u64 (a0.length : Int)))) (Ax.conv_int rfl rfl int_3 int_325) ?_
  refine Qe 1 rfl ?_
  refine Q1 rfl rfl rfl (v := .sc (.int .u64 (IntKind.wrap .u64 a1))) (Ax.conv_int rfl rfl int_3 int_325) ?_
  obtain ⟨⟨x18_0, x18_1⟩, hc, h⟩ := bind_some h
  refine Qc rfl rfl rfl (args := [.sc (.int .u64 (IntKind.wrap .u64 (a0.length : Int))), .sc (.int .u64 (IntKind.wrap .u64 a1))]) (r := .tup [.sc (.int .u64 x18_0), .sc (.int .u64 x18_1)]) (calv rfl rfl fnok_361 rfl) (f361_ok hc) rfl ?_
  refine Qd rfl ?_
  refine Tri.seq ?_
  refine Tri.seq ?_
  refine Tri.join1 ⟨[(0, .lst 1 (a0.map icl)), (6, .sc (.int .u64 x18_1)), (26, Ab ((decide (x18_0 > 0)) || (decide (x18_1 > 9223372036854775807))))], []⟩ ?_ ?_
  ·refine Tri.cond (b := ((decide (x18_0 > 0)) || (decide (x18_1 > 9223372036854775807)))) rfl (fun hb_1 => ?_) (fun hb_1 => ?_)
   ·have h := cond_t hb_1 h
    cases h
   ·have h := cond_f hb_1 h
    refine Tri.skip ?_
    refine Tr ?_
    refine Qe 1 rfl ?_
    refine Q1 rfl rfl rfl (v := Ai (IntKind.wrap .i64 x18_1)) (Ax.conv_int rfl rfl int_325 int_3) ?_
    obtain ⟨z30, hz, h⟩ := bind_some h
    refine Qn rfl rfl rfl (v := .hnd 30) (x := some (.arr 3 1 (z30.map icl))) (Ax.mk (cl := icl) rfl rfl slc_26 rfl rfl hz rfl rfl rfl) rfl rfl rfl rfl rfl ?_
    refine Qd rfl ?_
    refine Tr ?_
    refine Qe 2 rfl ?_
    refine Qw rfl rfl rfl (v := Ai ((Min.min a0.length z30.length : Nat) : Int)) (x := some (.arr 3 1 ((a0.take z30.length ++ z30.drop a0.length).map icl))) (Ax.cph (cl := icl) rfl slc_26 rfl rfl rfl icl_one icl_im) ?_
    refine Qd rfl ?_
    refine Tri.seq ?_
    obtain ⟨vo7_1, hj, h⟩ := bind_some h
    refine Tri.whlv hj (fun p => ⟨[(7, .hnd 30), (8, Ai p.2)], [(30, some (.arr 3 1 (p.1.map icl)))]⟩) (fun (y : List Int) => ⟨[(7, .hnd 30)], [(30, some (.arr 3 1 (y.map icl)))]⟩) (Ee [30] rfl ⟨imf icl_im, trivial⟩) ?_ ?_
    ·refine Tp rfl ?_
     refine Tri.ret ?_
     refine Rr (fun r => .hnd 3445000) (fun r => [(3445000, .arr 3 1 (r.map icl))]) [30] h ?_ ?_
     ·rfl
     exact ⟨imf icl_im, trivial⟩
    ·rintro nx ⟨vo7, v8⟩ h
     refine Tri.seq ?_
     refine Tr ?_
     refine Qe 2 rfl ?_
     refine Q1 rfl rfl rfl (Ax.lnh (cl := icl) rfl slc_26 rfl rfl) ?_
     refine Qd rfl ?_
     refine Tri.cond (b := (decide (v8 < (vo7.length : Int)))) rfl (fun hb_2 => ?_) (fun hb_2 => ?_)
     ·have h := cond_t hb_2 h
      refine Tri.skip ?_
      refine Tri.block ?_
      refine Tri.drawn [[], [], [], [1, 2], [], [], [4, 5], [1, 2, 3, 4, 5, 6], [], []] hmix (by kernel_rfl) ?_
      refine Qe 3 rfl ?_
      obtain ⟨_, hz_1, h⟩ := bind_some h
      refine Q1 rfl rfl rfl (v := .vw 30 1 (Int.toNat v8) (Int.toNat (vo7.length : Int)) vo7.length) (Ax.vh (cl := icl) (xs := vo7) rfl slc_26 rfl rfl ⟨_, rfl⟩ rfl hz_1) ?_
      refine Qe 2 rfl ?_
      obtain ⟨_, hz_2, h⟩ := bind_some h
      refine Q1 rfl rfl rfl (v := .vw 30 1 (Int.toNat 0) (Int.toNat v8) vo7.length) (Ax.vh (cl := icl) (xs := vo7) rfl slc_26 rfl rfl rfl ⟨_, rfl⟩ hz_2) ?_
      obtain ⟨z45, hz_3, h⟩ := bind_some h
      refine Qw rfl rfl rfl (v := Ai ((Min.min (Int.toNat v8 - Int.toNat 0) (Int.toNat (vo7.length : Int) - Int.toNat v8) : Nat) : Int)) (x := some (.arr 3 1 (z45.map icl))) (Ax.cpv (cl := icl) rfl slc_26 rfl rfl rfl hz_3) ?_
      refine Qe 2 rfl ?_
      refine RunD.done ⟨by kernel_rfl, freshL_of [] (by kernel_rfl) (by kernel_rfl), ?_⟩
      exact Exists.intro (z45, (W (v8 + ((Min.min (Int.toNat v8 - Int.toNat 0) (Int.toNat (vo7.length : Int) - Int.toNat v8) : Nat) : Int)))) (And.intro h (Ee [30] rfl ⟨imf icl_im, trivial⟩))
     ·have h := cond_f hb_2 h
      refine Tri.exit ?_
      exact Exists.intro vo7 (And.intro h (Ee [30] rfl ⟨imf icl_im, trivial⟩))
  ·refine Tri.region ?_
   refine Qe 3 rfl ?_
   rcases b2 (decide (x18_0 > 0)) with hb_3 | hb_3
   ·refine Qk 23 hb_3 rfl ?_
    refine Qd rfl ?_
    exact (Es0 [26] rfl ⟨.imm (Sub.of_eq (show Ab ((decide (x18_0 > 0)) || (decide (x18_1 > 9223372036854775807))) = Ab true by simp only [cond_true, cond_false, Bool.true_or, Bool.false_or, Bool.true_and, Bool.false_and, Bool.or_true, Bool.or_false, Bool.and_true, Bool.and_false, hb, hb_3])) rfl, trivial⟩)
   ·refine Qk 23 hb_3 rfl ?_
    refine Qd rfl ?_
    exact (Es0 [26] rfl ⟨.imm (Sub.of_eq (show Ab ((decide (x18_0 > 0)) || (decide (x18_1 > 9223372036854775807))) = Ab (decide (x18_1 > 9223372036854775807)) by simp only [cond_true, cond_false, Bool.true_or, Bool.false_or, Bool.true_and, Bool.false_and, Bool.or_true, Bool.or_false, Bool.and_true, Bool.and_false, hb, hb_3])) rfl, trivial⟩)
theorem f344_ok {K : Nat} {a0 : Tree_diffs} {a1 : List Diff} {a2 : Int} {r : Int} (h : f344 K a0 a1 a2 = some r) : CallOK Tryz.prog 344 [.agg (Tree_diffs.cl a0), .lst 3 (a1.map Diff.cl), Ai a2] [] (Ai r) [] := by
 refine CallOK.of_tri Tryz.func344 rfl rfl (Nat.le_of_ble_eq_true rfl) ?_
 unfold f344 at h
 refine Tp rfl ?_
 refine Tri.seq ?_
 refine Tr ?_
 refine Qe 2 rfl ?_
 refine Q1 rfl rfl rfl (Ax.ln (cl := icl) rfl slc_26 rfl) ?_
 refine Qd rfl ?_
 obtain ⟨j, hj, h⟩ := jo h
 refine Tri.rngN h (fun p => ⟨[(1, .lst 3 (a1.map Diff.cl)), (2, Ai p.2), (3, .ipt (Tree_diffs.cl a0) 0), (9, Ai (a0.last.length : Int)), (10, Ai p.1)], []⟩) (fun y => j y = some r) (fun (y : Int) => ⟨[(2, Ai y)], []⟩) (E0 rfl) ?_ ?_ ?_
 ·rintro v2_1 h
  subst hj
  refine Tp rfl ?_
  refine Tri.ret ?_
  exact Ri h rfl
 ·rintro v10 v2 hi _ h
  refine Tp rfl ?_
  refine Tri.seq ?_
  refine Tri.cond (b := (decide (v10 < (a0.last.length : Int)))) rfl (fun hb => ?_) (fun hb => ?_)
  ·exact (lt_f hi hb).elim
  ·refine Tri.exit ?_
   exact Exists.intro v2 (And.intro h (E0 rfl))
 ·rintro nx v10 v2 _ hi hw h
  refine Tp rfl ?_
  refine Tri.seq ?_
  refine Tri.cond (b := (decide (v10 < (a0.last.length : Int)))) rfl (fun hb_1 => ?_) (fun hb_1 => ?_)
  ·refine Tri.skip ?_
   refine Tri.seq ?_
   refine Tri.block ?_
   refine Tri.seq ?_
   refine Tr ?_
   refine Qe 3 rfl ?_
   obtain ⟨y, hy, h⟩ := bind_some h
   refine Q1 rfl rfl rfl (Ax.ix (cl := icl) rfl slc_26 rfl rfl hy) ?_
   refine Qd rfl ?_
   refine Tri.cond (b := (decide (y < 0))) rfl (fun hb_2 => ?_) (fun hb_2 => ?_)
   ·have h := cond_t hb_2 h
    refine Tp rfl ?_
    refine Tri.ret ?_
    exact Ri h rfl
   ·have h := cond_f hb_2 h
    refine Tri.skip ?_
    refine Tri.region ?_
    refine Qe 4 rfl ?_
    refine Q1 rfl rfl rfl (Ax.ix (cl := icl) rfl slc_26 rfl rfl hy) ?_
    refine Qe 1 rfl ?_
    obtain ⟨y_1, hy_1, h⟩ := bind_some h
    refine Q1 rfl rfl rfl (Ax.ix (cl := Diff.cl) rfl slc_32 rfl rfl hy_1) ?_
    refine Qd rfl ?_
    refine Tq rfl ?_
    exact Exists.intro (v10 + 1, y_1.From) (And.intro (And.intro rfl h) (Es0 [10] rfl ⟨.imm (Sub.of_eq (show Ai (v10 + 1) = Ai (W (v10 + 1)) from congrArg Ai hw.symm)) rfl, trivial⟩))
  ·exact (lt_t hi hb_1).elim
theorem f311_fr {K : Nat} {a0 : Gr} {t0 : Nat} {y0 : AV} {a1 : List Int} {r : Tree_diffs × Int} (hgr0 : GrOK a0 t0 (.fz y0)) (h : f311 K a0 a1 = some r) : CallOK Tryz.prog 311 [.ifc t0 (.fz y0), .lst 1 (a1.map icl)] [] (.tup [.agg [.hnd 3125001, .hnd 3125002, .hnd 3125003], Ai r.2]) [(3125001, .arr 3 1 (r.1.long.map icl)), (3125002, .arr 4 1 (r.1.has.map bcl)), (3125003, .arr 3 1 (r.1.last.map icl))] := by
 refine CallOK.of_tri Tryz.func311 rfl rfl (Nat.le_of_ble_eq_true rfl) ?_
 unfold f311 at h
 refine Tr ?_
 refine Qn rfl rfl rfl (v := .ptr 4 0) (x := some (.box [.sc (.slice none 0 0), .sc (.slice none 0 0), .sc (.slice none 0 0)])) (Ax.alloc rfl rfl zer_318 rfl ⟨Sub.refl _, Sub.refl _, Sub.refl _, trivial⟩) rfl (by first | rfl | (exact freshB_mk (by first | rfl | simp [menT, menO, AO.men, AV.men, menL, ifc_men hgr0.o]) rfl (by first | rfl | simp [menT, menO, AO.men, AV.men, menL, ifc_men hgr0.o]) rfl) | (simp [menT, menO, AO.men, AV.men, menL, ifc_men hgr0.o]; done) | ((simp only [List.all_cons, List.all_nil, Bool.and_true, Bool.and_eq_true]); and_intros <;> exact freshB_mk (by first | rfl | simp [menT, menO, AO.men, AV.men, menL, ifc_men hgr0.o]) rfl (by first | rfl | simp [menT, menO, AO.men, AV.men, menL, ifc_men hgr0.o]) rfl)) rfl (by first | rfl | (exact freshB_mk (by first | rfl | simp [menT, menO, AO.men, AV.men, menL, ifc_men hgr0.o]) rfl (by first | rfl | simp [menT, menO, AO.men, AV.men, menL, ifc_men hgr0.o]) rfl) | (simp [menT, menO, AO.men, AV.men, menL, ifc_men hgr0.o]; done) | ((simp only [List.all_cons, List.all_nil, Bool.and_true, Bool.and_eq_true]); and_intros <;> exact freshB_mk (by first | rfl | simp [menT, menO, AO.men, AV.men, menL, ifc_men hgr0.o]) rfl (by first | rfl | simp [menT, menO, AO.men, AV.men, menL, ifc_men hgr0.o]) rfl)) rfl ?_
 refine Qd rfl ?_
 refine Tri.ent (Ent.ghost 4 0 900000400 3 1 (cells' := [.hnd 900000400, .sc (.slice none 0 0), .sc (.slice none 0 0)]) rfl rfl rfl (by first | rfl | (exact freshB_mk (by first | rfl | simp [menT, menO, AO.men, AV.men, menL, ifc_men hgr0.o]) rfl (by first | rfl | simp [menT, menO, AO.men, AV.men, menL, ifc_men hgr0.o]) rfl) | (simp [menT, menO, AO.men, AV.men, menL, ifc_men hgr0.o]; done) | ((simp only [List.all_cons, List.all_nil, Bool.and_true, Bool.and_eq_true]); and_intros <;> exact freshB_mk (by first | rfl | simp [menT, menO, AO.men, AV.men, menL, ifc_men hgr0.o]) rfl (by first | rfl | simp [menT, menO, AO.men, AV.men, menL, ifc_men hgr0.o]) rfl))) ?_
 refine Tri.ent (Ent.ghost 4 1 901000401 4 1 (cells' := [.hnd 900000400, .hnd 901000401, .sc (.slice none 0 0)]) rfl rfl rfl (by first | rfl | (exact freshB_mk (by first | rfl | simp [menT, menO, AO.men, AV.men, menL, ifc_men hgr0.o]) rfl (by first | rfl | simp [menT, menO, AO.men, AV.men, menL, ifc_men hgr0.o]) rfl) | (simp [menT, menO, AO.men, AV.men, menL, ifc_men hgr0.o]; done) | ((simp only [List.all_cons, List.all_nil, Bool.and_true, Bool.and_eq_true]); and_intros <;> exact freshB_mk (by first | rfl | simp [menT, menO, AO.men, AV.men, menL, ifc_men hgr0.o]) rfl (by first | rfl | simp [menT, menO, AO.men, AV.men, menL, ifc_men hgr0.o]) rfl))) ?_
 refine Tri.ent (Ent.ghost 4 2 902000402 3 1 (cells' := [.hnd 900000400, .hnd 901000401, .hnd 902000402]) rfl rfl rfl (by first | rfl | (exact freshB_mk (by first | rfl | simp [menT, menO, AO.men, AV.men, menL, ifc_men hgr0.o]) rfl (by first | rfl | simp [menT, menO, AO.men, AV.men, menL, ifc_men hgr0.o]) rfl) | (simp [menT, menO, AO.men, AV.men, menL, ifc_men hgr0.o]; done) | ((simp only [List.all_cons, List.all_nil, Bool.and_true, Bool.and_eq_true]); and_intros <;> exact freshB_mk (by first | rfl | simp [menT, menO, AO.men, AV.men, menL, ifc_men hgr0.o]) rfl (by first | rfl | simp [menT, menO, AO.men, AV.men, menL, ifc_men hgr0.o]) rfl))) ?_
 obtain ⟨x15, hc, h⟩ := bind_some h
 obtain ⟨gm, gm1, gm2, gm3⟩ := hgr0.lines
 obtain ⟨x17, hc_1, h⟩ := bind_some h
 obtain ⟨gm_1, gm_11, gm_12, gm_13⟩ := hgr0.nodes
 obtain ⟨z18, hz, h⟩ := bind_some h
 obtain ⟨x20, hc_2, h⟩ := bind_some h
 obtain ⟨gm_2, gm_21, gm_22, gm_23⟩ := hgr0.nodes
 obtain ⟨z21, hz_1, h⟩ := bind_some h
 obtain ⟨x24, hc_3, h⟩ := bind_some h
 obtain ⟨gm_3, gm_31, gm_32, gm_33⟩ := hgr0.nodes
 obtain ⟨x25, hc_4, h⟩ := bind_some h
 obtain ⟨voo7_1_1, hj, h⟩ := bind_some h
 refine Tri.scopeW (l := 0) h (fun (p : List Int × List Bool × List Int) => ⟨[(4, .ptr 4 0), (6, .lst 3 (x15.map Diff.cl)), (7, .ptr 7 0)], [(900000400, some (.arr 3 1 (([] : List Int).map icl))), (901000401, some (.arr 4 1 (([] : List Bool).map bcl))), (902000402, some (.arr 3 1 (([] : List Int).map icl))), (4, some (.box [.hnd 900000400, .hnd 901000401, .hnd 902000402])), (18, some (.arr 3 1 (p.1.map icl))), (21, some (.arr 4 1 (p.2.1.map bcl))), (3445000, some (.arr 3 1 (p.2.2.map icl))), (7, some (.box [.hnd 18, .hnd 21, .hnd 3445000]))]⟩) rfl (fun hfst => ?_) ?_
 ·refine Tr ?_
  refine Qe 1 rfl ?_
  refine Qc rfl rfl rfl (args := [.fz y0]) (r := .lst 3 (x15.map Diff.cl)) (cali rfl rfl gm1 gm2 hgr0.yr) (gm3 _ hc) rfl ?_
  refine Qd rfl ?_
  refine Tri.seq ?_
  refine Tri.drawn [[], [0], [0, 1], [], [0, 1, 3], [0, 1, 3, 4], [], [], [0, 1, 3, 4, 7], [0, 1, 3, 4, 6, 7, 8], [0, 1, 2, 3, 4, 5, 6, 7, 8, 9], [], [0, 1, 2, 3, 4, 5, 6, 7, 8, 9, 10, 11]] hmix (by kernel_rfl) ?_
  refine Qe 1 rfl ?_
  refine Qc rfl rfl rfl (args := [.fz y0]) (r := Ai x17) (cali rfl rfl gm_11 gm_12 hgr0.yr) (gm_13 _ hc_1) rfl ?_
  refine Qn rfl rfl rfl (v := .hnd 18) (x := some (.arr 3 1 (z18.map icl))) (Ax.mk (cl := icl) rfl rfl slc_26 rfl rfl hz rfl rfl rfl) rfl (by first | rfl | (exact freshB_mk (by first | rfl | simp [menT, menO, AO.men, AV.men, menL, ifc_men hgr0.o]) rfl (by first | rfl | simp [menT, menO, AO.men, AV.men, menL, ifc_men hgr0.o]) rfl) | (simp [menT, menO, AO.men, AV.men, menL, ifc_men hgr0.o]; done) | ((simp only [List.all_cons, List.all_nil, Bool.and_true, Bool.and_eq_true]); and_intros <;> exact freshB_mk (by first | rfl | simp [menT, menO, AO.men, AV.men, menL, ifc_men hgr0.o]) rfl (by first | rfl | simp [menT, menO, AO.men, AV.men, menL, ifc_men hgr0.o]) rfl)) rfl (by first | rfl | (exact freshB_mk (by first | rfl | simp [menT, menO, AO.men, AV.men, menL, ifc_men hgr0.o]) rfl (by first | rfl | simp [menT, menO, AO.men, AV.men, menL, ifc_men hgr0.o]) rfl) | (simp [menT, menO, AO.men, AV.men, menL, ifc_men hgr0.o]; done) | ((simp only [List.all_cons, List.all_nil, Bool.and_true, Bool.and_eq_true]); and_intros <;> exact freshB_mk (by first | rfl | simp [menT, menO, AO.men, AV.men, menL, ifc_men hgr0.o]) rfl (by first | rfl | simp [menT, menO, AO.men, AV.men, menL, ifc_men hgr0.o]) rfl)) rfl ?_
  refine Qe 1 rfl ?_
  refine Qc rfl rfl rfl (args := [.fz y0]) (r := Ai x20) (cali rfl rfl gm_21 gm_22 hgr0.yr) (gm_23 _ hc_2) rfl ?_
  refine Qn rfl rfl rfl (v := .hnd 21) (x := some (.arr 4 1 (z21.map bcl))) (Ax.mk (cl := bcl) rfl rfl slc_191 rfl rfl hz_1 rfl rfl rfl) rfl (by first | rfl | (exact freshB_mk (by first | rfl | simp [menT, menO, AO.men, AV.men, menL, ifc_men hgr0.o]) rfl (by first | rfl | simp [menT, menO, AO.men, AV.men, menL, ifc_men hgr0.o]) rfl) | (simp [menT, menO, AO.men, AV.men, menL, ifc_men hgr0.o]; done) | ((simp only [List.all_cons, List.all_nil, Bool.and_true, Bool.and_eq_true]); and_intros <;> exact freshB_mk (by first | rfl | simp [menT, menO, AO.men, AV.men, menL, ifc_men hgr0.o]) rfl (by first | rfl | simp [menT, menO, AO.men, AV.men, menL, ifc_men hgr0.o]) rfl)) rfl (by first | rfl | (exact freshB_mk (by first | rfl | simp [menT, menO, AO.men, AV.men, menL, ifc_men hgr0.o]) rfl (by first | rfl | simp [menT, menO, AO.men, AV.men, menL, ifc_men hgr0.o]) rfl) | (simp [menT, menO, AO.men, AV.men, menL, ifc_men hgr0.o]; done) | ((simp only [List.all_cons, List.all_nil, Bool.and_true, Bool.and_eq_true]); and_intros <;> exact freshB_mk (by first | rfl | simp [menT, menO, AO.men, AV.men, menL, ifc_men hgr0.o]) rfl (by first | rfl | simp [menT, menO, AO.men, AV.men, menL, ifc_men hgr0.o]) rfl)) rfl ?_
  refine Q1 rfl rfl rfl (v := .lst 1 (([(-1)] : List Int).map icl)) (Ax.sl (xs := ([(-1)] : List Int)) rfl slc_26 rfl rfl ⟨Sub.refl _, trivial⟩ rfl icl_len icl_one icl_im) ?_
  refine Qe 1 rfl ?_
  refine Qc rfl rfl rfl (args := [.fz y0]) (r := Ai x24) (cali rfl rfl gm_31 gm_32 hgr0.yr) (gm_33 _ hc_3) rfl ?_
  refine Qo [] [(3445000, .arr 3 1 (x25.map icl))] [3445000] rfl rfl rfl (args := [.lst 1 (([(-1)] : List Int).map icl), Ai x24]) (r := .hnd 3445000) (calv rfl rfl fnok_343 rfl) (f343_fr hc_4) trivial rfl rfl rfl (by first | rfl | (exact freshB_mk (by first | rfl | simp [menT, menO, AO.men, AV.men, menL, ifc_men hgr0.o]) rfl (by first | rfl | simp [menT, menO, AO.men, AV.men, menL, ifc_men hgr0.o]) rfl) | (simp [menT, menO, AO.men, AV.men, menL, ifc_men hgr0.o]; done) | ((simp only [List.all_cons, List.all_nil, Bool.and_true, Bool.and_eq_true]); and_intros <;> exact freshB_mk (by first | rfl | simp [menT, menO, AO.men, AV.men, menL, ifc_men hgr0.o]) rfl (by first | rfl | simp [menT, menO, AO.men, AV.men, menL, ifc_men hgr0.o]) rfl)) rfl ?_
  refine Q1 rfl rfl rfl (v := .agg [.hnd 18, .hnd 21, .hnd 3445000]) (Ax.build rfl zer_318 (bld plc_318 zer_318) rfl ⟨Sub.refl _, Sub.refl _, Sub.refl _, trivial⟩) ?_
  refine Qn rfl rfl rfl (v := .ptr 7 0) (x := some (.box [.sc (.slice none 0 0), .sc (.slice none 0 0), .sc (.slice none 0 0)])) (Ax.alloc rfl rfl zer_318 rfl ⟨Sub.refl _, Sub.refl _, Sub.refl _, trivial⟩) rfl (by first | rfl | (exact freshB_mk (by first | rfl | simp [menT, menO, AO.men, AV.men, menL, ifc_men hgr0.o]) rfl (by first | rfl | simp [menT, menO, AO.men, AV.men, menL, ifc_men hgr0.o]) rfl) | (simp [menT, menO, AO.men, AV.men, menL, ifc_men hgr0.o]; done) | ((simp only [List.all_cons, List.all_nil, Bool.and_true, Bool.and_eq_true]); and_intros <;> exact freshB_mk (by first | rfl | simp [menT, menO, AO.men, AV.men, menL, ifc_men hgr0.o]) rfl (by first | rfl | simp [menT, menO, AO.men, AV.men, menL, ifc_men hgr0.o]) rfl)) rfl (by first | rfl | (exact freshB_mk (by first | rfl | simp [menT, menO, AO.men, AV.men, menL, ifc_men hgr0.o]) rfl (by first | rfl | simp [menT, menO, AO.men, AV.men, menL, ifc_men hgr0.o]) rfl) | (simp [menT, menO, AO.men, AV.men, menL, ifc_men hgr0.o]; done) | ((simp only [List.all_cons, List.all_nil, Bool.and_true, Bool.and_eq_true]); and_intros <;> exact freshB_mk (by first | rfl | simp [menT, menO, AO.men, AV.men, menL, ifc_men hgr0.o]) rfl (by first | rfl | simp [menT, menO, AO.men, AV.men, menL, ifc_men hgr0.o]) rfl)) rfl ?_
  refine Qs rfl rfl (x := some (.box [.hnd 18, .hnd 21, .hnd 3445000])) (Ax.st_box rfl siz_318 rfl rfl rfl rfl rfl rfl rfl) ?_
  refine RunD.done ⟨by kernel_rfl, freshL_of [18, 21, 3445000, 7] (by kernel_rfl) (by kernel_rfl), ?_⟩
  refine Tri.seq ?_
  refine Tr ?_
  refine Qe 1 rfl ?_
  refine Q1 rfl rfl rfl (Ax.ln (cl := icl) rfl slc_26 rfl) ?_
  refine Qd rfl ?_
  refine Tri.rngLv hj (fun p => ⟨[(4, .ptr 4 0), (6, .lst 3 (x15.map Diff.cl)), (7, .ptr 7 0), (27, .lst 1 (a1.map icl)), (28, Ai (a1.length : Int)), (29, Ai p.1)], [(900000400, some (.arr 3 1 (([] : List Int).map icl))), (901000401, some (.arr 4 1 (([] : List Bool).map bcl))), (902000402, some (.arr 3 1 (([] : List Int).map icl))), (4, some (.box [.hnd 900000400, .hnd 901000401, .hnd 902000402])), (18, some (.arr 3 1 (z18.map icl))), (21, some (.arr 4 1 (p.2.map bcl))), (3445000, some (.arr 3 1 (x25.map icl))), (7, some (.box [.hnd 18, .hnd 21, .hnd 3445000]))]⟩) (fun (y : List Bool) => ⟨[(4, .ptr 4 0), (6, .lst 3 (x15.map Diff.cl)), (7, .ptr 7 0)], [(900000400, some (.arr 3 1 (([] : List Int).map icl))), (901000401, some (.arr 4 1 (([] : List Bool).map bcl))), (902000402, some (.arr 3 1 (([] : List Int).map icl))), (4, some (.box [.hnd 900000400, .hnd 901000401, .hnd 902000402])), (18, some (.arr 3 1 (z18.map icl))), (21, some (.arr 4 1 (y.map bcl))), (3445000, some (.arr 3 1 (x25.map icl))), (7, some (.box [.hnd 18, .hnd 21, .hnd 3445000]))]⟩) (Ee [900000400, 901000401, 902000402, 4, 18, 21, 3445000, 7] rfl ⟨im_flat icl_im ([] : List Int), im_flat bcl_im ([] : List Bool), im_flat icl_im ([] : List Int), imf icl_im, imf bcl_im, imf icl_im, trivial⟩) ?_ ?_ ?_
  ·refine Tp rfl ?_
   refine Tri.seq ?_
   refine Tri.label ?_
   refine Tri.ent ?_ hfst
   exact (Ee [900000400, 901000401, 902000402, 4, 18, 21, 3445000, 7] rfl ⟨im_flat icl_im ([] : List Int), im_flat bcl_im ([] : List Bool), im_flat icl_im ([] : List Int), imf icl_im, imf bcl_im, imf icl_im, trivial⟩)
  ·rintro v29 voo7_1 hi h
   refine Tp rfl ?_
   refine Tri.seq ?_
   refine Tri.cond (b := (decide (v29 < (a1.length : Int)))) rfl (fun hb_7 => ?_) (fun hb_7 => ?_)
   ·exact (lt_f hi hb_7).elim
   ·refine Tri.exit ?_
    exact Exists.intro voo7_1 (And.intro h (Ee [900000400, 901000401, 902000402, 4, 18, 21, 3445000, 7] rfl ⟨im_flat icl_im ([] : List Int), im_flat bcl_im ([] : List Bool), im_flat icl_im ([] : List Int), imf icl_im, imf bcl_im, imf icl_im, trivial⟩))
  ·rintro nx x v29 voo7_1 _ hi hw hx h
   refine Tp rfl ?_
   refine Tri.seq ?_
   refine Tri.cond (b := (decide (v29 < (a1.length : Int)))) rfl (fun hb_8 => ?_) (fun hb_8 => ?_)
   ·refine Tri.skip ?_
    refine Tri.seq ?_
    refine Tri.block ?_
    refine Tr ?_
    refine Q1 rfl rfl rfl (Ax.ix (cl := icl) rfl slc_26 rfl rfl hx) ?_
    refine Qd rfl ?_
    refine Tri.region ?_
    refine Qe 3 rfl ?_
    obtain ⟨y_8, hy_8, h⟩ := bind_some h
    refine Q1 rfl rfl rfl (Ax.ixh (cl := bcl) rfl slc_191 rfl rfl rfl hy_8) ?_
    refine Qs rfl rfl (x := some (.arr 4 1 ((voo7_1.set (Int.toNat x) true).map bcl))) (Ax.st_arr (cl := bcl) (q := true) rfl siz_4 rfl rfl hy_8 rfl rfl rfl rfl rfl rfl) ?_
    refine RunD.done ?_
    refine Tq rfl ?_
    exact Exists.intro (v29 + 1, (voo7_1.set (Int.toNat x) true)) (And.intro (And.intro rfl h) (Es [900000400, 901000401, 902000402, 4, 18, 21, 3445000, 7] [29] rfl ⟨im_flat icl_im ([] : List Int), im_flat bcl_im ([] : List Bool), im_flat icl_im ([] : List Int), imf icl_im, imf bcl_im, imf icl_im, trivial⟩ ⟨.imm (Sub.of_eq (show Ai (v29 + 1) = Ai (W (v29 + 1)) from congrArg Ai hw.symm)) rfl, trivial⟩))
   ·exact (lt_t hi hb_8).elim
 ·rintro nx_1 ⟨voo7_0, voo7_1_2, voo7_2⟩ h
  refine Tp rfl ?_
  refine Tri.seq ?_
  refine Tr ?_
  refine Qe 1 rfl ?_
  refine Q1 rfl rfl rfl (Ax.ln (cl := Diff.cl) rfl slc_32 rfl) ?_
  refine Qd rfl ?_
  obtain ⟨⟨voo7_0_2, voo7_1_4, voo7_2_2, v10_1⟩, hj_1, h⟩ := bind_some h
  refine Tri.rngLv hj_1 (fun p => ⟨[(4, .ptr 4 0), (6, .lst 3 (x15.map Diff.cl)), (7, .ptr 7 0), (10, Ai p.2.2.2.2), (38, .lst 3 (x15.map Diff.cl)), (39, Ai (x15.length : Int)), (40, Ai p.1)], [(900000400, some (.arr 3 1 (([] : List Int).map icl))), (901000401, some (.arr 4 1 (([] : List Bool).map bcl))), (902000402, some (.arr 3 1 (([] : List Int).map icl))), (4, some (.box [.hnd 900000400, .hnd 901000401, .hnd 902000402])), (18, some (.arr 3 1 (p.2.1.map icl))), (21, some (.arr 4 1 (p.2.2.1.map bcl))), (3445000, some (.arr 3 1 (p.2.2.2.1.map icl))), (7, some (.box [.hnd 18, .hnd 21, .hnd 3445000]))]⟩) (fun (y : List Int × List Bool × List Int × Int) => ⟨[(4, .ptr 4 0), (6, .lst 3 (x15.map Diff.cl)), (7, .ptr 7 0), (10, Ai y.2.2.2)], [(900000400, some (.arr 3 1 (([] : List Int).map icl))), (901000401, some (.arr 4 1 (([] : List Bool).map bcl))), (902000402, some (.arr 3 1 (([] : List Int).map icl))), (4, some (.box [.hnd 900000400, .hnd 901000401, .hnd 902000402])), (18, some (.arr 3 1 (y.1.map icl))), (21, some (.arr 4 1 (y.2.1.map bcl))), (3445000, some (.arr 3 1 (y.2.2.1.map icl))), (7, some (.box [.hnd 18, .hnd 21, .hnd 3445000]))]⟩) (Ee [900000400, 901000401, 902000402, 4, 18, 21, 3445000, 7] rfl ⟨im_flat icl_im ([] : List Int), im_flat bcl_im ([] : List Bool), im_flat icl_im ([] : List Int), imf icl_im, imf bcl_im, imf icl_im, trivial⟩) ?_ ?_ ?_
  ·refine Tri.seq ?_
   refine Tp rfl ?_
   refine Tri.cond (b := (decide (v10_1 < 0))) rfl (fun hb => ?_) (fun hb => ?_)
   ·have h := cond_t hb h
    refine Tr ?_
    refine Qe 1 rfl ?_
    refine Qs rfl rfl (x := some (.box [.hnd 18, .hnd 21, .hnd 3445000])) (Ax.st_box rfl siz_318 rfl rfl rfl rfl rfl rfl rfl) ?_
    refine Qd rfl ?_
    refine Tri.ret ?_
    refine Rr (fun r => .tup [.agg [.hnd 3125001, .hnd 3125002, .hnd 3125003], Ai r.2]) (fun r => [(3125001, .arr 3 1 (r.1.long.map icl)), (3125002, .arr 4 1 (r.1.has.map bcl)), (3125003, .arr 3 1 (r.1.last.map icl))]) [18, 21, 3445000] h ?_ ?_
    ·rfl
    exact ⟨imf icl_im, imf bcl_im, imf icl_im, trivial⟩
   ·have h := cond_f hb h
    refine Tri.skip ?_
    refine Tri.seq ?_
    refine Tr ?_
    refine Qe 3 rfl ?_
    obtain ⟨x112, hc_5, h⟩ := bind_some h
    refine Ql [18, 21, 3445000] rfl rfl rfl (args := [.agg [.hnd 18, .hnd 21, .hnd 3445000], .lst 3 (x15.map Diff.cl), Ai v10_1]) (args' := [.agg (Tree_diffs.cl (⟨voo7_0_2, voo7_1_4, voo7_2_2⟩ : Tree_diffs)), .lst 3 (x15.map Diff.cl), Ai v10_1]) (r := Ai x112) (calv rfl rfl fnok_344 rfl) ⟨.aggV ⟨.hnd (List.Mem.head _) rfl (im_flat icl_im voo7_0_2), .hnd (List.Mem.tail _ (List.Mem.head _)) rfl (im_flat bcl_im voo7_1_4), .hnd (List.Mem.tail _ (List.Mem.tail _ (List.Mem.head _))) rfl (im_flat icl_im voo7_2_2), trivial⟩, .imm rfl, .imm rfl, trivial⟩ (f344_ok hc_5) rfl rfl ?_
    refine Qd rfl ?_
    refine Tp rfl ?_
    refine Tri.cond (b := (decide (x112 ≥ 0))) rfl (fun hb_1 => ?_) (fun hb_1 => ?_)
    ·have h := cond_t hb_1 h
     refine Tr ?_
     refine Qe 2 rfl ?_
     refine Qs rfl rfl (x := some (.box [.hnd 18, .hnd 21, .hnd 3445000])) (Ax.st_box rfl siz_318 rfl rfl rfl rfl rfl rfl rfl) ?_
     refine Qd rfl ?_
     refine Tri.ret ?_
     refine Rr (fun r => .tup [.agg [.hnd 3125001, .hnd 3125002, .hnd 3125003], Ai r.2]) (fun r => [(3125001, .arr 3 1 (r.1.long.map icl)), (3125002, .arr 4 1 (r.1.has.map bcl)), (3125003, .arr 3 1 (r.1.last.map icl))]) [18, 21, 3445000] h ?_ ?_
     ·rfl
     exact ⟨imf icl_im, imf bcl_im, imf icl_im, trivial⟩
    ·have h := cond_f hb_1 h
     refine Tri.skip ?_
     refine Tri.goto ?_
     exact ⟨rfl, (voo7_0_2, voo7_1_4, voo7_2_2), h, (Ee [900000400, 901000401, 902000402, 4, 18, 21, 3445000, 7] rfl ⟨im_flat icl_im ([] : List Int), im_flat bcl_im ([] : List Bool), im_flat icl_im ([] : List Int), imf icl_im, imf bcl_im, imf icl_im, trivial⟩)⟩
  ·rintro v40 ⟨voo7_0_1, voo7_1_3, voo7_2_1, v10⟩ hi_1 h
   refine Tp rfl ?_
   refine Tri.seq ?_
   refine Tri.cond (b := (decide (v40 < (x15.length : Int)))) rfl (fun hb_2 => ?_) (fun hb_2 => ?_)
   ·exact (lt_f hi_1 hb_2).elim
   ·refine Tri.exit ?_
    exact Exists.intro (voo7_0_1, voo7_1_3, voo7_2_1, v10) (And.intro h (Ee [900000400, 901000401, 902000402, 4, 18, 21, 3445000, 7] rfl ⟨im_flat icl_im ([] : List Int), im_flat bcl_im ([] : List Bool), im_flat icl_im ([] : List Int), imf icl_im, imf bcl_im, imf icl_im, trivial⟩))
  ·rintro nx_2 x_1 v40 ⟨voo7_0_1, voo7_1_3, voo7_2_1, v10⟩ _ hi_1 hw_1 hx_1 h
   refine Tp rfl ?_
   refine Tri.seq ?_
   refine Tri.cond (b := (decide (v40 < (x15.length : Int)))) rfl (fun hb_3 => ?_) (fun hb_3 => ?_)
   ·refine Tri.skip ?_
    refine Tri.seq ?_
    refine Tri.block ?_
    refine Tr ?_
    refine Qe 1 rfl ?_
    refine Q1 rfl rfl rfl (Ax.ix (cl := Diff.cl) rfl slc_32 rfl rfl hx_1) ?_
    refine Qe 1 rfl ?_
    refine Qn rfl rfl rfl (v := .ptr 12 0) (x := some (.box (Diff.cl (⟨0, 0, 0⟩ : Diff)))) (Ax.alloc rfl rfl zer_174 rfl ⟨Sub.refl _, Sub.refl _, Sub.refl _, trivial⟩) rfl (by first | rfl | (exact freshB_mk (by first | rfl | simp [menT, menO, AO.men, AV.men, menL, ifc_men hgr0.o]) rfl (by first | rfl | simp [menT, menO, AO.men, AV.men, menL, ifc_men hgr0.o]) rfl) | (simp [menT, menO, AO.men, AV.men, menL, ifc_men hgr0.o]; done) | ((simp only [List.all_cons, List.all_nil, Bool.and_true, Bool.and_eq_true]); and_intros <;> exact freshB_mk (by first | rfl | simp [menT, menO, AO.men, AV.men, menL, ifc_men hgr0.o]) rfl (by first | rfl | simp [menT, menO, AO.men, AV.men, menL, ifc_men hgr0.o]) rfl)) rfl (by first | rfl | (exact freshB_mk (by first | rfl | simp [menT, menO, AO.men, AV.men, menL, ifc_men hgr0.o]) rfl (by first | rfl | simp [menT, menO, AO.men, AV.men, menL, ifc_men hgr0.o]) rfl) | (simp [menT, menO, AO.men, AV.men, menL, ifc_men hgr0.o]; done) | ((simp only [List.all_cons, List.all_nil, Bool.and_true, Bool.and_eq_true]); and_intros <;> exact freshB_mk (by first | rfl | simp [menT, menO, AO.men, AV.men, menL, ifc_men hgr0.o]) rfl (by first | rfl | simp [menT, menO, AO.men, AV.men, menL, ifc_men hgr0.o]) rfl)) rfl ?_
    refine Qe 1 rfl ?_
    refine Qs rfl rfl (x := some (.box (Diff.cl x_1))) (Ax.st_box rfl siz_174 rfl rfl rfl rfl rfl rfl rfl) ?_
    refine RunD.done ?_
    refine Tri.seq ?_
    obtain ⟨v77, hj_3, h⟩ := bind_some h
    refine Tri.joinv v77 (fun (y : Bool) => ⟨[(4, .ptr 4 0), (6, .lst 3 (x15.map Diff.cl)), (7, .ptr 7 0), (10, Ai v10), (11, Ai v40), (12, .ptr 12 0), (38, .lst 3 (x15.map Diff.cl)), (39, Ai (x15.length : Int)), (40, Ai v40), (77, Ab y)], [(900000400, some (.arr 3 1 (([] : List Int).map icl))), (901000401, some (.arr 4 1 (([] : List Bool).map bcl))), (902000402, some (.arr 3 1 (([] : List Int).map icl))), (4, some (.box [.hnd 900000400, .hnd 901000401, .hnd 902000402])), (18, some (.arr 3 1 (voo7_0_1.map icl))), (21, some (.arr 4 1 (voo7_1_3.map bcl))), (3445000, some (.arr 3 1 (voo7_2_1.map icl))), (7, some (.box [.hnd 18, .hnd 21, .hnd 3445000])), (12, some (.box (Diff.cl x_1)))]⟩) ?_ ?_
    ·obtain ⟨⟨voo7_0_3, voo7_1_5, voo7_2_3, v10_2⟩, hj_2, h⟩ := bind_some h
     refine Tri.joinv (voo7_0_3, voo7_1_5, voo7_2_3, v10_2) (fun (y : List Int × List Bool × List Int × Int) => ⟨[(4, .ptr 4 0), (6, .lst 3 (x15.map Diff.cl)), (7, .ptr 7 0), (10, Ai y.2.2.2), (38, .lst 3 (x15.map Diff.cl)), (39, Ai (x15.length : Int)), (40, Ai v40)], [(900000400, some (.arr 3 1 (([] : List Int).map icl))), (901000401, some (.arr 4 1 (([] : List Bool).map bcl))), (902000402, some (.arr 3 1 (([] : List Int).map icl))), (4, some (.box [.hnd 900000400, .hnd 901000401, .hnd 902000402])), (18, some (.arr 3 1 (y.1.map icl))), (21, some (.arr 4 1 (y.2.1.map bcl))), (3445000, some (.arr 3 1 (y.2.2.1.map icl))), (7, some (.box [.hnd 18, .hnd 21, .hnd 3445000]))]⟩) ?_ ?_
     ·refine Tq rfl ?_
      exact Exists.intro (v40 + 1, (voo7_0_3, voo7_1_5, voo7_2_3, v10_2)) (And.intro (And.intro rfl h) (Es [900000400, 901000401, 902000402, 4, 18, 21, 3445000, 7] [40] rfl ⟨im_flat icl_im ([] : List Int), im_flat bcl_im ([] : List Bool), im_flat icl_im ([] : List Int), imf icl_im, imf bcl_im, imf icl_im, trivial⟩ ⟨.imm (Sub.of_eq (show Ai (v40 + 1) = Ai (W (v40 + 1)) from congrArg Ai hw_1.symm)) rfl, trivial⟩))
     ·have h := hj_2
      refine Tri.cond (b := v77) rfl (fun hb_4 => ?_) (fun hb_4 => ?_)
      ·have h := cond_t hb_4 h
       refine Tri.seq ?_
       refine Tri.drawn [[], [0], [], [2], [], [4], [], [6], [], [8], [], [10], [], [12], [], [14], [12, 13, 14, 15], [12, 13, 14, 15, 16], [], [18], [12, 13, 14, 15, 16, 17, 18, 19], [], [0, 1, 2, 3, 12, 13, 14, 15, 16, 17, 18, 19, 20], [0, 1, 2, 3, 12, 13, 14, 15, 16, 17, 18, 19, 20, 22], [0, 1, 2, 3, 4, 5, 6, 7, 12, 13, 14, 15, 16, 17, 18, 19, 20, 22, 23], [0, 1, 2, 3, 4, 5, 6, 7, 12, 13, 14, 15, 16, 17, 18, 19, 20, 22, 23, 24], [0, 1, 2, 3, 4, 5, 6, 7, 8, 9, 10, 11, 12, 13, 14, 15, 16, 17, 18, 19, 20, 21, 22, 23, 24, 25], [0, 1, 2, 3, 4, 5, 6, 7, 8, 9, 10, 11, 12, 13, 14, 15, 16, 17, 18, 19, 20, 21, 22, 23, 24, 25, 26]] hmix (by kernel_rfl) ?_
       refine Qe 16 rfl ?_
       obtain ⟨y, hy, h⟩ := bind_some h
       refine Q1 rfl rfl rfl (Ax.ixh (cl := icl) rfl slc_26 rfl rfl rfl hy) ?_
       refine Q1 rfl rfl rfl (Ax.l1_arr (cl := icl) rfl siz_3 rfl rfl hy rfl) ?_
       refine Qe 4 rfl ?_
       obtain ⟨y_1, hy_1, h⟩ := bind_some h
       refine Q1 rfl rfl rfl (Ax.ixh (cl := icl) rfl slc_26 rfl rfl rfl hy_1) ?_
       refine Qs rfl rfl (x := some (.arr 3 1 ((voo7_0_1.set (Int.toNat x_1.To) (W (y + x_1.Most))).map icl))) (Ax.st_arr (cl := icl) (q := (W (y + x_1.Most))) rfl siz_3 rfl rfl hy_1 rfl rfl rfl rfl rfl rfl) ?_
       obtain ⟨y_2, hy_2, h⟩ := bind_some h
       refine Q1 rfl rfl rfl (Ax.ixh (cl := bcl) rfl slc_191 rfl rfl rfl hy_2) ?_
       refine Qs rfl rfl (x := some (.arr 4 1 ((voo7_1_3.set (Int.toNat x_1.To) true).map bcl))) (Ax.st_arr (cl := bcl) (q := true) rfl siz_4 rfl rfl hy_2 rfl rfl rfl rfl rfl rfl) ?_
       obtain ⟨y_3, hy_3, h⟩ := bind_some h
       refine Q1 rfl rfl rfl (Ax.ixh (cl := icl) rfl slc_26 rfl rfl rfl hy_3) ?_
       refine Qs rfl rfl (x := some (.arr 3 1 ((voo7_2_1.set (Int.toNat x_1.To) v40).map icl))) (Ax.st_arr (cl := icl) (q := v40) rfl siz_3 rfl rfl hy_3 rfl rfl rfl rfl rfl rfl) ?_
       refine RunD.done ⟨by kernel_rfl, freshL_of [] (by kernel_rfl) (by kernel_rfl), ?_⟩
       refine Tq rfl ?_
       exact Exists.intro ((voo7_0_1.set (Int.toNat x_1.To) (W (y + x_1.Most))), (voo7_1_3.set (Int.toNat x_1.To) true), (voo7_2_1.set (Int.toNat x_1.To) v40), x_1.To) (And.intro h (Ee [900000400, 901000401, 902000402, 4, 18, 21, 3445000, 7] rfl ⟨im_flat icl_im ([] : List Int), im_flat bcl_im ([] : List Bool), im_flat icl_im ([] : List Int), imf icl_im, imf bcl_im, imf icl_im, trivial⟩))
      ·have h := cond_f hb_4 h
       refine Tri.skip ?_
       exact Exists.intro (voo7_0_1, voo7_1_3, voo7_2_1, v10) (And.intro h (Ee [900000400, 901000401, 902000402, 4, 18, 21, 3445000, 7] rfl ⟨im_flat icl_im ([] : List Int), im_flat bcl_im ([] : List Bool), im_flat icl_im ([] : List Int), imf icl_im, imf bcl_im, imf icl_im, trivial⟩))
    ·have h := hj_3
     refine Tri.drawn [] hmix (by kernel_rfl) ?_
     refine Qe 4 rfl ?_
     obtain ⟨y_4, hy_4, h⟩ := bind_some h
     refine Q1 rfl rfl rfl (Ax.ixh (cl := bcl) rfl slc_191 rfl rfl rfl hy_4) ?_
     refine Q1 rfl rfl rfl (Ax.l1_arr (cl := bcl) rfl siz_4 rfl rfl hy_4 rfl) ?_
     refine Qe 1 rfl ?_
     rcases b2 y_4 with hb_5 | hb_5
     ·have h := cond_t hb_5 h
      refine Qk 51 hb_5 rfl ?_
      refine Qe 4 rfl ?_
      obtain ⟨y_5, hy_5, h⟩ := bind_some h
      refine Q1 rfl rfl rfl (Ax.ixh (cl := bcl) rfl slc_191 rfl rfl rfl hy_5) ?_
      refine Q1 rfl rfl rfl (Ax.l1_arr (cl := bcl) rfl siz_4 rfl rfl hy_5 rfl) ?_
      refine Qe 2 rfl ?_
      rcases b2 (!y_5) with hb_6 | hb_6
      ·have h := cond_t hb_6 h
       refine Qk 59 hb_6 rfl ?_
       refine Qe 18 rfl ?_
       refine RunD.done ⟨by kernel_rfl, freshL_of [] (by kernel_rfl) (by kernel_rfl), ?_⟩
       exact Exists.intro true (And.intro h (Ee [900000400, 901000401, 902000402, 4, 18, 21, 3445000, 7, 12] rfl ⟨im_flat icl_im ([] : List Int), im_flat bcl_im ([] : List Bool), im_flat icl_im ([] : List Int), imf icl_im, imf bcl_im, imf icl_im, trivial⟩))
      ·have h := cond_f hb_6 h
       refine Qk 59 hb_6 rfl ?_
       refine Qe 4 rfl ?_
       obtain ⟨y_6, hy_6, h⟩ := bind_some h
       refine Q1 rfl rfl rfl (Ax.ixh (cl := icl) rfl slc_26 rfl rfl rfl hy_6) ?_
       refine Q1 rfl rfl rfl (Ax.l1_arr (cl := icl) rfl siz_3 rfl rfl hy_6 rfl) ?_
       refine Qe 7 rfl ?_
       obtain ⟨y_7, hy_7, h⟩ := bind_some h
       refine Q1 rfl rfl rfl (Ax.ixh (cl := icl) rfl slc_26 rfl rfl rfl hy_7) ?_
       refine Q1 rfl rfl rfl (Ax.l1_arr (cl := icl) rfl siz_3 rfl rfl hy_7 rfl) ?_
       refine Qe 3 rfl ?_
       refine RunD.done ⟨by kernel_rfl, freshL_of [] (by kernel_rfl) (by kernel_rfl), ?_⟩
       exact Exists.intro (decide ((W (y_6 + x_1.Most)) < y_7)) (And.intro h (Ee [900000400, 901000401, 902000402, 4, 18, 21, 3445000, 7, 12] rfl ⟨im_flat icl_im ([] : List Int), im_flat bcl_im ([] : List Bool), im_flat icl_im ([] : List Int), imf icl_im, imf bcl_im, imf icl_im, trivial⟩))
     ·have h := cond_f hb_5 h
      refine Qk 51 hb_5 rfl ?_
      refine Qe 26 rfl ?_
      refine RunD.done ⟨by kernel_rfl, freshL_of [] (by kernel_rfl) (by kernel_rfl), ?_⟩
      exact Exists.intro false (And.intro h (Ee [900000400, 901000401, 902000402, 4, 18, 21, 3445000, 7, 12] rfl ⟨im_flat icl_im ([] : List Int), im_flat bcl_im ([] : List Bool), im_flat icl_im ([] : List Int), imf icl_im, imf bcl_im, imf icl_im, trivial⟩))
   ·exact (lt_t hi_1 hb_3).elim
theorem f312_ok {K : Nat} {a0 : Gr} {t0 : Nat} {y0 : AV} {r : List Int} (hgr0 : GrOK a0 t0 (.fz y0)) (h : f312 K a0 = some r) : CallOK Tryz.prog 312 [.ifc t0 (.fz y0)] [] (.lst 1 (r.map icl)) [] := by
 refine CallOK.of_tri Tryz.func312 rfl rfl (Nat.le_of_ble_eq_true rfl) ?_
 unfold f312 at h
 refine Tr ?_
 refine Q1 rfl rfl rfl (v := .lst 1 (([] : List Int).map icl)) (Ax.nl 1 rfl rfl) ?_
 refine RunD.done ?_
 refine Tr ?_
 refine Qn rfl rfl rfl (v := .hnd 3) (x := some (.arr 3 1 (([] : List Int).map icl))) (Ax.nil_new 3 1 (.inr rfl) rfl) rfl (by first | rfl | (exact freshB_mk (by first | rfl | simp [menT, menO, AO.men, AV.men, menL, ifc_men hgr0.o]) rfl (by first | rfl | simp [menT, menO, AO.men, AV.men, menL, ifc_men hgr0.o]) rfl) | (simp [menT, menO, AO.men, AV.men, menL, ifc_men hgr0.o]; done) | ((simp only [List.all_cons, List.all_nil, Bool.and_true, Bool.and_eq_true]); and_intros <;> exact freshB_mk (by first | rfl | simp [menT, menO, AO.men, AV.men, menL, ifc_men hgr0.o]) rfl (by first | rfl | simp [menT, menO, AO.men, AV.men, menL, ifc_men hgr0.o]) rfl)) rfl (by first | rfl | (exact freshB_mk (by first | rfl | simp [menT, menO, AO.men, AV.men, menL, ifc_men hgr0.o]) rfl (by first | rfl | simp [menT, menO, AO.men, AV.men, menL, ifc_men hgr0.o]) rfl) | (simp [menT, menO, AO.men, AV.men, menL, ifc_men hgr0.o]; done) | ((simp only [List.all_cons, List.all_nil, Bool.and_true, Bool.and_eq_true]); and_intros <;> exact freshB_mk (by first | rfl | simp [menT, menO, AO.men, AV.men, menL, ifc_men hgr0.o]) rfl (by first | rfl | simp [menT, menO, AO.men, AV.men, menL, ifc_men hgr0.o]) rfl)) rfl ?_
 refine RunD.done ?_
 refine Tri.seq ?_
 refine Tr ?_
 refine Qe 1 rfl ?_
 obtain ⟨x6, hc, h⟩ := bind_some h
 obtain ⟨gm, gm1, gm2, gm3⟩ := hgr0.nodes
 refine Qc rfl rfl rfl (args := [.fz y0]) (r := Ai x6) (cali rfl rfl gm1 gm2 hgr0.yr) (gm3 _ hc) rfl ?_
 refine Qd rfl ?_
 obtain ⟨vo3_1, hj, h⟩ := bind_some h
 refine Tri.rngNv hj (fun p => ⟨[(3, .hnd 3), (6, Ai x6), (7, Ai p.1)], [(3, some (.arr 3 1 (p.2.map icl)))]⟩) (fun (y : List Int) => ⟨[(3, .hnd 3)], [(3, some (.arr 3 1 (y.map icl)))]⟩) (Ee [3] rfl ⟨im_flat icl_im ([] : List Int), trivial⟩) ?_ ?_ ?_
 ·refine Tp rfl ?_
  refine Tri.ret ?_
  refine RetQ.eq2 (fun r => .lst 1 (r.map icl)) (fun r => []) (Option.some.inj h) ?_
  exact RetQ.mk (vs := [.hnd 3]) (.inr rfl) ⟨_, _, rfl, .tmp rfl, rfl⟩ [3] [] rfl rfl trivial (.frz (.hnd (List.Mem.head _) rfl (im_flat icl_im vo3_1)) rfl)
 ·rintro v7 vo3 hi _ h
  refine Tp rfl ?_
  refine Tri.seq ?_
  refine Tri.cond (b := (decide (v7 < x6))) rfl (fun hb => ?_) (fun hb => ?_)
  ·exact (lt_f hi hb).elim
  ·refine Tri.exit ?_
   exact Exists.intro vo3 (And.intro h (Ee [3] rfl ⟨imf icl_im, trivial⟩))
 ·rintro nx v7 vo3 _ hi hw h
  refine Tp rfl ?_
  refine Tri.seq ?_
  refine Tri.cond (b := (decide (v7 < x6))) rfl (fun hb_1 => ?_) (fun hb_1 => ?_)
  ·refine Tri.skip ?_
   refine Tri.seq ?_
   refine Tri.block ?_
   refine Tp rfl ?_
   refine Tri.region ?_
   refine Qe 2 rfl ?_
   refine Q1 rfl rfl rfl (v := .lst 1 (([v7] : List Int).map icl)) (Ax.sl (xs := ([v7] : List Int)) rfl slc_26 rfl rfl ⟨Sub.refl _, trivial⟩ rfl icl_len icl_one icl_im) ?_
   obtain ⟨z13, hz, h⟩ := bind_some h
   refine Qa rfl rfl rfl (v := .hnd 13) (x := some (.arr 3 1 (z13.map icl))) (Ax.app_l (cl := icl) rfl rfl slc_26 rfl rfl rfl icl_one icl_im hz rfl rfl) rfl (by first | rfl | (exact freshB_mk (by first | rfl | simp [menT, menO, AO.men, AV.men, menL, ifc_men hgr0.o]) rfl (by first | rfl | simp [menT, menO, AO.men, AV.men, menL, ifc_men hgr0.o]) rfl) | (simp [menT, menO, AO.men, AV.men, menL, ifc_men hgr0.o]; done) | ((simp only [List.all_cons, List.all_nil, Bool.and_true, Bool.and_eq_true]); and_intros <;> exact freshB_mk (by first | rfl | simp [menT, menO, AO.men, AV.men, menL, ifc_men hgr0.o]) rfl (by first | rfl | simp [menT, menO, AO.men, AV.men, menL, ifc_men hgr0.o]) rfl)) rfl (by first | rfl | (exact freshB_mk (by first | rfl | simp [menT, menO, AO.men, AV.men, menL, ifc_men hgr0.o]) rfl (by first | rfl | simp [menT, menO, AO.men, AV.men, menL, ifc_men hgr0.o]) rfl) | (simp [menT, menO, AO.men, AV.men, menL, ifc_men hgr0.o]; done) | ((simp only [List.all_cons, List.all_nil, Bool.and_true, Bool.and_eq_true]); and_intros <;> exact freshB_mk (by first | rfl | simp [menT, menO, AO.men, AV.men, menL, ifc_men hgr0.o]) rfl (by first | rfl | simp [menT, menO, AO.men, AV.men, menL, ifc_men hgr0.o]) rfl)) rfl ?_
   refine Qd rfl ?_
   refine Tq rfl ?_
   exact Exists.intro (v7 + 1, z13) (And.intro (And.intro rfl h) (Es [13] [7] rfl ⟨imf icl_im, trivial⟩ ⟨.imm (Sub.of_eq (show Ai (v7 + 1) = Ai (W (v7 + 1)) from congrArg Ai hw.symm)) rfl, trivial⟩))
  ·exact (lt_t hi hb_1).elim
theorem f251_ok {K : Nat} {a0 : Gr} {t0 : Nat} {y0 : AV} {r : List Int × Tree_diffs × Int} (hgr0 : GrOK a0 t0 (.fz y0)) (h : f251 K a0 = some r) : CallOK Tryz.prog 251 [.ifc t0 (.fz y0)] [] (.tup [.lst 1 (r.1.map icl), .agg (Tree_diffs.cl r.2.1), Ai r.2.2]) [] := by
 refine CallOK.of_tri Tryz.func251 rfl rfl (Nat.le_of_ble_eq_true rfl) ?_
 unfold f251 at h
 refine Tr ?_
 refine Q1 rfl rfl rfl (v := .lst 1 (([] : List Int).map icl)) (Ax.nl 1 rfl rfl) ?_
 refine Qn rfl rfl rfl (v := .ptr 3 0) (x := some (.box (Tree_diffs.cl (⟨([] : List Int), ([] : List Bool), ([] : List Int)⟩ : Tree_diffs)))) (Ax.alloc rfl rfl zer_318 rfl ⟨Sub.nil _, Sub.nil _, Sub.nil _, trivial⟩) rfl (by first | rfl | (exact freshB_mk (by first | rfl | simp [menT, menO, AO.men, AV.men, menL, ifc_men hgr0.o]) rfl (by first | rfl | simp [menT, menO, AO.men, AV.men, menL, ifc_men hgr0.o]) rfl) | (simp [menT, menO, AO.men, AV.men, menL, ifc_men hgr0.o]; done) | ((simp only [List.all_cons, List.all_nil, Bool.and_true, Bool.and_eq_true]); and_intros <;> exact freshB_mk (by first | rfl | simp [menT, menO, AO.men, AV.men, menL, ifc_men hgr0.o]) rfl (by first | rfl | simp [menT, menO, AO.men, AV.men, menL, ifc_men hgr0.o]) rfl)) rfl (by first | rfl | (exact freshB_mk (by first | rfl | simp [menT, menO, AO.men, AV.men, menL, ifc_men hgr0.o]) rfl (by first | rfl | simp [menT, menO, AO.men, AV.men, menL, ifc_men hgr0.o]) rfl) | (simp [menT, menO, AO.men, AV.men, menL, ifc_men hgr0.o]; done) | ((simp only [List.all_cons, List.all_nil, Bool.and_true, Bool.and_eq_true]); and_intros <;> exact freshB_mk (by first | rfl | simp [menT, menO, AO.men, AV.men, menL, ifc_men hgr0.o]) rfl (by first | rfl | simp [menT, menO, AO.men, AV.men, menL, ifc_men hgr0.o]) rfl)) rfl ?_
 refine Qd rfl ?_
 refine Tr ?_
 refine Qe 2 rfl ?_
 obtain ⟨x12, hc, h⟩ := bind_some h
 refine Qc rfl rfl rfl (args := [.ifc t0 (.fz y0)]) (r := .lst 1 (x12.map icl)) (calv rfl rfl fnok_312 rfl) (f312_ok hgr0 hc) rfl ?_
 obtain ⟨⟨x13_0, x13_1⟩, hc_1, h⟩ := bind_some h
 refine Qo [] [(3125001, .arr 3 1 (x13_0.long.map icl)), (3125002, .arr 4 1 (x13_0.has.map bcl)), (3125003, .arr 3 1 (x13_0.last.map icl))] [3125001, 3125002, 3125003] rfl rfl rfl (args := [.ifc t0 (.fz y0), .lst 1 (x12.map icl)]) (r := .tup [.agg [.hnd 3125001, .hnd 3125002, .hnd 3125003], Ai x13_1]) (calv rfl rfl fnok_311 rfl) (f311_fr hgr0 hc_1) trivial rfl rfl rfl (by first | rfl | (exact freshB_mk (by first | rfl | simp [menT, menO, AO.men, AV.men, menL, ifc_men hgr0.o]) rfl (by first | rfl | simp [menT, menO, AO.men, AV.men, menL, ifc_men hgr0.o]) rfl) | (simp [menT, menO, AO.men, AV.men, menL, ifc_men hgr0.o]; done) | ((simp only [List.all_cons, List.all_nil, Bool.and_true, Bool.and_eq_true]); and_intros <;> exact freshB_mk (by first | rfl | simp [menT, menO, AO.men, AV.men, menL, ifc_men hgr0.o]) rfl (by first | rfl | simp [menT, menO, AO.men, AV.men, menL, ifc_men hgr0.o]) rfl)) rfl ?_
 refine Qe 3 rfl ?_
 refine Qn rfl rfl rfl (v := .ptr 5 0) (x := some (.box (Tree_diffs.cl (⟨([] : List Int), ([] : List Bool), ([] : List Int)⟩ : Tree_diffs)))) (Ax.alloc rfl rfl zer_318 rfl ⟨Sub.nil _, Sub.nil _, Sub.nil _, trivial⟩) rfl (by first | rfl | (exact freshB_mk (by first | rfl | simp [menT, menO, AO.men, AV.men, menL, ifc_men hgr0.o]) rfl (by first | rfl | simp [menT, menO, AO.men, AV.men, menL, ifc_men hgr0.o]) rfl) | (simp [menT, menO, AO.men, AV.men, menL, ifc_men hgr0.o]; done) | ((simp only [List.all_cons, List.all_nil, Bool.and_true, Bool.and_eq_true]); and_intros <;> exact freshB_mk (by first | rfl | simp [menT, menO, AO.men, AV.men, menL, ifc_men hgr0.o]) rfl (by first | rfl | simp [menT, menO, AO.men, AV.men, menL, ifc_men hgr0.o]) rfl)) rfl (by first | rfl | (exact freshB_mk (by first | rfl | simp [menT, menO, AO.men, AV.men, menL, ifc_men hgr0.o]) rfl (by first | rfl | simp [menT, menO, AO.men, AV.men, menL, ifc_men hgr0.o]) rfl) | (simp [menT, menO, AO.men, AV.men, menL, ifc_men hgr0.o]; done) | ((simp only [List.all_cons, List.all_nil, Bool.and_true, Bool.and_eq_true]); and_intros <;> exact freshB_mk (by first | rfl | simp [menT, menO, AO.men, AV.men, menL, ifc_men hgr0.o]) rfl (by first | rfl | simp [menT, menO, AO.men, AV.men, menL, ifc_men hgr0.o]) rfl)) rfl ?_
 refine Qs rfl rfl (x := some (.box [.hnd 3125001, .hnd 3125002, .hnd 3125003])) (Ax.st_box rfl siz_318 rfl rfl rfl rfl rfl rfl rfl) ?_
 refine Qd rfl ?_
 refine Tri.seq ?_
 refine Tp rfl ?_
 refine Tri.cond (b := (decide (x13_1 ≥ 0))) rfl (fun hb => ?_) (fun hb => ?_)
 ·have h := cond_t hb h
  refine Tri.seq ?_
  refine Tri.drawn [[], [], [], [0, 2], []] hmix (by kernel_rfl) ?_
  refine Qe 2 rfl ?_
  refine Q1 rfl rfl rfl (v := .lst 1 (([] : List Int).map icl)) (Ax.nl 1 rfl rfl) ?_
  refine Qs rfl rfl (x := some (.box [.hnd 3125001, .hnd 3125002, .hnd 3125003])) (Ax.st_box rfl siz_318 rfl rfl rfl rfl rfl rfl rfl) ?_
  refine Qe 1 rfl ?_
  refine RunD.done ⟨by kernel_rfl, freshL_of [] (by kernel_rfl) (by kernel_rfl), ?_⟩
  refine Tri.ret ?_
  refine RetQ.eq2 (fun r => .tup [.lst 1 (r.1.map icl), .agg (Tree_diffs.cl r.2.1), Ai r.2.2]) (fun r => []) (Option.some.inj h) ?_
  exact RetQ.mk (vs := [.lst 1 (([] : List Int).map icl), .agg [.hnd 3125001, .hnd 3125002, .hnd 3125003], Ai x13_1]) (.inr rfl) ⟨_, _, rfl, .tmp rfl, ⟨_, _, rfl, .cell_box rfl siz_318 rfl rfl rfl, ⟨_, _, rfl, .tmp rfl, rfl⟩⟩⟩ [3125001, 3125002, 3125003] [] rfl rfl trivial (.tupV ⟨.rfl' rfl, .frz (.aggV ⟨(.hnd (List.Mem.head _) rfl (im_flat icl_im x13_0.long)), (.hnd (List.Mem.tail _ (List.Mem.head _)) rfl (im_flat bcl_im x13_0.has)), (.hnd (List.Mem.tail _ (List.Mem.tail _ (List.Mem.head _))) rfl (im_flat icl_im x13_0.last)), trivial⟩) rfl, .rfl' rfl, trivial⟩)
 ·have h := cond_f hb h
  refine Tri.skip ?_
  refine Tr ?_
  refine Qe 2 rfl ?_
  obtain ⟨x22, hc_2, h⟩ := bind_some h
  refine Qlf [3125001] [(20260000, .arr 3 1 (x22.map icl))] [20260000] rfl rfl rfl (args := [.hnd 3125001]) (args' := [.lst 1 (x13_0.long.map icl)]) (r := .hnd 20260000) (calv rfl rfl fnok_85 rfl) ⟨.hnd (List.Mem.head _) rfl (im_flat icl_im x13_0.long), trivial⟩ (f85_fr hc_2) rfl rfl rfl (by first | rfl | (simp only [List.all_cons, List.all_nil, AO.solid, Bool.and_true, Bool.and_self, solid_flat (cl := icl) (fun _ => rfl)])) rfl rfl (by first | rfl | (exact freshB_mk (by first | rfl | simp [menT, menO, AO.men, AV.men, menL, ifc_men hgr0.o]) rfl (by first | rfl | simp [menT, menO, AO.men, AV.men, menL, ifc_men hgr0.o]) rfl) | (simp [menT, menO, AO.men, AV.men, menL, ifc_men hgr0.o]; done) | ((simp only [List.all_cons, List.all_nil, Bool.and_true, Bool.and_eq_true]); and_intros <;> exact freshB_mk (by first | rfl | simp [menT, menO, AO.men, AV.men, menL, ifc_men hgr0.o]) rfl (by first | rfl | simp [menT, menO, AO.men, AV.men, menL, ifc_men hgr0.o]) rfl)) rfl ?_
  refine Qd rfl ?_
  refine Tri.seq ?_
  refine Tr ?_
  refine Qe 1 rfl ?_
  refine Q1 rfl rfl rfl (Ax.lnh (cl := icl) rfl slc_26 rfl rfl) ?_
  refine Qd rfl ?_
  obtain ⟨vo7_1, hj, h⟩ := bind_some h
  refine Tri.rngNv hj (fun p => ⟨[(3, .ptr 3 0), (5, .ptr 5 0), (7, .hnd 20260000), (24, Ai (x22.length : Int)), (25, Ai p.1)], [(3, some (.box (Tree_diffs.cl (⟨([] : List Int), ([] : List Bool), ([] : List Int)⟩ : Tree_diffs)))), (3125001, some (.arr 3 1 (x13_0.long.map icl))), (3125002, some (.arr 4 1 (x13_0.has.map bcl))), (3125003, some (.arr 3 1 (x13_0.last.map icl))), (5, some (.box [.hnd 3125001, .hnd 3125002, .hnd 3125003])), (20260000, some (.arr 3 1 (p.2.map icl)))]⟩) (fun (y : List Int) => ⟨[(3, .ptr 3 0), (5, .ptr 5 0), (7, .hnd 20260000)], [(3, some (.box (Tree_diffs.cl (⟨([] : List Int), ([] : List Bool), ([] : List Int)⟩ : Tree_diffs)))), (3125001, some (.arr 3 1 (x13_0.long.map icl))), (3125002, some (.arr 4 1 (x13_0.has.map bcl))), (3125003, some (.arr 3 1 (x13_0.last.map icl))), (5, some (.box [.hnd 3125001, .hnd 3125002, .hnd 3125003])), (20260000, some (.arr 3 1 (y.map icl)))]⟩) (Ee [3, 3125001, 3125002, 3125003, 5, 20260000] rfl ⟨imf icl_im, imf bcl_im, imf icl_im, imf icl_im, trivial⟩) ?_ ?_ ?_
  ·refine Tri.seq ?_
   refine Tri.drawn [[], [], [0], [0, 1, 2], []] hmix (by kernel_rfl) ?_
   refine Qe 3 rfl ?_
   refine Qs rfl rfl (x := some (.box [.hnd 3125001, .hnd 3125002, .hnd 3125003])) (Ax.st_box rfl siz_318 rfl rfl rfl rfl rfl rfl rfl) ?_
   refine Qe 1 rfl ?_
   refine RunD.done ⟨by kernel_rfl, freshL_of [] (by kernel_rfl) (by kernel_rfl), ?_⟩
   refine Tri.ret ?_
   refine RetQ.eq2 (fun r => .tup [.lst 1 (r.1.map icl), .agg (Tree_diffs.cl r.2.1), Ai r.2.2]) (fun r => []) (Option.some.inj h) ?_
   exact RetQ.mk (vs := [.hnd 20260000, .agg [.hnd 3125001, .hnd 3125002, .hnd 3125003], Ai (-1)]) (.inr rfl) ⟨_, _, rfl, .tmp rfl, ⟨_, _, rfl, .cell_box rfl siz_318 rfl rfl rfl, ⟨_, _, rfl, .tmp rfl, rfl⟩⟩⟩ [20260000, 3125001, 3125002, 3125003] [] rfl rfl trivial (.tupV ⟨.frz (.hnd (List.Mem.head _) rfl (im_flat icl_im vo7_1)) rfl, .frz (.aggV ⟨(.hnd (List.Mem.tail _ (List.Mem.head _)) rfl (im_flat icl_im x13_0.long)), (.hnd (List.Mem.tail _ (List.Mem.tail _ (List.Mem.head _))) rfl (im_flat bcl_im x13_0.has)), (.hnd (List.Mem.tail _ (List.Mem.tail _ (List.Mem.tail _ (List.Mem.head _)))) rfl (im_flat icl_im x13_0.last)), trivial⟩) rfl, .rfl' rfl, trivial⟩)
  ·rintro v25 vo7 hi _ h
   refine Tp rfl ?_
   refine Tri.seq ?_
   refine Tri.cond (b := (decide (v25 < (x22.length : Int)))) rfl (fun hb_1 => ?_) (fun hb_1 => ?_)
   ·exact (lt_f hi hb_1).elim
   ·refine Tri.exit ?_
    exact Exists.intro vo7 (And.intro h (Ee [3, 3125001, 3125002, 3125003, 5, 20260000] rfl ⟨imf icl_im, imf bcl_im, imf icl_im, imf icl_im, trivial⟩))
  ·rintro nx v25 vo7 _ hi hw h
   refine Tp rfl ?_
   refine Tri.seq ?_
   refine Tri.cond (b := (decide (v25 < (x22.length : Int)))) rfl (fun hb_2 => ?_) (fun hb_2 => ?_)
   ·refine Tri.skip ?_
    refine Tri.seq ?_
    refine Tri.block ?_
    refine Tp rfl ?_
    refine Tri.drawn [[], [], [0, 1], [0, 1, 2], [], [4], [4, 5], [4, 5, 6], [0, 1, 2, 3, 4, 5, 6, 7], [0, 1, 2, 3, 4, 5, 6, 7, 8], [0, 1, 2, 3, 4, 5, 6, 7, 8, 9]] hmix (by kernel_rfl) ?_
    refine Qe 2 rfl ?_
    obtain ⟨y, hy, h⟩ := bind_some h
    refine Q1 rfl rfl rfl (Ax.ixh (cl := icl) rfl slc_26 rfl rfl rfl hy) ?_
    refine Q1 rfl rfl rfl (Ax.l1_arr (cl := icl) rfl siz_3 rfl rfl hy rfl) ?_
    refine Qe 2 rfl ?_
    obtain ⟨y_1, hy_1, h⟩ := bind_some h
    refine Q1 rfl rfl rfl (Ax.ixh (cl := icl) rfl slc_26 rfl rfl rfl hy_1) ?_
    refine Q1 rfl rfl rfl (Ax.l1_arr (cl := icl) rfl siz_3 rfl rfl hy_1 rfl) ?_
    refine Qe 1 rfl ?_
    refine Q1 rfl rfl rfl (Ax.ixh (cl := icl) rfl slc_26 rfl rfl rfl hy) ?_
    refine Qs rfl rfl (x := some (.arr 3 1 ((vo7.set (Int.toNat v25) (W (y - y_1))).map icl))) (Ax.st_arr (cl := icl) (q := (W (y - y_1))) rfl siz_3 rfl rfl hy rfl rfl rfl rfl rfl rfl) ?_
    refine RunD.done ⟨by kernel_rfl, freshL_of [] (by kernel_rfl) (by kernel_rfl), ?_⟩
    refine Tq rfl ?_
    exact Exists.intro (v25 + 1, (vo7.set (Int.toNat v25) (W (y - y_1)))) (And.intro (And.intro rfl h) (Es [3, 3125001, 3125002, 3125003, 5, 20260000] [25] rfl ⟨imf icl_im, imf bcl_im, imf icl_im, imf icl_im, trivial⟩ ⟨.imm (Sub.of_eq (show Ai (v25 + 1) = Ai (W (v25 + 1)) from congrArg Ai hw.symm)) rfl, trivial⟩))
   ·exact (lt_t hi hb_2).elim
theorem f386_ok {K : Nat} {a0 : Plain_diffs} {r : List Diff} (h : f386 K a0 = some r) : CallOK Tryz.prog 386 [.agg (Plain_diffs.cl a0)] [] (.lst 3 (r.map Diff.cl)) [] := by
 refine CallOK.of_tri Tryz.func386 rfl rfl (Nat.le_of_ble_eq_true rfl) ?_
 unfold f386 at h
 refine Tr ?_
 refine Qe 1 rfl ?_
 refine Q1 rfl rfl rfl (v := .lst 3 (([] : List Diff).map Diff.cl)) (Ax.nl 3 rfl rfl) ?_
 refine RunD.done ?_
 refine Tp rfl ?_
 refine Tri.ret ?_
 refine Rr (fun r => .lst 3 (r.map Diff.cl)) (fun r => []) [] h ?_ trivial
 rfl
theorem f387_ok {K : Nat} {a0 : Plain_diffs} {r : Int} (h : f387 K a0 = some r) : CallOK Tryz.prog 387 [.agg (Plain_diffs.cl a0)] [] (Ai r) [] := by
 refine CallOK.of_tri Tryz.func387 rfl rfl (Nat.le_of_ble_eq_true rfl) ?_
 unfold f387 at h
 refine Tp rfl ?_
 refine Tp rfl ?_
 refine Tri.ret ?_
 exact Ri h rfl
theorem f288_fr {K : Nat} {a0 : Net} {a1 : Int} {r : Tree_diffs × Int} (h : f288 K a0 a1 = some r) : CallOK Tryz.prog 288 [.agg (Net.cl a0), Ai a1] [] (.tup [.agg [.hnd 2895001, .lst 1 (r.1.has.map bcl), .lst 1 (r.1.last.map icl)], Ai r.2]) [(2895001, .arr 3 1 (r.1.long.map icl))] := by
 refine CallOK.of_tri Tryz.func288 rfl rfl (Nat.le_of_ble_eq_true rfl) ?_
 unfold f288 at h
 refine Tr ?_
 refine Qe 1 rfl ?_
 refine Qn rfl rfl rfl (v := .ptr 4 0) (x := some (.box [.sc (.slice none 0 0), .lst 1 (([] : List Bool).map bcl), .lst 1 (([] : List Int).map icl)])) (Ax.alloc rfl rfl zer_318 rfl ⟨Sub.refl _, Sub.nil _, Sub.nil _, trivial⟩) rfl rfl rfl rfl rfl ?_
 refine Qd rfl ?_
 refine Tri.ent (Ent.ghost 4 0 900000400 3 1 (cells' := [.hnd 900000400, .lst 1 (([] : List Bool).map bcl), .lst 1 (([] : List Int).map icl)]) rfl rfl rfl rfl) ?_
 refine Tri.seq ?_
 refine Tr ?_
 refine Qe 1 rfl ?_
 refine Q1 rfl rfl rfl (v := .agg (Plain_diffs.cl (⟨a0⟩ : Plain_diffs))) (Ax.build rfl zer_322 (bld plc_322 zer_322) rfl ⟨Sub.refl _, Sub.refl _, trivial⟩) ?_
 refine Q1 rfl rfl rfl (v := .ifc 322 (.agg (Plain_diffs.cl (⟨a0⟩ : Plain_diffs)))) (Ax.ifc' rfl nif_322 rfl) ?_
 obtain ⟨⟨x15_0, x15_1, x15_2⟩, hc, h⟩ := bind_some h
 refine Qc rfl rfl rfl (args := [.ifc 322 (.fz (.agg (Plain_diffs.cl (⟨a0⟩ : Plain_diffs))))]) (r := .tup [.lst 1 (x15_0.map icl), .agg (Tree_diffs.cl x15_1), Ai x15_2]) (calw rfl rfl fnok_251 ⟨Sub.fz rfl, trivial⟩) (f251_ok ⟨⟨386, fnok_386, meth_322_386, fun _ hr => (f386_ok (K := K) hr).fz1⟩, ⟨387, fnok_387, meth_322_387, fun _ hr => (f387_ok (K := K) hr).fz1⟩, rfl, rfl⟩ hc) rfl ?_
 refine Qe 4 rfl ?_
 refine Qn rfl rfl rfl (v := .ptr 7 0) (x := some (.box (Tree_diffs.cl (⟨([] : List Int), ([] : List Bool), ([] : List Int)⟩ : Tree_diffs)))) (Ax.alloc rfl rfl zer_318 rfl ⟨Sub.nil _, Sub.nil _, Sub.nil _, trivial⟩) rfl rfl rfl rfl rfl ?_
 refine Qe 1 rfl ?_
 refine Qs rfl rfl (x := some (.box (Tree_diffs.cl x15_1))) (Ax.st_box rfl siz_318 rfl rfl rfl rfl rfl rfl rfl) ?_
 refine Qd rfl ?_
 refine Tp rfl ?_
 refine Tri.cond (b := (decide (x15_2 ≥ 0))) rfl (fun hb => ?_) (fun hb => ?_)
 ·have h := cond_t hb h
  refine Tr ?_
  refine Q1 rfl rfl rfl (v := .agg [.sc (.slice none 0 0), .lst 1 (([] : List Bool).map bcl), .lst 1 (([] : List Int).map icl)]) (Ax.build rfl zer_318 (bld plc_318 zer_318) rfl ⟨Sub.refl _, Sub.nil _, Sub.nil _, trivial⟩) ?_
  refine Qs rfl rfl (x := some (.box [.sc (.slice none 0 0), .lst 1 (([] : List Bool).map bcl), .lst 1 (([] : List Int).map icl)])) (Ax.st_box rfl siz_318 rfl rfl rfl rfl rfl rfl rfl) ?_
  refine Qd rfl ?_
  refine Tri.ent (Ent.ghost 4 0 901000400 3 1 (cells' := [.hnd 901000400, .lst 1 (([] : List Bool).map bcl), .lst 1 (([] : List Int).map icl)]) rfl rfl rfl rfl) ?_
  refine Tri.ret ?_
  refine Rr (fun r => .tup [.agg [.hnd 2895001, .lst 1 (r.1.has.map bcl), .lst 1 (r.1.last.map icl)], Ai r.2]) (fun r => [(2895001, .arr 3 1 (r.1.long.map icl))]) [901000400] h ?_ ?_
  ·rfl
  exact ⟨im_flat icl_im ([] : List Int), trivial⟩
 ·have h := cond_f hb h
  refine Tri.skip ?_
  refine Tr ?_
  refine Qe 1 rfl ?_
  refine Q1 rfl rfl rfl (v := .agg (Plain_diffs.cl (⟨a0⟩ : Plain_diffs))) (Ax.build rfl zer_322 (bld plc_322 zer_322) rfl ⟨Sub.refl _, Sub.refl _, trivial⟩) ?_
  refine Q1 rfl rfl rfl (v := .ifc 322 (.agg (Plain_diffs.cl (⟨a0⟩ : Plain_diffs)))) (Ax.ifc' rfl nif_322 rfl) ?_
  refine Qe 1 rfl ?_
  refine Q1 rfl rfl rfl (v := .lst 1 (([a1] : List Int).map icl)) (Ax.sl (xs := ([a1] : List Int)) rfl slc_26 rfl rfl ⟨Sub.refl _, trivial⟩ rfl icl_len icl_one icl_im) ?_
  obtain ⟨⟨x28_0, x28_1⟩, hc_1, h⟩ := bind_some h
  refine Qo [] [(3125001, .arr 3 1 (x28_0.long.map icl)), (3125002, .arr 4 1 (x28_0.has.map bcl)), (3125003, .arr 3 1 (x28_0.last.map icl))] [3125001, 3125002, 3125003] rfl rfl rfl (args := [.ifc 322 (.fz (.agg (Plain_diffs.cl (⟨a0⟩ : Plain_diffs)))), .lst 1 (([a1] : List Int).map icl)]) (r := .tup [.agg [.hnd 3125001, .hnd 3125002, .hnd 3125003], Ai x28_1]) (calw rfl rfl fnok_311 ⟨Sub.fz rfl, Sub.refl _, trivial⟩) (f311_fr ⟨⟨386, fnok_386, meth_322_386, fun _ hr => (f386_ok (K := K) hr).fz1⟩, ⟨387, fnok_387, meth_322_387, fun _ hr => (f387_ok (K := K) hr).fz1⟩, rfl, rfl⟩ hc_1) trivial rfl rfl rfl rfl rfl ?_
  refine Qe 3 rfl ?_
  refine Qn rfl rfl rfl (v := .ptr 9 0) (x := some (.box [.sc (.slice none 0 0), .lst 1 (([] : List Bool).map bcl), .lst 1 (([] : List Int).map icl)])) (Ax.alloc rfl rfl zer_318 rfl ⟨Sub.refl _, Sub.nil _, Sub.nil _, trivial⟩) rfl rfl rfl rfl rfl ?_
  refine Qs rfl rfl (x := some (.box [.hnd 3125001, .hnd 3125002, .hnd 3125003])) (Ax.st_box rfl siz_318 rfl rfl rfl rfl rfl rfl rfl) ?_
  refine Qd rfl ?_
  refine Tr ?_
  refine Qe 1 rfl ?_
  refine Qs rfl rfl (x := some (.box [.hnd 3125001, .hnd 3125002, .hnd 3125003])) (Ax.st_box rfl siz_318 rfl rfl rfl rfl rfl rfl rfl) ?_
  refine Qd rfl ?_
  refine Tri.ret ?_
  refine RetQ.eq2 (fun r => .tup [.agg [.hnd 2895001, .lst 1 (r.1.has.map bcl), .lst 1 (r.1.last.map icl)], Ai r.2]) (fun r => [(2895001, .arr 3 1 (r.1.long.map icl))]) (Option.some.inj h) ?_
  exact RetQ.mk (vs := [.agg [.hnd 3125001, .hnd 3125002, .hnd 3125003], Ai 0]) (.inr rfl) ⟨_, _, rfl, .cell_box rfl siz_318 rfl rfl rfl, ⟨_, _, rfl, .tmp rfl, rfl⟩⟩ [3125002, 3125003] [(2895001, 3125001, .arr 3 1 (x28_0.long.map icl))] rfl rfl ⟨⟨_, rfl, .arr (im_flat icl_im x28_0.long)⟩, trivial⟩ (.tupV ⟨.aggV ⟨.hnd (List.Mem.head _), .frz (.hnd (List.Mem.head _) rfl (im_flat bcl_im x28_0.has)) rfl, .frz (.hnd (List.Mem.tail _ (List.Mem.head _)) rfl (im_flat icl_im x28_0.last)) rfl, trivial⟩, .rfl' rfl, trivial⟩)
theorem f228_ok {K : Nat} {a0 : Net} {r : List Int × Int} (h : f228 K a0 = some r) : CallOK Tryz.prog 228 [.agg (Net.cl a0)] [] (.tup [.lst 1 (r.1.map icl), Ai r.2]) [] := by
 refine CallOK.of_tri Tryz.func228 rfl rfl (Nat.le_of_ble_eq_true rfl) ?_
 unfold f228 at h
 refine Tr ?_
 refine Qe 1 rfl ?_
 refine Qn rfl rfl rfl (v := .hnd 2) (x := some (.arr 3 1 (([] : List Int).map icl))) (Ax.nil_new 3 1 (.inr rfl) rfl) rfl rfl rfl rfl rfl ?_
 refine Qd rfl ?_
 refine Tr ?_
 refine Qe 1 rfl ?_
 obtain ⟨⟨x8_0, x8_1⟩, hc, h⟩ := bind_some h
 refine Qo [] [(2895001, .arr 3 1 (x8_0.long.map icl))] [2895001] rfl rfl rfl (args := [.agg (Net.cl a0), Ai 0]) (r := .tup [.agg [.hnd 2895001, .lst 1 (x8_0.has.map bcl), .lst 1 (x8_0.last.map icl)], Ai x8_1]) (calv rfl rfl fnok_288 rfl) (f288_fr hc) trivial rfl rfl rfl rfl rfl ?_
 refine Qe 3 rfl ?_
 refine Qn rfl rfl rfl (v := .ptr 4 0) (x := some (.box [.sc (.slice none 0 0), .lst 1 (([] : List Bool).map bcl), .lst 1 (([] : List Int).map icl)])) (Ax.alloc rfl rfl zer_318 rfl ⟨Sub.refl _, Sub.nil _, Sub.nil _, trivial⟩) rfl rfl rfl rfl rfl ?_
 refine Qs rfl rfl (x := some (.box [.hnd 2895001, .lst 1 (x8_0.has.map bcl), .lst 1 (x8_0.last.map icl)])) (Ax.st_box rfl siz_318 rfl rfl rfl rfl rfl rfl rfl) ?_
 refine Qd rfl ?_
 refine Tri.seq ?_
 refine Tp rfl ?_
 refine Tri.cond (b := (x8_1 != 0)) rfl (fun hb => ?_) (fun hb => ?_)
 ·have h := cond_t hb h
  refine Tr ?_
  refine Qe 1 rfl ?_
  refine Qn rfl rfl rfl (v := .hnd 600000002) (x := some (.arr 3 1 (([] : List Int).map icl))) (Ax.nil_new 3 1 (.inr rfl) rfl) rfl rfl rfl rfl rfl ?_
  refine Qd rfl ?_
  refine Tri.ret ?_
  refine RetQ.eq2 (fun r => .tup [.lst 1 (r.1.map icl), Ai r.2]) (fun r => []) (Option.some.inj h) ?_
  exact RetQ.mk (vs := [.hnd 600000002, Ai x8_1]) (.inr rfl) ⟨_, _, rfl, .tmp rfl, ⟨_, _, rfl, .tmp rfl, rfl⟩⟩ [600000002] [] rfl rfl trivial (.tupV ⟨.frz (.hnd (List.Mem.head _) rfl (im_flat icl_im ([] : List Int))) rfl, .rfl' rfl, trivial⟩)
 ·have h := cond_f hb h
  refine Tri.skip ?_
  refine Tri.seq ?_
  refine Tr ?_
  refine Qe 2 rfl ?_
  obtain ⟨x16, hc_1, h⟩ := bind_some h
  refine Qc rfl rfl rfl (args := [.lst 1 (x8_0.has.map bcl), Ab false]) (r := Ab x16) (calv rfl rfl fnok_297 rfl) (f297_ok hc_1) rfl ?_
  refine RunD.done ?_
  refine Tri.cond (b := x16) rfl (fun hb_1 => ?_) (fun hb_1 => ?_)
  ·have h := cond_t hb_1 h
   refine Tr ?_
   refine Qn rfl rfl rfl (v := .hnd 600010002) (x := some (.arr 3 1 (([] : List Int).map icl))) (Ax.nil_new 3 1 (.inr rfl) rfl) rfl rfl rfl rfl rfl ?_
   refine Qd rfl ?_
   refine Tri.ret ?_
   refine RetQ.eq2 (fun r => .tup [.lst 1 (r.1.map icl), Ai r.2]) (fun r => []) (Option.some.inj h) ?_
   exact RetQ.mk (vs := [.hnd 600010002, Ai 42]) (.inr rfl) ⟨_, _, rfl, .tmp rfl, ⟨_, _, rfl, .tmp rfl, rfl⟩⟩ [600010002] [] rfl rfl trivial (.tupV ⟨.frz (.hnd (List.Mem.head _) rfl (im_flat icl_im ([] : List Int))) rfl, .rfl' rfl, trivial⟩)
  ·have h := cond_f hb_1 h
   refine Tri.skip ?_
   refine Tp rfl ?_
   refine Tri.ret ?_
   refine RetQ.eq2 (fun r => .tup [.lst 1 (r.1.map icl), Ai r.2]) (fun r => []) (Option.some.inj h) ?_
   exact RetQ.mk (vs := [.hnd 2895001, Ai 0]) (.inr rfl) ⟨_, _, rfl, .tmp rfl, ⟨_, _, rfl, .tmp rfl, rfl⟩⟩ [2895001] [] rfl rfl trivial (.tupV ⟨.frz (.hnd (List.Mem.head _) rfl (im_flat icl_im x8_0.long)) rfl, .rfl' rfl, trivial⟩)
theorem f228_fr {K : Nat} {a0 : Net} {r : List Int × Int} (h : f228 K a0 = some r) : CallOK Tryz.prog 228 [.agg (Net.cl a0)] [] (.tup [.hnd 2295000, Ai r.2]) [(2295000, .arr 3 1 (r.1.map icl))] := by
 refine CallOK.of_tri Tryz.func228 rfl rfl (Nat.le_of_ble_eq_true rfl) ?_
 unfold f228 at h
 refine Tr ?_
 refine Qe 1 rfl ?_
 refine Qn rfl rfl rfl (v := .hnd 2) (x := some (.arr 3 1 (([] : List Int).map icl))) (Ax.nil_new 3 1 (.inr rfl) rfl) rfl rfl rfl rfl rfl ?_
 refine Qd rfl ?_
 refine Tr ?_
 refine Qe 1 rfl ?_
 obtain ⟨⟨x8_0, x8_1⟩, hc, h⟩ := bind_some h
 refine Qo [] [(2895001, .arr 3 1 (x8_0.long.map icl))] [2895001] rfl rfl rfl (args := [.agg (Net.cl a0), Ai 0]) (r := .tup [.agg [.hnd 2895001, .lst 1 (x8_0.has.map bcl), .lst 1 (x8_0.last.map icl)], Ai x8_1]) (calv rfl rfl fnok_288 rfl) (f288_fr hc) trivial rfl rfl rfl rfl rfl ?_
 refine Qe 3 rfl ?_
 refine Qn rfl rfl rfl (v := .ptr 4 0) (x := some (.box [.sc (.slice none 0 0), .lst 1 (([] : List Bool).map bcl), .lst 1 (([] : List Int).map icl)])) (Ax.alloc rfl rfl zer_318 rfl ⟨Sub.refl _, Sub.nil _, Sub.nil _, trivial⟩) rfl rfl rfl rfl rfl ?_
 refine Qs rfl rfl (x := some (.box [.hnd 2895001, .lst 1 (x8_0.has.map bcl), .lst 1 (x8_0.last.map icl)])) (Ax.st_box rfl siz_318 rfl rfl rfl rfl rfl rfl rfl) ?_
 refine Qd rfl ?_
 refine Tri.seq ?_
 refine Tp rfl ?_
 refine Tri.cond (b := (x8_1 != 0)) rfl (fun hb => ?_) (fun hb => ?_)
 ·have h := cond_t hb h
  refine Tr ?_
  refine Qe 1 rfl ?_
  refine Qn rfl rfl rfl (v := .hnd 600000002) (x := some (.arr 3 1 (([] : List Int).map icl))) (Ax.nil_new 3 1 (.inr rfl) rfl) rfl rfl rfl rfl rfl ?_
  refine Qd rfl ?_
  refine Tri.ret ?_
  refine Rr (fun r => .tup [.hnd 2295000, Ai r.2]) (fun r => [(2295000, .arr 3 1 (r.1.map icl))]) [600000002] h ?_ ?_
  ·rfl
  exact ⟨im_flat icl_im ([] : List Int), trivial⟩
 ·have h := cond_f hb h
  refine Tri.skip ?_
  refine Tri.seq ?_
  refine Tr ?_
  refine Qe 2 rfl ?_
  obtain ⟨x16, hc_1, h⟩ := bind_some h
  refine Qc rfl rfl rfl (args := [.lst 1 (x8_0.has.map bcl), Ab false]) (r := Ab x16) (calv rfl rfl fnok_297 rfl) (f297_ok hc_1) rfl ?_
  refine RunD.done ?_
  refine Tri.cond (b := x16) rfl (fun hb_1 => ?_) (fun hb_1 => ?_)
  ·have h := cond_t hb_1 h
   refine Tr ?_
   refine Qn rfl rfl rfl (v := .hnd 600010002) (x := some (.arr 3 1 (([] : List Int).map icl))) (Ax.nil_new 3 1 (.inr rfl) rfl) rfl rfl rfl rfl rfl ?_
   refine Qd rfl ?_
   refine Tri.ret ?_
   refine Rr (fun r => .tup [.hnd 2295000, Ai r.2]) (fun r => [(2295000, .arr 3 1 (r.1.map icl))]) [600010002] h ?_ ?_
   ·rfl
   exact ⟨im_flat icl_im ([] : List Int), trivial⟩
  ·have h := cond_f hb_1 h
   refine Tri.skip ?_
   refine Tp rfl ?_
   refine Tri.ret ?_
   refine Rr (fun r => .tup [.hnd 2295000, Ai r.2]) (fun r => [(2295000, .arr 3 1 (r.1.map icl))]) [2895001] h ?_ ?_
   ·rfl
   exact ⟨imf icl_im, trivial⟩
theorem f108_ok {K : Nat} {a0 : Net} {r : List Int × Int} (h : f108 K a0 = some r) : CallOK Tryz.prog 108 [.agg (Net.cl a0)] [] (.tup [.lst 1 (r.1.map icl), Ai r.2]) [] := by
 refine CallOK.of_tri Tryz.func108 rfl rfl (Nat.le_of_ble_eq_true rfl) ?_
 unfold f108 at h
 refine Tr ?_
 refine Qe 1 rfl ?_
 refine Q1 rfl rfl rfl (v := .lst 1 (([] : List Int).map icl)) (Ax.nl 1 rfl rfl) ?_
 refine Qd rfl ?_
 refine Tri.seq ?_
 refine Tr ?_
 refine Qe 1 rfl ?_
 obtain ⟨x6, hc, h⟩ := bind_some h
 refine Qc rfl rfl rfl (args := [.agg (Net.cl a0)]) (r := Ai x6) (calv rfl rfl fnok_227 rfl) (f227_ok hc) rfl ?_
 refine Qd rfl ?_
 refine Tp rfl ?_
 refine Tri.cond (b := (x6 != 0)) rfl (fun hb => ?_) (fun hb => ?_)
 ·have h := cond_t hb h
  refine Tr ?_
  refine Qe 1 rfl ?_
  refine Q1 rfl rfl rfl (v := .lst 1 (([] : List Int).map icl)) (Ax.nl 1 rfl rfl) ?_
  refine Qd rfl ?_
  refine Tri.ret ?_
  refine Rr (fun r => .tup [.lst 1 (r.1.map icl), Ai r.2]) (fun r => []) [] h ?_ trivial
  rfl
 ·have h := cond_f hb h
  refine Tri.skip ?_
  refine Tr ?_
  refine Qe 1 rfl ?_
  obtain ⟨⟨x11_0, x11_1⟩, hc_1, h⟩ := bind_some h
  refine Qc rfl rfl rfl (args := [.agg (Net.cl a0)]) (r := .tup [.lst 1 (x11_0.map icl), Ai x11_1]) (calv rfl rfl fnok_228 rfl) (f228_ok hc_1) rfl ?_
  refine Qd rfl ?_
  refine Tri.ret ?_
  refine Rr (fun r => .tup [.lst 1 (r.1.map icl), Ai r.2]) (fun r => []) [] h ?_ trivial
  rfl
theorem f29_ok {K : Nat} {a0 : Scene} {r : List (List Int) × Int} (h : f29 K a0 = some r) : CallOK Tryz.prog 29 [.agg (Scene.cl a0)] [] (.tup [.lst 1 (r.1.map cl26), Ai r.2]) [] := by
 refine CallOK.of_tri Tryz.func29 rfl rfl (Nat.le_of_ble_eq_true rfl) ?_
 unfold f29 at h
 refine Tr ?_
 refine Qe 1 rfl ?_
 refine Q1 rfl rfl rfl (v := .lst 1 (([] : List (List Int)).map cl26)) (Ax.nl 1 rfl rfl) ?_
 refine Qd rfl ?_
 refine Tr ?_
 refine Qe 1 rfl ?_
 obtain ⟨⟨x5_0, x5_1⟩, hc, h⟩ := bind_some h
 refine Qc rfl rfl rfl (args := [.agg (Scene.cl a0), .fn 108 []]) (r := .tup [.lst 1 (x5_0.map cl26), Ai x5_1]) (calv rfl rfl fnok_107 rfl) (f107_ok fnok_108 rfl (fun _ _ hr => f108_ok hr) hc) rfl ?_
 refine Qd rfl ?_
 refine Tri.ret ?_
 refine Rr (fun r => .tup [.lst 1 (r.1.map cl26), Ai r.2]) (fun r => []) [] h ?_ trivial
 rfl
theorem f232_ok {K : Nat} {a0 : Net} {r : Net} (h : f232 K a0 = some r) : CallOK Tryz.prog 232 [.agg (Net.cl a0)] [] (.agg (Net.cl r)) [] := by
 refine CallOK.of_tri Tryz.func232 rfl rfl (Nat.le_of_ble_eq_true rfl) ?_
 unfold f232 at h
 refine Tr ?_
 refine Qe 1 rfl ?_
 refine Qn rfl rfl rfl (v := .ptr 2 0) (x := some (.box (Net.cl (⟨0, ([] : List Diff)⟩ : Net)))) (Ax.alloc rfl rfl zer_34 rfl ⟨Sub.refl _, Sub.nil _, trivial⟩) rfl rfl rfl rfl rfl ?_
 refine RunD.done ?_
 refine Tr ?_
 refine Qe 2 rfl ?_
 refine Q1 rfl rfl rfl (v := .agg [Ai a0.Nodes, .sc (.slice none 0 0)]) (Ax.build rfl zer_34 (bld plc_34 zer_34) rfl ⟨Sub.refl _, Sub.refl _, trivial⟩) ?_
 refine Qn rfl rfl rfl (v := .ptr 3 0) (x := some (.box [Ai 0, .sc (.slice none 0 0)])) (Ax.alloc rfl rfl zer_34 rfl ⟨Sub.refl _, Sub.refl _, trivial⟩) rfl rfl rfl rfl rfl ?_
 refine Qs rfl rfl (x := some (.box [Ai a0.Nodes, .sc (.slice none 0 0)])) (Ax.st_box rfl siz_34 rfl rfl rfl rfl rfl rfl rfl) ?_
 refine RunD.done ?_
 refine Tri.ent (Ent.ghost 3 1 900000301 174 3 (cells' := [Ai a0.Nodes, .hnd 900000301]) rfl rfl rfl rfl) ?_
 refine Tri.seq ?_
 refine Tr ?_
 refine Qe 2 rfl ?_
 refine Q1 rfl rfl rfl (Ax.ln (cl := Diff.cl) rfl slc_32 rfl) ?_
 refine Qd rfl ?_
 obtain ⟨voo3_1_1, hj, h⟩ := bind_some h
 refine Tri.rngLv hj (fun p => ⟨[(2, .ptr 2 0), (3, .ptr 3 0), (10, .lst 3 (a0.Diffs.map Diff.cl)), (11, Ai (a0.Diffs.length : Int)), (12, Ai p.1)], [(2, some (.box (Net.cl (⟨0, ([] : List Diff)⟩ : Net)))), (900000301, some (.arr 174 3 (p.2.map Diff.cl))), (3, some (.box [Ai a0.Nodes, .hnd 900000301]))]⟩) (fun (y : List Diff) => ⟨[(2, .ptr 2 0), (3, .ptr 3 0)], [(2, some (.box (Net.cl (⟨0, ([] : List Diff)⟩ : Net)))), (900000301, some (.arr 174 3 (y.map Diff.cl))), (3, some (.box [Ai a0.Nodes, .hnd 900000301]))]⟩) (Ee [2, 900000301, 3] rfl ⟨im_flat Diff_im ([] : List Diff), trivial⟩) ?_ ?_ ?_
 ·refine Tr ?_
  refine Qe 1 rfl ?_
  refine Qs rfl rfl (x := some (.box [Ai a0.Nodes, .hnd 900000301])) (Ax.st_box rfl siz_34 rfl rfl rfl rfl rfl rfl rfl) ?_
  refine RunD.done ?_
  refine Tri.ret ?_
  refine RetQ.eq2 (fun r => .agg (Net.cl r)) (fun r => []) (Option.some.inj h) ?_
  exact RetQ.mk (vs := [.agg [Ai a0.Nodes, .hnd 900000301]]) (.inr rfl) ⟨_, _, rfl, .cell_box rfl siz_34 rfl rfl rfl, rfl⟩ [900000301] [] rfl rfl trivial (.frz (.aggV ⟨(.imm rfl), (.hnd (List.Mem.head _) rfl (im_flat Diff_im voo3_1_1)), trivial⟩) rfl)
 ·rintro v12 voo3_1 hi h
  refine Tp rfl ?_
  refine Tri.seq ?_
  refine Tri.cond (b := (decide (v12 < (a0.Diffs.length : Int)))) rfl (fun hb => ?_) (fun hb => ?_)
  ·exact (lt_f hi hb).elim
  ·refine Tri.exit ?_
   exact Exists.intro voo3_1 (And.intro h (Ee [2, 900000301, 3] rfl ⟨imf Diff_im, trivial⟩))
 ·rintro nx x v12 voo3_1 _ hi hw hx h
  refine Tp rfl ?_
  refine Tri.seq ?_
  refine Tri.cond (b := (decide (v12 < (a0.Diffs.length : Int)))) rfl (fun hb_1 => ?_) (fun hb_1 => ?_)
  ·refine Tri.skip ?_
   refine Tri.seq ?_
   refine Tri.block ?_
   refine Tr ?_
   refine Q1 rfl rfl rfl (Ax.ix (cl := Diff.cl) rfl slc_32 rfl rfl hx) ?_
   refine Qe 1 rfl ?_
   refine Qn rfl rfl rfl (v := .ptr 5 0) (x := some (.box (Diff.cl (⟨0, 0, 0⟩ : Diff)))) (Ax.alloc rfl rfl zer_174 rfl ⟨Sub.refl _, Sub.refl _, Sub.refl _, trivial⟩) rfl rfl rfl rfl rfl ?_
   refine Qs rfl rfl (x := some (.box (Diff.cl x))) (Ax.st_box rfl siz_174 rfl rfl rfl rfl rfl rfl rfl) ?_
   refine RunD.done ?_
   refine Tri.region ?_
   refine Qe 8 rfl ?_
   refine Q1 rfl rfl rfl (v := .agg (Diff.cl (⟨x.To, x.From, x.Most⟩ : Diff))) (Ax.build rfl zer_174 (bld plc_174 zer_174) rfl ⟨Sub.refl _, Sub.refl _, Sub.refl _, trivial⟩) ?_
   refine Q1 rfl rfl rfl (v := .lst 3 (([(⟨x.To, x.From, x.Most⟩ : Diff)] : List Diff).map Diff.cl)) (Ax.sl (xs := ([(⟨x.To, x.From, x.Most⟩ : Diff)] : List Diff)) rfl slc_32 rfl rfl ⟨Sub.refl _, Sub.refl _, Sub.refl _, trivial⟩ rfl Diff_len Diff_one Diff_im) ?_
   obtain ⟨z26, hz, h⟩ := bind_some h
   refine Qa rfl rfl rfl (v := .hnd 26) (x := some (.arr 174 3 (z26.map Diff.cl))) (Ax.app_l (cl := Diff.cl) rfl rfl slc_32 rfl rfl rfl Diff_one Diff_im hz rfl rfl) rfl rfl rfl rfl rfl ?_
   refine Qe 1 rfl ?_
   refine Qs rfl rfl (x := some (.box [Ai a0.Nodes, .hnd 26])) (Ax.st_box rfl siz_32 rfl rfl rfl rfl rfl rfl rfl) ?_
   refine RunD.done ?_
   refine Tq rfl ?_
   exact Exists.intro (v12 + 1, z26) (And.intro (And.intro rfl h) (Es [2, 26, 3] [12] rfl ⟨imf Diff_im, trivial⟩ ⟨.imm (Sub.of_eq (show Ai (v12 + 1) = Ai (W (v12 + 1)) from congrArg Ai hw.symm)) rfl, trivial⟩))
  ·exact (lt_t hi hb_1).elim
theorem f111_ok {K : Nat} {a0 : Net} {r : List Int × Int} (h : f111 K a0 = some r) : CallOK Tryz.prog 111 [.agg (Net.cl a0)] [] (.tup [.lst 1 (r.1.map icl), Ai r.2]) [] := by
 refine CallOK.of_tri Tryz.func111 rfl rfl (Nat.le_of_ble_eq_true rfl) ?_
 unfold f111 at h
 refine Tr ?_
 refine Qe 1 rfl ?_
 refine Q1 rfl rfl rfl (v := .lst 1 (([] : List Int).map icl)) (Ax.nl 1 rfl rfl) ?_
 refine Qd rfl ?_
 refine Tri.seq ?_
 refine Tr ?_
 refine Qe 1 rfl ?_
 obtain ⟨x9, hc, h⟩ := bind_some h
 refine Qc rfl rfl rfl (args := [.agg (Net.cl a0)]) (r := Ai x9) (calv rfl rfl fnok_227 rfl) (f227_ok hc) rfl ?_
 refine Qd rfl ?_
 refine Tp rfl ?_
 refine Tri.cond (b := (x9 != 0)) rfl (fun hb => ?_) (fun hb => ?_)
 ·have h := cond_t hb h
  refine Tr ?_
  refine Qe 1 rfl ?_
  refine Q1 rfl rfl rfl (v := .lst 1 (([] : List Int).map icl)) (Ax.nl 1 rfl rfl) ?_
  refine Qd rfl ?_
  refine Tri.ret ?_
  refine Rr (fun r => .tup [.lst 1 (r.1.map icl), Ai r.2]) (fun r => []) [] h ?_ trivial
  rfl
 ·have h := cond_f hb h
  refine Tri.skip ?_
  refine Tr ?_
  refine Qe 1 rfl ?_
  obtain ⟨x15, hc_1, h⟩ := bind_some h
  refine Qc rfl rfl rfl (args := [.agg (Net.cl a0)]) (r := .agg (Net.cl x15)) (calv rfl rfl fnok_232 rfl) (f232_ok hc_1) rfl ?_
  obtain ⟨⟨x16_0, x16_1⟩, hc_2, h⟩ := bind_some h
  refine Qo [] [(2295000, .arr 3 1 (x16_0.map icl))] [2295000] rfl rfl rfl (args := [.agg (Net.cl x15)]) (r := .tup [.hnd 2295000, Ai x16_1]) (calv rfl rfl fnok_228 rfl) (f228_fr hc_2) trivial rfl rfl rfl rfl rfl ?_
  refine Qd rfl ?_
  refine Tri.seq ?_
  refine Tr ?_
  refine Qe 1 rfl ?_
  refine Q1 rfl rfl rfl (Ax.lnh (cl := icl) rfl slc_26 rfl rfl) ?_
  refine Qd rfl ?_
  obtain ⟨vo5_1, hj, h⟩ := bind_some h
  refine Tri.rngNv hj (fun p => ⟨[(5, .hnd 2295000), (6, Ai x16_1), (20, Ai (x16_0.length : Int)), (21, Ai p.1)], [(2295000, some (.arr 3 1 (p.2.map icl)))]⟩) (fun (y : List Int) => ⟨[(5, .hnd 2295000), (6, Ai x16_1)], [(2295000, some (.arr 3 1 (y.map icl)))]⟩) (Ee [2295000] rfl ⟨imf icl_im, trivial⟩) ?_ ?_ ?_
  ·refine Tp rfl ?_
   refine Tri.ret ?_
   refine RetQ.eq2 (fun r => .tup [.lst 1 (r.1.map icl), Ai r.2]) (fun r => []) (Option.some.inj h) ?_
   exact RetQ.mk (vs := [.hnd 2295000, Ai x16_1]) (.inr rfl) ⟨_, _, rfl, .tmp rfl, ⟨_, _, rfl, .tmp rfl, rfl⟩⟩ [2295000] [] rfl rfl trivial (.tupV ⟨.frz (.hnd (List.Mem.head _) rfl (im_flat icl_im vo5_1)) rfl, .rfl' rfl, trivial⟩)
  ·rintro v21 vo5 hi _ h
   refine Tp rfl ?_
   refine Tri.seq ?_
   refine Tri.cond (b := (decide (v21 < (x16_0.length : Int)))) rfl (fun hb_1 => ?_) (fun hb_1 => ?_)
   ·exact (lt_f hi hb_1).elim
   ·refine Tri.exit ?_
    exact Exists.intro vo5 (And.intro h (Ee [2295000] rfl ⟨imf icl_im, trivial⟩))
  ·rintro nx v21 vo5 _ hi hw h
   refine Tp rfl ?_
   refine Tri.seq ?_
   refine Tri.cond (b := (decide (v21 < (x16_0.length : Int)))) rfl (fun hb_2 => ?_) (fun hb_2 => ?_)
   ·refine Tri.skip ?_
    refine Tri.seq ?_
    refine Tri.block ?_
    refine Tp rfl ?_
    refine Tri.region ?_
    refine Qe 4 rfl ?_
    obtain ⟨y, hy, h⟩ := bind_some h
    refine Q1 rfl rfl rfl (Ax.ixh (cl := icl) rfl slc_26 rfl rfl rfl hy) ?_
    refine Q1 rfl rfl rfl (Ax.l1_arr (cl := icl) rfl siz_3 rfl rfl hy rfl) ?_
    refine Qe 1 rfl ?_
    refine Q1 rfl rfl rfl (Ax.ixh (cl := icl) rfl slc_26 rfl rfl rfl hy) ?_
    refine Qs rfl rfl (x := some (.arr 3 1 ((vo5.set (Int.toNat v21) (W (-y))).map icl))) (Ax.st_arr (cl := icl) (q := (W (-y))) rfl siz_3 rfl rfl hy rfl rfl rfl rfl rfl rfl) ?_
    refine RunD.done ?_
    refine Tq rfl ?_
    exact Exists.intro (v21 + 1, (vo5.set (Int.toNat v21) (W (-y)))) (And.intro (And.intro rfl h) (Es [2295000] [21] rfl ⟨imf icl_im, trivial⟩ ⟨.imm (Sub.of_eq (show Ai (v21 + 1) = Ai (W (v21 + 1)) from congrArg Ai hw.symm)) rfl, trivial⟩))
   ·exact (lt_t hi hb_2).elim
theorem f31_ok {K : Nat} {a0 : Scene} {r : List (List Int) × Int} (h : f31 K a0 = some r) : CallOK Tryz.prog 31 [.agg (Scene.cl a0)] [] (.tup [.lst 1 (r.1.map cl26), Ai r.2]) [] := by
 refine CallOK.of_tri Tryz.func31 rfl rfl (Nat.le_of_ble_eq_true rfl) ?_
 unfold f31 at h
 refine Tr ?_
 refine Qe 1 rfl ?_
 refine Q1 rfl rfl rfl (v := .lst 1 (([] : List (List Int)).map cl26)) (Ax.nl 1 rfl rfl) ?_
 refine Qd rfl ?_
 refine Tr ?_
 refine Qe 1 rfl ?_
 obtain ⟨⟨x5_0, x5_1⟩, hc, h⟩ := bind_some h
 refine Qc rfl rfl rfl (args := [.agg (Scene.cl a0), .fn 111 []]) (r := .tup [.lst 1 (x5_0.map cl26), Ai x5_1]) (calv rfl rfl fnok_107 rfl) (f107_ok fnok_111 rfl (fun _ _ hr => f111_ok hr) hc) rfl ?_
 refine Qd rfl ?_
 refine Tri.ret ?_
 refine Rr (fun r => .tup [.lst 1 (r.1.map cl26), Ai r.2]) (fun r => []) [] h ?_ trivial
 rfl
theorem f114_ok {K : Nat} {a0 : Scene} {a1 : List Spot_basin} {r : List Span × Int} (h : f114 K a0 a1 = some r) : CallOK Tryz.prog 114 [.agg (Scene.cl a0), .lst 2 (a1.map Spot_basin.cl)] [] (.tup [.lst 2 (r.1.map Span.cl), Ai r.2]) [] := by
 refine CallOK.of_tri Tryz.func114 rfl rfl (Nat.le_of_ble_eq_true rfl) ?_
 unfold f114 at h
 refine Tr ?_
 refine Qe 1 rfl ?_
 refine Q1 rfl rfl rfl (v := .lst 2 (([] : List Span).map Span.cl)) (Ax.nl 2 rfl rfl) ?_
 refine Qd rfl ?_
 refine Tr ?_
 refine Qe 1 rfl ?_
 obtain ⟨⟨x14_0, x14_1⟩, hc, h⟩ := bind_some h
 refine Qc rfl rfl rfl (args := [.agg (Scene.cl a0)]) (r := .tup [.lst 1 (x14_0.map cl26), Ai x14_1]) (calv rfl rfl fnok_31 rfl) (f31_ok hc) rfl ?_
 refine Qd rfl ?_
 refine Tri.seq ?_
 refine Tp rfl ?_
 refine Tri.cond (b := (x14_1 != 0)) rfl (fun hb => ?_) (fun hb => ?_)
 ·have h := cond_t hb h
  refine Tr ?_
  refine Qe 1 rfl ?_
  refine Q1 rfl rfl rfl (v := .lst 2 (([] : List Span).map Span.cl)) (Ax.nl 2 rfl rfl) ?_
  refine Qd rfl ?_
  refine Tri.ret ?_
  refine Rr (fun r => .tup [.lst 2 (r.1.map Span.cl), Ai r.2]) (fun r => []) [] h ?_ trivial
  rfl
 ·have h := cond_f hb h
  refine Tri.skip ?_
  refine Tr ?_
  refine Qe 1 rfl ?_
  obtain ⟨⟨x22_0, x22_1⟩, hc_1, h⟩ := bind_some h
  refine Qc rfl rfl rfl (args := [.agg (Scene.cl a0)]) (r := .tup [.lst 1 (x22_0.map cl26), Ai x22_1]) (calv rfl rfl fnok_29 rfl) (f29_ok hc_1) rfl ?_
  refine Qd rfl ?_
  refine Tri.seq ?_
  refine Tp rfl ?_
  refine Tri.cond (b := (x22_1 != 0)) rfl (fun hb_1 => ?_) (fun hb_1 => ?_)
  ·have h := cond_t hb_1 h
   refine Tr ?_
   refine Qe 1 rfl ?_
   refine Q1 rfl rfl rfl (v := .lst 2 (([] : List Span).map Span.cl)) (Ax.nl 2 rfl rfl) ?_
   refine Qd rfl ?_
   refine Tri.ret ?_
   refine Rr (fun r => .tup [.lst 2 (r.1.map Span.cl), Ai r.2]) (fun r => []) [] h ?_ trivial
   rfl
  ·have h := cond_f hb_1 h
   refine Tri.skip ?_
   refine Tr ?_
   refine Qn rfl rfl rfl (v := .hnd 9) (x := some (.arr 49 2 (([] : List Span).map Span.cl))) (Ax.nil_new 49 2 (.inr rfl) rfl) rfl rfl rfl rfl rfl ?_
   refine RunD.done ?_
   refine Tri.seq ?_
   refine Tr ?_
   refine Qe 1 rfl ?_
   refine Q1 rfl rfl rfl (Ax.ln (cl := Spot_basin.cl) rfl slc_180 rfl) ?_
   refine Qd rfl ?_
   obtain ⟨vo9_1, hj, h⟩ := bind_some h
   refine Tri.rngLv hj (fun p => ⟨[(6, .lst 1 (x14_0.map cl26)), (8, .lst 1 (x22_0.map cl26)), (9, .hnd 9), (28, .lst 2 (a1.map Spot_basin.cl)), (29, Ai (a1.length : Int)), (30, Ai p.1)], [(9, some (.arr 49 2 (p.2.map Span.cl)))]⟩) (fun (y : List Span) => ⟨[(9, .hnd 9)], [(9, some (.arr 49 2 (y.map Span.cl)))]⟩) (Ee [9] rfl ⟨im_flat Span_im ([] : List Span), trivial⟩) ?_ ?_ ?_
   ·refine Tp rfl ?_
    refine Tri.ret ?_
    refine RetQ.eq2 (fun r => .tup [.lst 2 (r.1.map Span.cl), Ai r.2]) (fun r => []) (Option.some.inj h) ?_
    exact RetQ.mk (vs := [.hnd 9, Ai 0]) (.inr rfl) ⟨_, _, rfl, .tmp rfl, ⟨_, _, rfl, .tmp rfl, rfl⟩⟩ [9] [] rfl rfl trivial (.tupV ⟨.frz (.hnd (List.Mem.head _) rfl (im_flat Span_im vo9_1)) rfl, .rfl' rfl, trivial⟩)
   ·rintro v30 vo9 hi h
    refine Tp rfl ?_
    refine Tri.seq ?_
    refine Tri.cond (b := (decide (v30 < (a1.length : Int)))) rfl (fun hb_2 => ?_) (fun hb_2 => ?_)
    ·exact (lt_f hi hb_2).elim
    ·refine Tri.exit ?_
     exact Exists.intro vo9 (And.intro h (Ee [9] rfl ⟨imf Span_im, trivial⟩))
   ·rintro nx x v30 vo9 _ hi hw hx h
    refine Tp rfl ?_
    refine Tri.seq ?_
    refine Tri.cond (b := (decide (v30 < (a1.length : Int)))) rfl (fun hb_3 => ?_) (fun hb_3 => ?_)
    ·refine Tri.skip ?_
     refine Tri.seq ?_
     refine Tri.block ?_
     refine Tr ?_
     refine Q1 rfl rfl rfl (Ax.ix (cl := Spot_basin.cl) rfl slc_180 rfl rfl hx) ?_
     refine Qe 1 rfl ?_
     refine Qn rfl rfl rfl (v := .ptr 11 0) (x := some (.box (Spot_basin.cl (⟨0, 0⟩ : Spot_basin)))) (Ax.alloc rfl rfl zer_190 rfl ⟨Sub.refl _, Sub.refl _, trivial⟩) rfl rfl rfl rfl rfl ?_
     refine Qs rfl rfl (x := some (.box (Spot_basin.cl x))) (Ax.st_box rfl siz_190 rfl rfl rfl rfl rfl rfl rfl) ?_
     refine RunD.done ?_
     refine Tri.drawn [[], [], [], [2], [1, 2, 3], [1, 2, 3, 4], [], [6], [1, 2, 3, 4, 5, 6, 7], [1, 2, 3, 4, 5, 6, 7, 8], [], [], [11], [10, 11, 12], [10, 11, 12, 13], [], [15], [10, 11, 12, 13, 14, 15, 16], [10, 11, 12, 13, 14, 15, 16, 17], [1, 2, 3, 4, 5, 6, 7, 8, 9, 10, 11, 12, 13, 14, 15, 16, 17, 18], [1, 2, 3, 4, 5, 6, 7, 8, 9, 10, 11, 12, 13, 14, 15, 16, 17, 18, 19], [0, 1, 2, 3, 4, 5, 6, 7, 8, 9, 10, 11, 12, 13, 14, 15, 16, 17, 18, 19, 20], []] hmix (by kernel_rfl) ?_
     refine Qe 4 rfl ?_
     obtain ⟨y, hy, h⟩ := bind_some h
     refine Q1 rfl rfl rfl (Ax.ix (cl := cl26) rfl slc_44 rfl rfl hy) ?_
     refine Qe 3 rfl ?_
     obtain ⟨y_1, hy_1, h⟩ := bind_some h
     refine Q1 rfl rfl rfl (Ax.ix (cl := icl) rfl slc_26 rfl rfl hy_1) ?_
     refine Qe 4 rfl ?_
     obtain ⟨y_2, hy_2, h⟩ := bind_some h
     refine Q1 rfl rfl rfl (Ax.ix (cl := cl26) rfl slc_44 rfl rfl hy_2) ?_
     refine Qe 3 rfl ?_
     obtain ⟨y_3, hy_3, h⟩ := bind_some h
     refine Q1 rfl rfl rfl (Ax.ix (cl := icl) rfl slc_26 rfl rfl hy_3) ?_
     refine Qe 1 rfl ?_
     refine Q1 rfl rfl rfl (v := .agg (Span.cl (⟨y_1, y_3⟩ : Span))) (Ax.build rfl zer_49 (bld plc_49 zer_49) rfl ⟨Sub.refl _, Sub.refl _, trivial⟩) ?_
     refine Q1 rfl rfl rfl (v := .lst 2 (([(⟨y_1, y_3⟩ : Span)] : List Span).map Span.cl)) (Ax.sl (xs := ([(⟨y_1, y_3⟩ : Span)] : List Span)) rfl slc_183 rfl rfl ⟨Sub.refl _, Sub.refl _, trivial⟩ rfl Span_len Span_one Span_im) ?_
     obtain ⟨z55, hz, h⟩ := bind_some h
     refine Qa rfl rfl rfl (v := .hnd 55) (x := some (.arr 49 2 (z55.map Span.cl))) (Ax.app_l (cl := Span.cl) rfl rfl slc_183 rfl rfl rfl Span_one Span_im hz rfl rfl) rfl rfl rfl rfl rfl ?_
     refine Qe 1 rfl ?_
     refine RunD.done ⟨by kernel_rfl, freshL_of [55] (by kernel_rfl) (by kernel_rfl), ?_⟩
     refine Tq rfl ?_
     exact Exists.intro (v30 + 1, z55) (And.intro (And.intro rfl h) (Es [55] [30] rfl ⟨imf Span_im, trivial⟩ ⟨.imm (Sub.of_eq (show Ai (v30 + 1) = Ai (W (v30 + 1)) from congrArg Ai hw.symm)) rfl, trivial⟩))
    ·exact (lt_t hi hb_3).elim
theorem f33_ok {K : Nat} {a0 : Scene} {a1 : Int} {a2 : Int} {r : Span × Int} (h : f33 K a0 a1 a2 = some r) : CallOK Tryz.prog 33 [.agg (Scene.cl a0), Ai a1, Ai a2] [] (.tup [.agg (Span.cl r.1), Ai r.2]) [] := by
 refine CallOK.of_tri Tryz.func33 rfl rfl (Nat.le_of_ble_eq_true rfl) ?_
 unfold f33 at h
 refine Tr ?_
 refine Qe 1 rfl ?_
 refine Qn rfl rfl rfl (v := .ptr 6 0) (x := some (.box (Span.cl (⟨0, 0⟩ : Span)))) (Ax.alloc rfl rfl zer_49 rfl ⟨Sub.refl _, Sub.refl _, trivial⟩) rfl rfl rfl rfl rfl ?_
 refine Qd rfl ?_
 refine Tr ?_
 refine Qe 2 rfl ?_
 refine Q1 rfl rfl rfl (v := .lst 1 (([a1] : List Int).map icl)) (Ax.sl (xs := ([a1] : List Int)) rfl slc_26 rfl rfl ⟨Sub.refl _, trivial⟩ rfl icl_len icl_one icl_im) ?_
 refine Qe 1 rfl ?_
 obtain ⟨⟨x16_0, x16_1⟩, hc, h⟩ := bind_some h
 refine Qc rfl rfl rfl (args := [.agg (Scene.cl a0), .lst 1 (([a1] : List Int).map icl), Ai a2]) (r := .tup [.lst 2 (x16_0.map Spot_basin.cl), Ai x16_1]) (calv rfl rfl fnok_113 rfl) (f113_ok hc) rfl ?_
 refine Qd rfl ?_
 refine Tri.seq ?_
 refine Tp rfl ?_
 refine Tri.cond (b := (x16_1 != 0)) rfl (fun hb => ?_) (fun hb => ?_)
 ·have h := cond_t hb h
  refine Tr ?_
  refine Q1 rfl rfl rfl (v := .agg (Span.cl (⟨0, 0⟩ : Span))) (Ax.build rfl zer_49 (bld plc_49 zer_49) rfl ⟨Sub.refl _, Sub.refl _, trivial⟩) ?_
  refine Qe 1 rfl ?_
  refine Qs rfl rfl (x := some (.box (Span.cl (⟨0, 0⟩ : Span)))) (Ax.st_box rfl siz_49 rfl rfl rfl rfl rfl rfl rfl) ?_
  refine Qd rfl ?_
  refine Tri.ret ?_
  refine Rr (fun r => .tup [.agg (Span.cl r.1), Ai r.2]) (fun r => []) [] h ?_ trivial
  rfl
 ·have h := cond_f hb h
  refine Tri.skip ?_
  refine Tr ?_
  refine Qe 2 rfl ?_
  obtain ⟨⟨x26_0, x26_1⟩, hc_1, h⟩ := bind_some h
  refine Qc rfl rfl rfl (args := [.agg (Scene.cl a0), .lst 2 (x16_0.map Spot_basin.cl)]) (r := .tup [.lst 2 (x26_0.map Span.cl), Ai x26_1]) (calv rfl rfl fnok_114 rfl) (f114_ok hc_1) rfl ?_
  refine Qd rfl ?_
  refine Tri.seq ?_
  refine Tp rfl ?_
  refine Tri.cond (b := (x26_1 != 0)) rfl (fun hb_1 => ?_) (fun hb_1 => ?_)
  ·have h := cond_t hb_1 h
   refine Tr ?_
   refine Q1 rfl rfl rfl (v := .agg (Span.cl (⟨0, 0⟩ : Span))) (Ax.build rfl zer_49 (bld plc_49 zer_49) rfl ⟨Sub.refl _, Sub.refl _, trivial⟩) ?_
   refine Qe 1 rfl ?_
   refine Qs rfl rfl (x := some (.box (Span.cl (⟨0, 0⟩ : Span)))) (Ax.st_box rfl siz_49 rfl rfl rfl rfl rfl rfl rfl) ?_
   refine Qd rfl ?_
   refine Tri.ret ?_
   refine Rr (fun r => .tup [.agg (Span.cl r.1), Ai r.2]) (fun r => []) [] h ?_ trivial
   rfl
  ·have h := cond_f hb_1 h
   refine Tri.skip ?_
   refine Tr ?_
   refine Qe 1 rfl ?_
   obtain ⟨y, hy, h⟩ := bind_some h
   refine Q1 rfl rfl rfl (Ax.ix (cl := Span.cl) rfl slc_183 rfl rfl hy) ?_
   refine Qe 1 rfl ?_
   refine Qs rfl rfl (x := some (.box (Span.cl y))) (Ax.st_box rfl siz_49 rfl rfl rfl rfl rfl rfl rfl) ?_
   refine Qd rfl ?_
   refine Tri.ret ?_
   refine Rr (fun r => .tup [.agg (Span.cl r.1), Ai r.2]) (fun r => []) [] h ?_ trivial
   rfl
theorem f39_ok {K : Nat} {a0 : Scene} {a1 : List Int} {a2 : Int} {r : Span × Int} (h : f39 K a0 a1 a2 = some r) : CallOK Tryz.prog 39 [.agg (Scene.cl a0), .lst 1 (a1.map icl), Ai a2] [] (.tup [.agg (Span.cl r.1), Ai r.2]) [] := by
 refine CallOK.of_tri Tryz.func39 rfl rfl (Nat.le_of_ble_eq_true rfl) ?_
 unfold f39 at h
 refine Tr ?_
 refine Qe 1 rfl ?_
 refine Qn rfl rfl rfl (v := .ptr 6 0) (x := some (.box (Span.cl (⟨0, 0⟩ : Span)))) (Ax.alloc rfl rfl zer_49 rfl ⟨Sub.refl _, Sub.refl _, trivial⟩) rfl rfl rfl rfl rfl ?_
 refine Qd rfl ?_
 refine Tr ?_
 refine Qe 3 rfl ?_
 obtain ⟨⟨x19_0, x19_1⟩, hc, h⟩ := bind_some h
 refine Qc rfl rfl rfl (args := [.agg (Scene.cl a0), .lst 1 (a1.map icl), Ai a2]) (r := .tup [.lst 2 (x19_0.map Spot_basin.cl), Ai x19_1]) (calv rfl rfl fnok_113 rfl) (f113_ok hc) rfl ?_
 refine Qd rfl ?_
 refine Tri.seq ?_
 refine Tp rfl ?_
 refine Tri.cond (b := (x19_1 != 0)) rfl (fun hb => ?_) (fun hb => ?_)
 ·have h := cond_t hb h
  refine Tr ?_
  refine Q1 rfl rfl rfl (v := .agg (Span.cl (⟨0, 0⟩ : Span))) (Ax.build rfl zer_49 (bld plc_49 zer_49) rfl ⟨Sub.refl _, Sub.refl _, trivial⟩) ?_
  refine Qe 1 rfl ?_
  refine Qs rfl rfl (x := some (.box (Span.cl (⟨0, 0⟩ : Span)))) (Ax.st_box rfl siz_49 rfl rfl rfl rfl rfl rfl rfl) ?_
  refine Qd rfl ?_
  refine Tri.ret ?_
  refine Rr (fun r => .tup [.agg (Span.cl r.1), Ai r.2]) (fun r => []) [] h ?_ trivial
  rfl
 ·have h := cond_f hb h
  refine Tri.skip ?_
  refine Tr ?_
  refine Qe 2 rfl ?_
  obtain ⟨⟨x29_0, x29_1⟩, hc_1, h⟩ := bind_some h
  refine Qc rfl rfl rfl (args := [.agg (Scene.cl a0), .lst 2 (x19_0.map Spot_basin.cl)]) (r := .tup [.lst 2 (x29_0.map Span.cl), Ai x29_1]) (calv rfl rfl fnok_114 rfl) (f114_ok hc_1) rfl ?_
  refine Qd rfl ?_
  refine Tri.seq ?_
  refine Tp rfl ?_
  refine Tri.cond (b := (x29_1 != 0)) rfl (fun hb_1 => ?_) (fun hb_1 => ?_)
  ·have h := cond_t hb_1 h
   refine Tr ?_
   refine Q1 rfl rfl rfl (v := .agg (Span.cl (⟨0, 0⟩ : Span))) (Ax.build rfl zer_49 (bld plc_49 zer_49) rfl ⟨Sub.refl _, Sub.refl _, trivial⟩) ?_
   refine Qe 1 rfl ?_
   refine Qs rfl rfl (x := some (.box (Span.cl (⟨0, 0⟩ : Span)))) (Ax.st_box rfl siz_49 rfl rfl rfl rfl rfl rfl rfl) ?_
   refine Qd rfl ?_
   refine Tri.ret ?_
   refine Rr (fun r => .tup [.agg (Span.cl r.1), Ai r.2]) (fun r => []) [] h ?_ trivial
   rfl
  ·have h := cond_f hb_1 h
   refine Tri.skip ?_
   refine Tr ?_
   refine Qn rfl rfl rfl (v := .ptr 11 0) (x := some (.box (Span.cl (⟨0, 0⟩ : Span)))) (Ax.alloc rfl rfl zer_49 rfl ⟨Sub.refl _, Sub.refl _, trivial⟩) rfl rfl rfl rfl rfl ?_
   refine RunD.done ?_
   refine Tri.seq ?_
   refine Tr ?_
   refine Qe 1 rfl ?_
   refine Q1 rfl rfl rfl (Ax.ln (cl := Span.cl) rfl slc_183 rfl) ?_
   refine Qd rfl ?_
   obtain ⟨⟨vo11_0_1, vo11_1_1⟩, hj, h⟩ := bind_some h
   refine Tri.rngLv hj (fun p => ⟨[(3, .ipt (Scene.cl a0) 0), (6, .ptr 6 0), (8, .lst 2 (x19_0.map Spot_basin.cl)), (11, .ptr 11 0), (36, .lst 2 (x29_0.map Span.cl)), (37, Ai (x29_0.length : Int)), (38, Ai p.1)], [(6, some (.box (Span.cl (⟨0, 0⟩ : Span)))), (11, some (.box (Span.cl (⟨p.2.1, p.2.2⟩ : Span))))]⟩) (fun (y : Int × Int) => ⟨[(6, .ptr 6 0), (11, .ptr 11 0)], [(6, some (.box (Span.cl (⟨0, 0⟩ : Span)))), (11, some (.box (Span.cl (⟨y.1, y.2⟩ : Span))))]⟩) (Ee [6, 11] rfl trivial) ?_ ?_ ?_
   ·refine Tr ?_
    refine Qe 1 rfl ?_
    refine Qs rfl rfl (x := some (.box (Span.cl (⟨vo11_0_1, vo11_1_1⟩ : Span)))) (Ax.st_box rfl siz_49 rfl rfl rfl rfl rfl rfl rfl) ?_
    refine Qd rfl ?_
    refine Tri.ret ?_
    refine Rr (fun r => .tup [.agg (Span.cl r.1), Ai r.2]) (fun r => []) [] h ?_ trivial
    rfl
   ·rintro v38 ⟨vo11_0, vo11_1⟩ hi h
    refine Tp rfl ?_
    refine Tri.seq ?_
    refine Tri.cond (b := (decide (v38 < (x29_0.length : Int)))) rfl (fun hb_2 => ?_) (fun hb_2 => ?_)
    ·exact (lt_f hi hb_2).elim
    ·refine Tri.exit ?_
     exact Exists.intro (vo11_0, vo11_1) (And.intro h (Ee [6, 11] rfl trivial))
   ·rintro nx x v38 ⟨vo11_0, vo11_1⟩ _ hi hw hx h
    refine Tp rfl ?_
    refine Tri.seq ?_
    refine Tri.cond (b := (decide (v38 < (x29_0.length : Int)))) rfl (fun hb_3 => ?_) (fun hb_3 => ?_)
    ·refine Tri.skip ?_
     refine Tri.seq ?_
     refine Tri.block ?_
     refine Tr ?_
     refine Qe 1 rfl ?_
     refine Q1 rfl rfl rfl (Ax.ix (cl := Span.cl) rfl slc_183 rfl rfl hx) ?_
     refine Qe 1 rfl ?_
     refine Qn rfl rfl rfl (v := .ptr 13 0) (x := some (.box (Span.cl (⟨0, 0⟩ : Span)))) (Ax.alloc rfl rfl zer_49 rfl ⟨Sub.refl _, Sub.refl _, trivial⟩) rfl rfl rfl rfl rfl ?_
     refine Qe 1 rfl ?_
     refine Qs rfl rfl (x := some (.box (Span.cl x))) (Ax.st_box rfl siz_49 rfl rfl rfl rfl rfl rfl rfl) ?_
     refine RunD.done ?_
     refine Tri.seq ?_
     refine Tri.drawn [] hmix (by kernel_rfl) ?_
     refine Qe 5 rfl ?_
     obtain ⟨y, hy, h⟩ := bind_some h
     refine Q1 rfl rfl rfl (Ax.ix (cl := Spot_basin.cl) rfl slc_180 rfl rfl hy) ?_
     refine Qe 2 rfl ?_
     obtain ⟨y_1, hy_1, h⟩ := bind_some h
     refine Q1 rfl rfl rfl (Ax.ix (cl := Cell.cl) rfl slc_22 rfl rfl hy_1) ?_
     refine Qe 3 rfl ?_
     refine RunD.done ⟨by kernel_rfl, freshL_of [] (by kernel_rfl) (by kernel_rfl), ?_⟩
     refine Tr ?_
     refine Qe 8 rfl ?_
     refine Qs rfl rfl (x := some (.box (Span.cl (⟨(W (vo11_0 + (W (y_1.Area * x.Lo)))), vo11_1⟩ : Span)))) (Ax.st_box rfl siz_3 rfl rfl rfl rfl rfl rfl rfl) ?_
     refine RunD.done ?_
     refine Tri.region ?_
     refine Qe 8 rfl ?_
     refine Qs rfl rfl (x := some (.box (Span.cl (⟨(W (vo11_0 + (W (y_1.Area * x.Lo)))), (W (vo11_1 + (W (y_1.Area * x.Hi))))⟩ : Span)))) (Ax.st_box rfl siz_3 rfl rfl rfl rfl rfl rfl rfl) ?_
     refine RunD.done ?_
     refine Tq rfl ?_
     exact Exists.intro (v38 + 1, ((W (vo11_0 + (W (y_1.Area * x.Lo)))), (W (vo11_1 + (W (y_1.Area * x.Hi)))))) (And.intro (And.intro rfl h) (Es [6, 11] [38] rfl trivial ⟨.imm (Sub.of_eq (show Ai (v38 + 1) = Ai (W (v38 + 1)) from congrArg Ai hw.symm)) rfl, trivial⟩))
    ·exact (lt_t hi hb_3).elim
theorem f120_ok {K : Nat} {a0 : Scene} {a1 : List Int} {a2 : Int} {a3 : Int} {a4 : Bool} {r : (Option Laid_basin) × List Int × Int} (h : f120 K a0 a1 a2 a3 a4 = some r) : CallOK Tryz.prog 120 [.agg (Scene.cl a0), .lst 1 (a1.map icl), Ai a2, Ai a3, Ab a4] [] (.tup [optr Laid_basin.cl r.1, .lst 1 (r.2.1.map icl), Ai r.2.2]) [] := by
 refine CallOK.of_tri Tryz.func120 rfl rfl (Nat.le_of_ble_eq_true rfl) ?_
 unfold f120 at h
 refine Tr ?_
 refine Qe 2 rfl ?_
 refine Q1 rfl rfl rfl (v := .lst 1 (([] : List Int).map icl)) (Ax.nl 1 rfl rfl) ?_
 refine Qd rfl ?_
 refine Tr ?_
 refine Qe 3 rfl ?_
 obtain ⟨⟨x24_0, x24_1⟩, hc, h⟩ := bind_some h
 refine Qc rfl rfl rfl (args := [.agg (Scene.cl a0), .lst 1 (a1.map icl), Ai a2]) (r := .tup [.lst 2 (x24_0.map Spot_basin.cl), Ai x24_1]) (calv rfl rfl fnok_113 rfl) (f113_ok hc) rfl ?_
 refine Qd rfl ?_
 refine Tri.seq ?_
 refine Tp rfl ?_
 refine Tri.cond (b := (x24_1 != 0)) rfl (fun hb => ?_) (fun hb => ?_)
 ·have h := cond_t hb h
  refine Tr ?_
  refine Qe 2 rfl ?_
  refine Q1 rfl rfl rfl (v := .lst 1 (([] : List Int).map icl)) (Ax.nl 1 rfl rfl) ?_
  refine Qd rfl ?_
  refine Tri.ret ?_
  refine RetQ.eq2 (fun r => .tup [optr Laid_basin.cl r.1, .lst 1 (r.2.1.map icl), Ai r.2.2]) (fun r => []) (Option.some.inj h) ?_
  exact RetQ.mk (vs := [.sc (.pointer none), .lst 1 (([] : List Int).map icl), Ai x24_1]) (.inr rfl) ⟨_, _, rfl, .tmp rfl, ⟨_, _, rfl, .tmp rfl, ⟨_, _, rfl, .tmp rfl, rfl⟩⟩⟩ [] [] rfl rfl trivial (.tupV ⟨.frz (.fz (.imm rfl)) rfl, .rfl' rfl, .rfl' rfl, trivial⟩)
 ·have h := cond_f hb h
  refine Tri.skip ?_
  refine Tr ?_
  refine Qe 3 rfl ?_
  obtain ⟨⟨x34_0, x34_1⟩, hc_1, h⟩ := bind_some h
  refine Qc rfl rfl rfl (args := [.agg (Scene.cl a0), .lst 1 (a1.map icl), Ai a3]) (r := .tup [.lst 2 (x34_0.map Spot_basin.cl), Ai x34_1]) (calv rfl rfl fnok_113 rfl) (f113_ok hc_1) rfl ?_
  refine Qd rfl ?_
  refine Tri.seq ?_
  refine Tp rfl ?_
  refine Tri.cond (b := (x34_1 != 0)) rfl (fun hb_1 => ?_) (fun hb_1 => ?_)
  ·have h := cond_t hb_1 h
   refine Tr ?_
   refine Qe 2 rfl ?_
   refine Q1 rfl rfl rfl (v := .lst 1 (([] : List Int).map icl)) (Ax.nl 1 rfl rfl) ?_
   refine Qd rfl ?_
   refine Tri.ret ?_
   refine RetQ.eq2 (fun r => .tup [optr Laid_basin.cl r.1, .lst 1 (r.2.1.map icl), Ai r.2.2]) (fun r => []) (Option.some.inj h) ?_
   exact RetQ.mk (vs := [.sc (.pointer none), .lst 1 (([] : List Int).map icl), Ai x34_1]) (.inr rfl) ⟨_, _, rfl, .tmp rfl, ⟨_, _, rfl, .tmp rfl, ⟨_, _, rfl, .tmp rfl, rfl⟩⟩⟩ [] [] rfl rfl trivial (.tupV ⟨.frz (.fz (.imm rfl)) rfl, .rfl' rfl, .rfl' rfl, trivial⟩)
  ·have h := cond_f hb_1 h
   refine Tri.skip ?_
   refine Tri.seq ?_
   refine Tp rfl ?_
   refine Tri.cond (b := (decide (a2 ≥ a3))) rfl (fun hb_2 => ?_) (fun hb_2 => ?_)
   ·have h := cond_t hb_2 h
    refine Tr ?_
    refine Qe 1 rfl ?_
    refine Q1 rfl rfl rfl (v := .lst 1 (([] : List Int).map icl)) (Ax.nl 1 rfl rfl) ?_
    refine Qd rfl ?_
    refine Tri.ret ?_
    refine RetQ.eq2 (fun r => .tup [optr Laid_basin.cl r.1, .lst 1 (r.2.1.map icl), Ai r.2.2]) (fun r => []) (Option.some.inj h) ?_
    exact RetQ.mk (vs := [.sc (.pointer none), .lst 1 (([] : List Int).map icl), Ai 1]) (.inr rfl) ⟨_, _, rfl, .tmp rfl, ⟨_, _, rfl, .tmp rfl, ⟨_, _, rfl, .tmp rfl, rfl⟩⟩⟩ [] [] rfl rfl trivial (.tupV ⟨.frz (.fz (.imm rfl)) rfl, .rfl' rfl, .rfl' rfl, trivial⟩)
   ·have h := cond_f hb_2 h
    refine Tri.skip ?_
    refine Tr ?_
    refine Qe 1 rfl ?_
    obtain ⟨x44, hc_2, h⟩ := bind_some h
    refine Qc rfl rfl rfl (args := [.agg (Scene.cl a0)]) (r := .ipt (Laid_basin.cl x44) 0) (calv rfl rfl fnok_102 rfl) (f102_ok hc_2) rfl ?_
    refine Qd rfl ?_
    refine Tr ?_
    refine Qe 1 rfl ?_
    refine Q1 rfl rfl rfl (Ax.nil_ipt rfl rfl) ?_
    refine Qe 3 rfl ?_
    obtain ⟨z50, hz, h⟩ := bind_some h
    refine Qn rfl rfl rfl (v := .hnd 50) (x := some (.arr 3 1 (z50.map icl))) (Ax.mk (cl := icl) rfl rfl slc_26 rfl rfl hz rfl rfl rfl) rfl rfl rfl rfl rfl ?_
    refine Qd rfl ?_
    refine Tri.seq ?_
    refine Tr ?_
    refine Qe 1 rfl ?_
    refine Q1 rfl rfl rfl (Ax.ln (cl := Spot_basin.cl) rfl slc_180 rfl) ?_
    refine Qd rfl ?_
    obtain ⟨vo17_1, hj, h⟩ := bind_some h
    refine Tri.rngLv hj (fun p => ⟨[(4, Ab a4), (5, .ipt (Scene.cl a0) 0), (13, .lst 2 (x24_0.map Spot_basin.cl)), (15, .lst 2 (x34_0.map Spot_basin.cl)), (16, .ipt (Laid_basin.cl x44) 0), (17, .hnd 50), (52, Ai (x24_0.length : Int)), (53, Ai p.1)], [(50, some (.arr 3 1 (p.2.map icl)))]⟩) (fun (y : List Int) => ⟨[(16, .ipt (Laid_basin.cl x44) 0), (17, .hnd 50)], [(50, some (.arr 3 1 (y.map icl)))]⟩) (Ee [50] rfl ⟨imf icl_im, trivial⟩) ?_ ?_ ?_
    ·refine Tp rfl ?_
     refine Tri.ret ?_
     refine RetQ.eq2 (fun r => .tup [optr Laid_basin.cl r.1, .lst 1 (r.2.1.map icl), Ai r.2.2]) (fun r => []) (Option.some.inj h) ?_
     exact RetQ.mk (vs := [.ipt (Laid_basin.cl x44) 0, .hnd 50, Ai 0]) (.inr rfl) ⟨_, _, rfl, .tmp rfl, ⟨_, _, rfl, .tmp rfl, ⟨_, _, rfl, .tmp rfl, rfl⟩⟩⟩ [50] [] rfl rfl trivial (.tupV ⟨.frz (.fz (.imm rfl)) rfl, .frz (.hnd (List.Mem.head _) rfl (im_flat icl_im vo17_1)) rfl, .rfl' rfl, trivial⟩)
    ·rintro v53 vo17 hi h
     refine Tp rfl ?_
     refine Tri.seq ?_
     refine Tri.cond (b := (decide (v53 < (x24_0.length : Int)))) rfl (fun hb_3 => ?_) (fun hb_3 => ?_)
     ·exact (lt_f hi hb_3).elim
     ·refine Tri.exit ?_
      exact Exists.intro vo17 (And.intro h (Ee [50] rfl ⟨imf icl_im, trivial⟩))
    ·rintro nx x v53 vo17 _ hi hw hx h
     refine Tp rfl ?_
     refine Tri.seq ?_
     refine Tri.cond (b := (decide (v53 < (x24_0.length : Int)))) rfl (fun hb_4 => ?_) (fun hb_4 => ?_)
     ·refine Tri.skip ?_
      refine Tri.seq ?_
      refine Tri.block ?_
      refine Tp rfl ?_
      refine Tri.seq ?_
      refine Tri.drawn [] hmix (by kernel_rfl) ?_
      refine Qe 5 rfl ?_
      refine Q1 rfl rfl rfl (Ax.ix (cl := Spot_basin.cl) rfl slc_180 rfl rfl hx) ?_
      refine Qe 2 rfl ?_
      obtain ⟨y, hy, h⟩ := bind_some h
      refine Q1 rfl rfl rfl (Ax.ix (cl := Cell.cl) rfl slc_22 rfl rfl hy) ?_
      refine Qe 3 rfl ?_
      refine RunD.done ⟨by kernel_rfl, freshL_of [] (by kernel_rfl) (by kernel_rfl), ?_⟩
      refine Tri.seq ?_
      refine Tp rfl ?_
      obtain ⟨v19, hv, h⟩ := lt h
      refine Tri.join1 ⟨[(4, Ab a4), (5, .ipt (Scene.cl a0) 0), (13, .lst 2 (x24_0.map Spot_basin.cl)), (15, .lst 2 (x34_0.map Spot_basin.cl)), (16, .ipt (Laid_basin.cl x44) 0), (17, .hnd 50), (18, Ai v53), (19, Ai v19), (52, Ai (x24_0.length : Int)), (53, Ai v53)], [(50, some (.arr 3 1 (vo17.map icl)))]⟩ ?_ ?_
      ·refine Tri.seq ?_
       refine Tri.drawn [[], [], [], [], [2, 3], [2, 3, 4], [2, 3, 4, 5], [], [], [7, 8], [7, 8, 9], [7, 8, 9, 10], [1, 2, 3, 4, 5, 6, 7, 8, 9, 10, 11], [], [0, 1, 2, 3, 4, 5, 6, 7, 8, 9, 10, 11, 12, 13], [0, 1, 2, 3, 4, 5, 6, 7, 8, 9, 10, 11, 12, 13, 14]] hmix (by kernel_rfl) ?_
       refine Qe 4 rfl ?_
       refine Q1 rfl rfl rfl (Ax.ix (cl := Spot_basin.cl) rfl slc_180 rfl rfl hx) ?_
       refine Qe 4 rfl ?_
       refine Q1 rfl rfl rfl (Ax.ix (cl := Spot_basin.cl) rfl slc_180 rfl rfl hx) ?_
       refine Qe 2 rfl ?_
       obtain ⟨x83, hc_3, h⟩ := bind_some h
       refine Qc rfl rfl rfl (args := [.ipt (Laid_basin.cl x44) 0, Ai x.cell, Ai x.day]) (r := Ai x83) (calv rfl rfl fnok_202 rfl) (f202_ok hc_3) rfl ?_
       refine Qe 1 rfl ?_
       obtain ⟨y_1, hy_1, h⟩ := bind_some h
       refine Q1 rfl rfl rfl (Ax.ixh (cl := icl) rfl slc_26 rfl rfl rfl hy_1) ?_
       refine Qs rfl rfl (x := some (.arr 3 1 ((vo17.set (Int.toNat x83) v19).map icl))) (Ax.st_arr (cl := icl) (q := v19) rfl siz_3 rfl rfl hy_1 rfl rfl rfl rfl rfl rfl) ?_
       refine RunD.done ⟨by kernel_rfl, freshL_of [] (by kernel_rfl) (by kernel_rfl), ?_⟩
       refine Tri.drawn [[], [], [], [], [2, 3], [2, 3, 4], [2, 3, 4, 5], [], [], [7, 8], [7, 8, 9], [7, 8, 9, 10], [1, 2, 3, 4, 5, 6, 7, 8, 9, 10, 11], [], [13], [0, 1, 2, 3, 4, 5, 6, 7, 8, 9, 10, 11, 12, 13, 14], [0, 1, 2, 3, 4, 5, 6, 7, 8, 9, 10, 11, 12, 13, 14, 15]] hmix (by kernel_rfl) ?_
       refine Qe 4 rfl ?_
       obtain ⟨y_2, hy_2, h⟩ := bind_some h
       refine Q1 rfl rfl rfl (Ax.ix (cl := Spot_basin.cl) rfl slc_180 rfl rfl hy_2) ?_
       refine Qe 4 rfl ?_
       refine Q1 rfl rfl rfl (Ax.ix (cl := Spot_basin.cl) rfl slc_180 rfl rfl hy_2) ?_
       refine Qe 2 rfl ?_
       obtain ⟨x98, hc_4, h⟩ := bind_some h
       refine Qc rfl rfl rfl (args := [.ipt (Laid_basin.cl x44) 0, Ai y_2.cell, Ai y_2.day]) (r := Ai x98) (calv rfl rfl fnok_202 rfl) (f202_ok hc_4) rfl ?_
       refine Qe 2 rfl ?_
       obtain ⟨y_3, hy_3, h⟩ := bind_some h
       refine Q1 rfl rfl rfl (Ax.ixh (cl := icl) rfl slc_26 rfl rfl rfl hy_3) ?_
       refine Qs rfl rfl (x := some (.arr 3 1 (((vo17.set (Int.toNat x83) v19).set (Int.toNat x98) (W (-v19))).map icl))) (Ax.st_arr (cl := icl) (q := (W (-v19))) rfl siz_3 rfl rfl hy_3 rfl rfl rfl rfl rfl rfl) ?_
       refine RunD.done ⟨by kernel_rfl, freshL_of [] (by kernel_rfl) (by kernel_rfl), ?_⟩
       refine Tq rfl ?_
       exact Exists.intro (v53 + 1, ((vo17.set (Int.toNat x83) v19).set (Int.toNat x98) (W (-v19)))) (And.intro (And.intro rfl h) (Es [50] [53] rfl ⟨imf icl_im, trivial⟩ ⟨.imm (Sub.of_eq (show Ai (v53 + 1) = Ai (W (v53 + 1)) from congrArg Ai hw.symm)) rfl, trivial⟩))
      ·refine Tri.cond (b := (!a4)) rfl (fun hb_5 => ?_) (fun hb_5 => ?_)
       ·refine Tq rfl ?_
        exact (Es [50] [19] rfl ⟨imf icl_im, trivial⟩ ⟨.imm (Sub.of_eq (show Ai v19 = Ai (W (-y.Area)) by simp only [cond_true, cond_false, Bool.true_or, Bool.false_or, Bool.true_and, Bool.false_and, Bool.or_true, Bool.or_false, Bool.and_true, Bool.and_false, hv, hb, hb_1, hb_2, hb_4, hb_5])) rfl, trivial⟩)
       ·refine Tri.skip ?_
        exact (Es [50] [19] rfl ⟨imf icl_im, trivial⟩ ⟨.imm (Sub.of_eq (show Ai v19 = Ai y.Area by simp only [cond_true, cond_false, Bool.true_or, Bool.false_or, Bool.true_and, Bool.false_and, Bool.or_true, Bool.or_false, Bool.and_true, Bool.and_false, hv, hb, hb_1, hb_2, hb_4, hb_5])) rfl, trivial⟩)
     ·exact (lt_t hi hb_4).elim
theorem f338_ok {K : Nat} {a0 : Int} {r : Bool} (h : f338 K a0 = some r) : CallOK Tryz.prog 338 [Ai a0] [] (Ab r) [] := by
 refine CallOK.of_tri Tryz.func338 rfl rfl (Nat.le_of_ble_eq_true rfl) ?_
 unfold f338 at h
 refine Tp rfl ?_
 refine Tr ?_
 refine Qe 1 rfl ?_
 obtain ⟨x4, hc, h⟩ := bind_some h
 refine Qc rfl rfl rfl (args := [Ai a0, Ai (-4096), Ai 4096]) (r := Ab x4) (calv rfl rfl fnok_282 rfl) (f282_ok hc) rfl ?_
 refine Qd rfl ?_
 refine Tri.ret ?_
 exact Rb h rfl
theorem f294_ok {K : Nat} {a0 : Net} {a1 : List Int} {r : Bool} (h : f294 K a0 a1 = some r) : CallOK Tryz.prog 294 [.agg (Net.cl a0), .lst 1 (a1.map icl)] [] (Ab r) [] := by
 refine CallOK.of_tri Tryz.func294 rfl rfl (Nat.le_of_ble_eq_true rfl) ?_
 unfold f294 at h
 refine Tp rfl ?_
 refine Tri.seq ?_
 obtain ⟨v4, hj, h⟩ := bind_some h
 refine Tri.joinv v4 (fun (y : Bool) => ⟨[(4, Ab y)], []⟩) ?_ ?_
 ·refine Tri.ret ?_
  exact Rb h rfl
 ·have h := hj
  refine Tri.region ?_
  refine Qe 1 rfl ?_
  refine Q1 rfl rfl rfl (Ax.ln (cl := icl) rfl slc_26 rfl) ?_
  refine Qe 4 rfl ?_
  rcases b2 ((a1.length : Int) == a0.Nodes) with hb | hb
  ·have h := cond_t hb h
   refine Qk 10 hb rfl ?_
   refine Qe 1 rfl ?_
   obtain ⟨x12, hc, h⟩ := bind_some h
   refine Qc rfl rfl rfl (args := [.lst 1 (a1.map icl), .fn 338 []]) (r := Ab x12) (calv rfl rfl fnok_292 rfl) (f292_ok fnok_338 rfl (fun _ _ hr => f338_ok hr) hc) rfl ?_
   refine Qd rfl ?_
   exact Exists.intro (!x12) (And.intro h (E0 rfl))
  ·have h := cond_f hb h
   refine Qk 10 hb rfl ?_
   refine Qd rfl ?_
   exact Exists.intro false (And.intro h (E0 rfl))
theorem f360_fr {K : Nat} {a0 : Use_diffs} {r : List Int} (h : f360 K a0 = some r) : CallOK Tryz.prog 360 [.ipt (Use_diffs.cl a0) 0] [] (.hnd 3615000) [(3615000, .arr 3 1 (r.map icl))] := by
 refine CallOK.of_tri Tryz.func360 rfl rfl (Nat.le_of_ble_eq_true rfl) ?_
 unfold f360 at h
 refine Tr ?_
 refine Qn rfl rfl rfl (v := .hnd 2) (x := some (.arr 3 1 (([] : List Int).map icl))) (Ax.nil_new 3 1 (.inr rfl) rfl) rfl rfl rfl rfl rfl ?_
 refine RunD.done ?_
 refine Tr ?_
 refine Qn rfl rfl rfl (v := .hnd 3) (x := some (.arr 3 1 (([] : List Int).map icl))) (Ax.nil_new 3 1 (.inr rfl) rfl) rfl rfl rfl rfl rfl ?_
 refine RunD.done ?_
 refine Tri.seq ?_
 refine Tr ?_
 refine Qe 1 rfl ?_
 refine Q1 rfl rfl rfl (Ax.nil_ipt rfl rfl) ?_
 refine Qe 2 rfl ?_
 refine Q1 rfl rfl rfl (Ax.ln (cl := icl) rfl slc_26 rfl) ?_
 refine Qd rfl ?_
 obtain ⟨vo3_1, hj, h⟩ := bind_some h
 refine Tri.rngLv hj (fun p => ⟨[(3, .hnd 3), (9, .lst 1 (a0.flow.map icl)), (10, Ai (a0.flow.length : Int)), (11, Ai p.1)], [(3, some (.arr 3 1 (p.2.map icl)))]⟩) (fun (y : List Int) => ⟨[(3, .hnd 3)], [(3, some (.arr 3 1 (y.map icl)))]⟩) (Ee [3] rfl ⟨im_flat icl_im ([] : List Int), trivial⟩) ?_ ?_ ?_
 ·refine Tp rfl ?_
  refine Tri.ret ?_
  refine Rr (fun r => .hnd 3615000) (fun r => [(3615000, .arr 3 1 (r.map icl))]) [3] h ?_ ?_
  ·rfl
  exact ⟨imf icl_im, trivial⟩
 ·rintro v11 vo3 hi h
  refine Tp rfl ?_
  refine Tri.seq ?_
  refine Tri.cond (b := (decide (v11 < (a0.flow.length : Int)))) rfl (fun hb => ?_) (fun hb => ?_)
  ·exact (lt_f hi hb).elim
  ·refine Tri.exit ?_
   exact Exists.intro vo3 (And.intro h (Ee [3] rfl ⟨imf icl_im, trivial⟩))
 ·rintro nx x v11 vo3 _ hi hw hx h
  refine Tp rfl ?_
  refine Tri.seq ?_
  refine Tri.cond (b := (decide (v11 < (a0.flow.length : Int)))) rfl (fun hb_1 => ?_) (fun hb_1 => ?_)
  ·refine Tri.skip ?_
   refine Tri.seq ?_
   refine Tri.block ?_
   refine Tr ?_
   refine Qe 1 rfl ?_
   refine Q1 rfl rfl rfl (Ax.ix (cl := icl) rfl slc_26 rfl rfl hx) ?_
   refine Qd rfl ?_
   refine Tp rfl ?_
   obtain ⟨vo3_2, hj_1, h⟩ := bind_some h
   refine Tri.joinv vo3_2 (fun (y : List Int) => ⟨[(3, .hnd 21), (9, .lst 1 (a0.flow.map icl)), (10, Ai (a0.flow.length : Int)), (11, Ai v11)], [(21, some (.arr 3 1 (y.map icl)))]⟩) ?_ ?_
   ·refine Tq rfl ?_
    exact Exists.intro (v11 + 1, vo3_2) (And.intro (And.intro rfl h) (Es [21] [11] rfl ⟨imf icl_im, trivial⟩ ⟨.imm (Sub.of_eq (show Ai (v11 + 1) = Ai (W (v11 + 1)) from congrArg Ai hw.symm)) rfl, trivial⟩))
   ·have h := hj_1
    refine Tri.cond (b := (decide (x > 0))) rfl (fun hb_2 => ?_) (fun hb_2 => ?_)
    ·have h := cond_t hb_2 h
     refine Tri.region ?_
     refine Qe 2 rfl ?_
     refine Q1 rfl rfl rfl (v := .lst 1 (([v11] : List Int).map icl)) (Ax.sl (xs := ([v11] : List Int)) rfl slc_26 rfl rfl ⟨Sub.refl _, trivial⟩ rfl icl_len icl_one icl_im) ?_
     obtain ⟨z21, hz, h⟩ := bind_some h
     refine Qa rfl rfl rfl (v := .hnd 21) (x := some (.arr 3 1 (z21.map icl))) (Ax.app_l (cl := icl) rfl rfl slc_26 rfl rfl rfl icl_one icl_im hz rfl rfl) rfl rfl rfl rfl rfl ?_
     refine Qd rfl ?_
     exact Exists.intro z21 (And.intro h (Ee [21] rfl ⟨imf icl_im, trivial⟩))
    ·have h := cond_f hb_2 h
     refine Tri.skip ?_
     exact Exists.intro vo3 (And.intro h (Ee [3] rfl ⟨imf icl_im, trivial⟩))
  ·exact (lt_t hi hb_1).elim
theorem f366_fr {K : Nat} {a0 : List Diff} {r : List Diff} (h : f366 K a0 = some r) : CallOK Tryz.prog 366 [.lst 3 (a0.map Diff.cl)] [] (.hnd 20320000) [(20320000, .arr 174 3 (r.map Diff.cl))] := by
 unfold f366 at h
 have hr := (app_spec h).2
 rw [List.nil_append] at hr
 subst hr
 cases r with
 | nil =>
  refine CallOK.lst0 fun a cap => ?_
  refine CallOK.of_tri Tryz.func366 rfl rfl (Nat.le_of_ble_eq_true rfl) ?_
  refine Tr ?_
  refine Q1 rfl rfl rfl (v := .lst 3 (([] : List Diff).map Diff.cl)) (Ax.nl 3 rfl rfl) ?_
  refine RunD.done ?_
  refine Tri.seq ?_
  refine Tr ?_
  refine Q1 rfl rfl rfl (v := .sc (.slice a 0 cap)) (Ax.mv rfl rfl) ?_
  refine Q1 rfl rfl rfl (v := Ab a.isNone) (Ax.nilc rfl uns_32 rfl rfl) ?_
  refine RunD.done ?_
  refine Tri.cond (b := a.isNone) rfl (fun hb => ?_) (fun hb => ?_)
  ·refine Tr ?_
   refine Qn rfl rfl rfl (v := .hnd 2) (x := some (.arr 174 3 (([] : List Diff).map Diff.cl))) (Ax.nil_new 174 3 (.inr rfl) rfl) rfl rfl rfl rfl rfl ?_
   refine RunD.done ?_
   refine Tri.ret ?_
   exact RetQ.mk (vs := [.hnd 2]) (.inr rfl) ⟨_, _, rfl, .tmp rfl, rfl⟩ [] [(20320000, 2, .arr 174 3 (([] : List Diff).map Diff.cl))] rfl rfl ⟨⟨_, rfl, .arr (im_flat Diff_im [])⟩, trivial⟩ (.hnd (List.Mem.head _))
  ·refine Tri.skip ?_
   refine Tr ?_
   refine Qn rfl rfl rfl (v := .hnd 5) (x := some (.arr 174 3 (([] : List Diff).map Diff.cl))) (Ax.slice_new rfl rfl slc_32) rfl rfl rfl rfl rfl ?_
   refine Q1 rfl rfl rfl (v := .lst 3 (([] : List Diff).map Diff.cl)) (Ax.move (.inl rfl) (Sub.lstE _ _ _)) ?_
   refine Qa rfl rfl rfl (v := .hnd 7) (x := some (.arr 174 3 (([] : List Diff).map Diff.cl))) (Ax.app_l (cl := Diff.cl) rfl rfl slc_32 rfl rfl rfl Diff_one Diff_im h rfl rfl) rfl rfl rfl rfl rfl ?_
   refine Q1 rfl rfl rfl (v := .hnd 7) (Ax.as rfl rfl) ?_
   refine RunD.done ?_
   refine Tri.ret ?_
   exact RetQ.mk (vs := [.hnd 7]) (.inr rfl) ⟨_, _, rfl, .tmp rfl, rfl⟩ [] [(20320000, 7, .arr 174 3 (([] : List Diff).map Diff.cl))] rfl rfl ⟨⟨_, rfl, .arr (im_flat Diff_im [])⟩, trivial⟩ (.hnd (List.Mem.head _))
 | cons x xs =>
  refine CallOK.of_tri Tryz.func366 rfl rfl (Nat.le_of_ble_eq_true rfl) ?_
  refine Tr ?_
  refine Q1 rfl rfl rfl (v := .lst 3 (([] : List Diff).map Diff.cl)) (Ax.nl 3 rfl rfl) ?_
  refine RunD.done ?_
  refine Tri.seq ?_
  refine Tr ?_
  refine Q1 rfl rfl rfl (v := .lst 3 ((x :: xs : List Diff).map Diff.cl)) (Ax.mv rfl rfl) ?_
  refine Q1 rfl rfl rfl (v := Ab false) (Ax.nilcmp rfl uns_32 rfl (by simp)) ?_
  refine RunD.done ?_
  refine Tri.cond_f rfl ?_
  refine Tri.skip ?_
  refine Tr ?_
  refine Qn rfl rfl rfl (v := .hnd 5) (x := some (.arr 174 3 (([] : List Diff).map Diff.cl))) (Ax.slice_new rfl rfl slc_32) rfl rfl rfl rfl rfl ?_
  refine Q1 rfl rfl rfl (v := .lst 3 (((x :: xs) : List Diff).map Diff.cl)) (Ax.mv rfl rfl) ?_
  refine Qa rfl rfl rfl (v := .hnd 7) (x := some (.arr 174 3 (((x :: xs) : List Diff).map Diff.cl))) (Ax.app_l (cl := Diff.cl) rfl rfl slc_32 rfl rfl rfl Diff_one Diff_im h rfl rfl) rfl rfl rfl rfl rfl ?_
  refine Q1 rfl rfl rfl (v := .hnd 7) (Ax.as rfl rfl) ?_
  refine RunD.done ?_
  refine Tri.ret ?_
  exact RetQ.mk (vs := [.hnd 7]) (.inr rfl) ⟨_, _, rfl, .tmp rfl, rfl⟩ [] [(20320000, 7, .arr 174 3 (((x :: xs) : List Diff).map Diff.cl))] rfl rfl ⟨⟨_, rfl, .arr (im_flat Diff_im (x :: xs))⟩, trivial⟩ (.hnd (List.Mem.head _))
theorem f359_ok {K : Nat} {a0 : Use_diffs} {r : List Diff} (h : f359 K a0 = some r) : CallOK Tryz.prog 359 [.ipt (Use_diffs.cl a0) 0] [] (.lst 3 (r.map Diff.cl)) [] := by
 refine CallOK.of_tri Tryz.func359 rfl rfl (Nat.le_of_ble_eq_true rfl) ?_
 unfold f359 at h
 refine Tr ?_
 refine Qn rfl rfl rfl (v := .hnd 2) (x := some (.arr 174 3 (([] : List Diff).map Diff.cl))) (Ax.nil_new 174 3 (.inr rfl) rfl) rfl rfl rfl rfl rfl ?_
 refine RunD.done ?_
 refine Tr ?_
 refine Qe 1 rfl ?_
 refine Q1 rfl rfl rfl (Ax.nil_ipt rfl rfl) ?_
 refine Qe 3 rfl ?_
 obtain ⟨x12, hc, h⟩ := bind_some h
 refine Qo [] [(20320000, .arr 174 3 (x12.map Diff.cl))] [20320000] rfl rfl rfl (args := [.lst 3 (a0.Net.Diffs.map Diff.cl)]) (r := .hnd 20320000) (calv rfl rfl fnok_366 rfl) (f366_fr hc) trivial rfl rfl rfl rfl rfl ?_
 refine Qd rfl ?_
 refine Tri.seq ?_
 refine Tr ?_
 refine Qe 1 rfl ?_
 obtain ⟨x14, hc_1, h⟩ := bind_some h
 refine Qo [] [(3615000, .arr 3 1 (x14.map icl))] [3615000] rfl rfl rfl (args := [.ipt (Use_diffs.cl a0) 0]) (r := .hnd 3615000) (calv rfl rfl fnok_360 rfl) (f360_fr hc_1) trivial rfl rfl rfl rfl rfl ?_
 refine Q1 rfl rfl rfl (Ax.lnh (cl := icl) rfl slc_26 rfl rfl) ?_
 refine Qd rfl ?_
 obtain ⟨vo3_1, hj, h⟩ := bind_some h
 refine Tri.rngLv hj (fun p => ⟨[(0, .ipt (Use_diffs.cl a0) 0), (3, .hnd 20320000), (14, .hnd 3615000), (15, Ai (x14.length : Int)), (16, Ai p.1)], [(20320000, some (.arr 174 3 (p.2.map Diff.cl))), (3615000, some (.arr 3 1 (x14.map icl)))]⟩) (fun (y : List Diff) => ⟨[(3, .hnd 20320000)], [(20320000, some (.arr 174 3 (y.map Diff.cl)))]⟩) (Ee [20320000, 3615000] rfl ⟨imf Diff_im, imf icl_im, trivial⟩) ?_ ?_ ?_
 ·refine Tp rfl ?_
  refine Tri.ret ?_
  refine RetQ.eq2 (fun r => .lst 3 (r.map Diff.cl)) (fun r => []) (Option.some.inj h) ?_
  exact RetQ.mk (vs := [.hnd 20320000]) (.inr rfl) ⟨_, _, rfl, .tmp rfl, rfl⟩ [20320000] [] rfl rfl trivial (.frz (.hnd (List.Mem.head _) rfl (im_flat Diff_im vo3_1)) rfl)
 ·rintro v16 vo3 hi h
  refine Tp rfl ?_
  refine Tri.seq ?_
  refine Tri.cond (b := (decide (v16 < (x14.length : Int)))) rfl (fun hb => ?_) (fun hb => ?_)
  ·exact (lt_f hi hb).elim
  ·refine Tri.exit ?_
   exact Exists.intro vo3 (And.intro h (Ee [20320000] rfl ⟨imf Diff_im, trivial⟩))
 ·rintro nx x v16 vo3 _ hi hw hx h
  refine Tp rfl ?_
  refine Tri.seq ?_
  refine Tri.cond (b := (decide (v16 < (x14.length : Int)))) rfl (fun hb_1 => ?_) (fun hb_1 => ?_)
  ·refine Tri.skip ?_
   refine Tri.seq ?_
   refine Tri.block ?_
   refine Tr ?_
   refine Q1 rfl rfl rfl (Ax.ixh (cl := icl) rfl slc_26 rfl rfl rfl hx) ?_
   refine Q1 rfl rfl rfl (Ax.l1_arr (cl := icl) rfl siz_3 rfl rfl hx rfl) ?_
   refine Qd rfl ?_
   refine Tr ?_
   refine Qe 1 rfl ?_
   refine Q1 rfl rfl rfl (Ax.nil_ipt rfl rfl) ?_
   refine Qe 4 rfl ?_
   obtain ⟨y, hy, h⟩ := bind_some h
   refine Q1 rfl rfl rfl (Ax.ix (cl := Diff.cl) rfl slc_32 rfl rfl hy) ?_
   refine Qe 1 rfl ?_
   refine Qn rfl rfl rfl (v := .ptr 6 0) (x := some (.box (Diff.cl (⟨0, 0, 0⟩ : Diff)))) (Ax.alloc rfl rfl zer_174 rfl ⟨Sub.refl _, Sub.refl _, Sub.refl _, trivial⟩) rfl rfl rfl rfl rfl ?_
   refine Qs rfl rfl (x := some (.box (Diff.cl y))) (Ax.st_box rfl siz_174 rfl rfl rfl rfl rfl rfl rfl) ?_
   refine RunD.done ?_
   refine Tri.region ?_
   refine Qe 8 rfl ?_
   refine Q1 rfl rfl rfl (v := .agg (Diff.cl (⟨y.To, y.From, (W (-y.Most))⟩ : Diff))) (Ax.build rfl zer_174 (bld plc_174 zer_174) rfl ⟨Sub.refl _, Sub.refl _, Sub.refl _, trivial⟩) ?_
   refine Q1 rfl rfl rfl (v := .lst 3 (([(⟨y.To, y.From, (W (-y.Most))⟩ : Diff)] : List Diff).map Diff.cl)) (Ax.sl (xs := ([(⟨y.To, y.From, (W (-y.Most))⟩ : Diff)] : List Diff)) rfl slc_32 rfl rfl ⟨Sub.refl _, Sub.refl _, Sub.refl _, trivial⟩ rfl Diff_len Diff_one Diff_im) ?_
   obtain ⟨z38, hz, h⟩ := bind_some h
   refine Qa rfl rfl rfl (v := .hnd 38) (x := some (.arr 174 3 (z38.map Diff.cl))) (Ax.app_l (cl := Diff.cl) rfl rfl slc_32 rfl rfl rfl Diff_one Diff_im hz rfl rfl) rfl rfl rfl rfl rfl ?_
   refine Qd rfl ?_
   refine Tq rfl ?_
   exact Exists.intro (v16 + 1, z38) (And.intro (And.intro rfl h) (Es [38, 3615000] [16] rfl ⟨imf Diff_im, imf icl_im, trivial⟩ ⟨.imm (Sub.of_eq (show Ai (v16 + 1) = Ai (W (v16 + 1)) from congrArg Ai hw.symm)) rfl, trivial⟩))
  ·exact (lt_t hi hb_1).elim
theorem f359_fr {K : Nat} {a0 : Use_diffs} {r : List Diff} (h : f359 K a0 = some r) : CallOK Tryz.prog 359 [.ipt (Use_diffs.cl a0) 0] [] (.hnd 3605000) [(3605000, .arr 174 3 (r.map Diff.cl))] := by
 refine CallOK.of_tri Tryz.func359 rfl rfl (Nat.le_of_ble_eq_true rfl) ?_
 unfold f359 at h
 refine Tr ?_
 refine Qn rfl rfl rfl (v := .hnd 2) (x := some (.arr 174 3 (([] : List Diff).map Diff.cl))) (Ax.nil_new 174 3 (.inr rfl) rfl) rfl rfl rfl rfl rfl ?_
 refine RunD.done ?_
 refine Tr ?_
 refine Qe 1 rfl ?_
 refine Q1 rfl rfl rfl (Ax.nil_ipt rfl rfl) ?_
 refine Qe 3 rfl ?_
 obtain ⟨x12, hc, h⟩ := bind_some h
 refine Qo [] [(20320000, .arr 174 3 (x12.map Diff.cl))] [20320000] rfl rfl rfl (args := [.lst 3 (a0.Net.Diffs.map Diff.cl)]) (r := .hnd 20320000) (calv rfl rfl fnok_366 rfl) (f366_fr hc) trivial rfl rfl rfl rfl rfl ?_
 refine Qd rfl ?_
 refine Tri.seq ?_
 refine Tr ?_
 refine Qe 1 rfl ?_
 obtain ⟨x14, hc_1, h⟩ := bind_some h
 refine Qo [] [(3615000, .arr 3 1 (x14.map icl))] [3615000] rfl rfl rfl (args := [.ipt (Use_diffs.cl a0) 0]) (r := .hnd 3615000) (calv rfl rfl fnok_360 rfl) (f360_fr hc_1) trivial rfl rfl rfl rfl rfl ?_
 refine Q1 rfl rfl rfl (Ax.lnh (cl := icl) rfl slc_26 rfl rfl) ?_
 refine Qd rfl ?_
 obtain ⟨vo3_1, hj, h⟩ := bind_some h
 refine Tri.rngLv hj (fun p => ⟨[(0, .ipt (Use_diffs.cl a0) 0), (3, .hnd 20320000), (14, .hnd 3615000), (15, Ai (x14.length : Int)), (16, Ai p.1)], [(20320000, some (.arr 174 3 (p.2.map Diff.cl))), (3615000, some (.arr 3 1 (x14.map icl)))]⟩) (fun (y : List Diff) => ⟨[(3, .hnd 20320000)], [(20320000, some (.arr 174 3 (y.map Diff.cl)))]⟩) (Ee [20320000, 3615000] rfl ⟨imf Diff_im, imf icl_im, trivial⟩) ?_ ?_ ?_
 ·refine Tp rfl ?_
  refine Tri.ret ?_
  refine Rr (fun r => .hnd 3605000) (fun r => [(3605000, .arr 174 3 (r.map Diff.cl))]) [20320000] h ?_ ?_
  ·rfl
  exact ⟨imf Diff_im, trivial⟩
 ·rintro v16 vo3 hi h
  refine Tp rfl ?_
  refine Tri.seq ?_
  refine Tri.cond (b := (decide (v16 < (x14.length : Int)))) rfl (fun hb => ?_) (fun hb => ?_)
  ·exact (lt_f hi hb).elim
  ·refine Tri.exit ?_
   exact Exists.intro vo3 (And.intro h (Ee [20320000] rfl ⟨imf Diff_im, trivial⟩))
 ·rintro nx x v16 vo3 _ hi hw hx h
  refine Tp rfl ?_
  refine Tri.seq ?_
  refine Tri.cond (b := (decide (v16 < (x14.length : Int)))) rfl (fun hb_1 => ?_) (fun hb_1 => ?_)
  ·refine Tri.skip ?_
   refine Tri.seq ?_
   refine Tri.block ?_
   refine Tr ?_
   refine Q1 rfl rfl rfl (Ax.ixh (cl := icl) rfl slc_26 rfl rfl rfl hx) ?_
   refine Q1 rfl rfl rfl (Ax.l1_arr (cl := icl) rfl siz_3 rfl rfl hx rfl) ?_
   refine Qd rfl ?_
   refine Tr ?_
   refine Qe 1 rfl ?_
   refine Q1 rfl rfl rfl (Ax.nil_ipt rfl rfl) ?_
   refine Qe 4 rfl ?_
   obtain ⟨y, hy, h⟩ := bind_some h
   refine Q1 rfl rfl rfl (Ax.ix (cl := Diff.cl) rfl slc_32 rfl rfl hy) ?_
   refine Qe 1 rfl ?_
   refine Qn rfl rfl rfl (v := .ptr 6 0) (x := some (.box (Diff.cl (⟨0, 0, 0⟩ : Diff)))) (Ax.alloc rfl rfl zer_174 rfl ⟨Sub.refl _, Sub.refl _, Sub.refl _, trivial⟩) rfl rfl rfl rfl rfl ?_
   refine Qs rfl rfl (x := some (.box (Diff.cl y))) (Ax.st_box rfl siz_174 rfl rfl rfl rfl rfl rfl rfl) ?_
   refine RunD.done ?_
   refine Tri.region ?_
   refine Qe 8 rfl ?_
   refine Q1 rfl rfl rfl (v := .agg (Diff.cl (⟨y.To, y.From, (W (-y.Most))⟩ : Diff))) (Ax.build rfl zer_174 (bld plc_174 zer_174) rfl ⟨Sub.refl _, Sub.refl _, Sub.refl _, trivial⟩) ?_
   refine Q1 rfl rfl rfl (v := .lst 3 (([(⟨y.To, y.From, (W (-y.Most))⟩ : Diff)] : List Diff).map Diff.cl)) (Ax.sl (xs := ([(⟨y.To, y.From, (W (-y.Most))⟩ : Diff)] : List Diff)) rfl slc_32 rfl rfl ⟨Sub.refl _, Sub.refl _, Sub.refl _, trivial⟩ rfl Diff_len Diff_one Diff_im) ?_
   obtain ⟨z38, hz, h⟩ := bind_some h
   refine Qa rfl rfl rfl (v := .hnd 38) (x := some (.arr 174 3 (z38.map Diff.cl))) (Ax.app_l (cl := Diff.cl) rfl rfl slc_32 rfl rfl rfl Diff_one Diff_im hz rfl rfl) rfl rfl rfl rfl rfl ?_
   refine Qd rfl ?_
   refine Tq rfl ?_
   exact Exists.intro (v16 + 1, z38) (And.intro (And.intro rfl h) (Es [38, 3615000] [16] rfl ⟨imf Diff_im, imf icl_im, trivial⟩ ⟨.imm (Sub.of_eq (show Ai (v16 + 1) = Ai (W (v16 + 1)) from congrArg Ai hw.symm)) rfl, trivial⟩))
  ·exact (lt_t hi hb_1).elim
theorem f385_ok {K : Nat} {a0 : Use_diffs} {r : Int} (h : f385 K a0 = some r) : CallOK Tryz.prog 385 [.ipt (Use_diffs.cl a0) 0] [] (Ai r) [] := by
 refine CallOK.of_tri Tryz.func385 rfl rfl (Nat.le_of_ble_eq_true rfl) ?_
 unfold f385 at h
 refine Tp rfl ?_
 refine Tr ?_
 refine Qe 1 rfl ?_
 refine Q1 rfl rfl rfl (Ax.nil_ipt rfl rfl) ?_
 refine Qd rfl ?_
 refine Tri.ret ?_
 exact Ri h rfl
end Go.Proofs.YthlchdnbokhclaaGreat.Ql

import Derived.Test.YthlchdnbokhclaaGreatQt
import Derived.Test.YthlchdnbokhclaaGreatQg6
import Derived.Test.YthlchdnbokhclaaGreatQg2
set_option linter.all false
namespace Go.Proofs.YthlchdnbokhclaaGreat.Ql
open Go Go.Proofs
set_option maxRecDepth 100000
set_option maxHeartbeats 0
theorem f103_ok {K : Nat} {a0 : Scene} {r : Net × List Reason} (h : f103 K a0 = some r) : CallOK Tryz.prog 103 [.agg (Scene.cl a0)] [] (.tup [.agg (Net.cl r.1), .lst 4 (r.2.map Reason.cl)]) [] := by
 refine CallOK.of_tri Tryz.func103 rfl rfl (Nat.le_of_ble_eq_true rfl) ?_
 unfold f103 at h
 refine Tr ?_
 refine Qe 1 rfl ?_
 refine Qn rfl rfl rfl (v := .ptr 2 0) (x := some (.box (Net.cl (⟨0, ([] : List Diff)⟩ : Net)))) (Ax.alloc rfl rfl zer_34 rfl ⟨Sub.refl _, Sub.nil _, trivial⟩) rfl rfl rfl rfl rfl ?_
 refine Q1 rfl rfl rfl (v := .lst 4 (([] : List Reason).map Reason.cl)) (Ax.nl 4 rfl rfl) ?_
 refine RunD.done ?_
 refine Tr ?_
 refine Qn rfl rfl rfl (v := .ptr 4 0) (x := some (.box [.sc (.slice none 0 0), .sc (.slice none 0 0)])) (Ax.alloc rfl rfl zer_293 rfl ⟨Sub.refl _, Sub.refl _, trivial⟩) rfl rfl rfl rfl rfl ?_
 refine RunD.done ?_
 refine Tri.ent (Ent.ghost 4 0 900000400 174 3 (cells' := [.hnd 900000400, .sc (.slice none 0 0)]) rfl rfl rfl rfl) ?_
 refine Tri.ent (Ent.ghost 4 1 901000401 42 4 (cells' := [.hnd 900000400, .hnd 901000401]) rfl rfl rfl rfl) ?_
 refine Tr ?_
 refine Qe 2 rfl ?_
 refine Qn rfl rfl rfl (v := .ptr 5 0) (x := some (.box (Basin.cl (⟨([] : List Cell), ([] : List Arr2_3), 0, 0, 0⟩ : Basin)))) (Ax.alloc rfl rfl zer_25 rfl ⟨Sub.nil _, Sub.nil _, Sub.refl _, Sub.refl _, Sub.refl _, trivial⟩) rfl rfl rfl rfl rfl ?_
 refine Qs rfl rfl (x := some (.box (Basin.cl a0.Basin))) (Ax.st_box rfl siz_25 rfl rfl rfl rfl rfl rfl rfl) ?_
 refine RunD.done ?_
 refine Tri.seq ?_
 refine Tp rfl ?_
 obtain ⟨⟨voo4_0_1, voo4_1_1⟩, hj, h⟩ := bind_some h
 refine Tri.rngLv hj (fun p => ⟨[(1, .ipt (Scene.cl a0) 0), (2, .ptr 2 0), (4, .ptr 4 0), (5, .ptr 5 0), (6, Ai p.1)], [(2, some (.box (Net.cl (⟨0, ([] : List Diff)⟩ : Net)))), (900000400, some (.arr 174 3 (p.2.1.map Diff.cl))), (901000401, some (.arr 42 4 (p.2.2.map Reason.cl))), (4, some (.box [.hnd 900000400, .hnd 901000401])), (5, some (.box (Basin.cl a0.Basin)))]⟩) (fun (y : List Diff × List Reason) => ⟨[(1, .ipt (Scene.cl a0) 0), (2, .ptr 2 0), (4, .ptr 4 0), (5, .ptr 5 0)], [(2, some (.box (Net.cl (⟨0, ([] : List Diff)⟩ : Net)))), (900000400, some (.arr 174 3 (y.1.map Diff.cl))), (901000401, some (.arr 42 4 (y.2.map Reason.cl))), (4, some (.box [.hnd 900000400, .hnd 901000401])), (5, some (.box (Basin.cl a0.Basin)))]⟩) (Ee [2, 900000400, 901000401, 4, 5] rfl ⟨im_flat Diff_im ([] : List Diff), im_flat Reason_im ([] : List Reason), trivial⟩) ?_ ?_ ?_
 ·refine Tri.seq ?_
  refine Tp rfl ?_
  obtain ⟨⟨voo4_0_3, voo4_1_3⟩, hj_1, h⟩ := bind_some h
  refine Tri.rngLv hj_1 (fun p => ⟨[(1, .ipt (Scene.cl a0) 0), (2, .ptr 2 0), (4, .ptr 4 0), (5, .ptr 5 0), (13, Ai p.1)], [(2, some (.box (Net.cl (⟨0, ([] : List Diff)⟩ : Net)))), (900000400, some (.arr 174 3 (p.2.1.map Diff.cl))), (901000401, some (.arr 42 4 (p.2.2.map Reason.cl))), (4, some (.box [.hnd 900000400, .hnd 901000401])), (5, some (.box (Basin.cl a0.Basin)))]⟩) (fun (y : List Diff × List Reason) => ⟨[(1, .ipt (Scene.cl a0) 0), (2, .ptr 2 0), (4, .ptr 4 0), (5, .ptr 5 0)], [(2, some (.box (Net.cl (⟨0, ([] : List Diff)⟩ : Net)))), (900000400, some (.arr 174 3 (y.1.map Diff.cl))), (901000401, some (.arr 42 4 (y.2.map Reason.cl))), (4, some (.box [.hnd 900000400, .hnd 901000401])), (5, some (.box (Basin.cl a0.Basin)))]⟩) (Ee [2, 900000400, 901000401, 4, 5] rfl ⟨imf Diff_im, imf Reason_im, trivial⟩) ?_ ?_ ?_
  ·refine Tri.seq ?_
   refine Tp rfl ?_
   obtain ⟨⟨voo4_0_5, voo4_1_5⟩, hj_2, h⟩ := bind_some h
   refine Tri.rngLv hj_2 (fun p => ⟨[(1, .ipt (Scene.cl a0) 0), (2, .ptr 2 0), (4, .ptr 4 0), (5, .ptr 5 0), (16, Ai p.1)], [(2, some (.box (Net.cl (⟨0, ([] : List Diff)⟩ : Net)))), (900000400, some (.arr 174 3 (p.2.1.map Diff.cl))), (901000401, some (.arr 42 4 (p.2.2.map Reason.cl))), (4, some (.box [.hnd 900000400, .hnd 901000401])), (5, some (.box (Basin.cl a0.Basin)))]⟩) (fun (y : List Diff × List Reason) => ⟨[(1, .ipt (Scene.cl a0) 0), (2, .ptr 2 0), (4, .ptr 4 0), (5, .ptr 5 0)], [(2, some (.box (Net.cl (⟨0, ([] : List Diff)⟩ : Net)))), (900000400, some (.arr 174 3 (y.1.map Diff.cl))), (901000401, some (.arr 42 4 (y.2.map Reason.cl))), (4, some (.box [.hnd 900000400, .hnd 901000401])), (5, some (.box (Basin.cl a0.Basin)))]⟩) (Ee [2, 900000400, 901000401, 4, 5] rfl ⟨imf Diff_im, imf Reason_im, trivial⟩) ?_ ?_ ?_
   ·refine Tri.seq ?_
    refine Tri.drawn [[], [0], [0, 1], [], [3], [3, 4], [0, 1, 2, 3, 4, 5], [0, 1, 2, 3, 4, 5, 6], [], [8], [0, 1, 2, 3, 4, 5, 6, 7, 8, 9], [], [], [0, 1, 2, 3, 4, 5, 6, 7, 8, 9, 10], []] hmix (by kernel_rfl) ?_
    refine Qe 2 rfl ?_
    refine Q1 rfl rfl rfl (Ax.ln (cl := Cell.cl) rfl slc_22 rfl) ?_
    refine Qe 2 rfl ?_
    refine Q1 rfl rfl rfl (Ax.ln (cl := icl) rfl slc_26 rfl) ?_
    refine Qe 4 rfl ?_
    refine Q1 rfl rfl rfl (v := .agg [Ai (W (1 + (W ((a0.Basin.Cells.length : Int) * (a0.Days.length : Int))))), .hnd 900000400]) (Ax.build rfl zer_34 (bld plc_34 zer_34) rfl ⟨Sub.refl _, Sub.refl _, trivial⟩) ?_
    refine Qe 2 rfl ?_
    refine Qs rfl rfl (x := some (.box [Ai (W (1 + (W ((a0.Basin.Cells.length : Int) * (a0.Days.length : Int))))), .hnd 900000400])) (Ax.st_box rfl siz_34 rfl rfl rfl rfl rfl rfl rfl) ?_
    refine Qe 1 rfl ?_
    refine RunD.done ⟨by kernel_rfl, freshL_of [] (by kernel_rfl) (by kernel_rfl), ?_⟩
    refine Tri.ret ?_
    refine RetQ.eq2 (fun r => .tup [.agg (Net.cl r.1), .lst 4 (r.2.map Reason.cl)]) (fun r => []) (Option.some.inj h) ?_
    exact RetQ.mk (vs := [.agg [Ai (W (1 + (W ((a0.Basin.Cells.length : Int) * (a0.Days.length : Int))))), .hnd 900000400], .hnd 901000401]) (.inr rfl) ⟨_, _, rfl, .cell_box rfl siz_34 rfl rfl rfl, ⟨_, _, rfl, .tmp rfl, rfl⟩⟩ [900000400, 901000401] [] rfl rfl trivial (.tupV ⟨.frz (.aggV ⟨(.imm rfl), (.hnd (List.Mem.head _) rfl (im_flat Diff_im voo4_0_5)), trivial⟩) rfl, .frz (.hnd (List.Mem.tail _ (List.Mem.head _)) rfl (im_flat Reason_im voo4_1_5)) rfl, trivial⟩)
   ·rintro v16 ⟨voo4_0_4, voo4_1_4⟩ hi_2 h
    refine Tri.seq ?_
    refine Tr ?_
    refine Qe 3 rfl ?_
    refine Q1 rfl rfl rfl (Ax.ln (cl := Change.cl) rfl slc_28 rfl) ?_
    refine Qd rfl ?_
    refine Tri.cond (b := (decide (v16 < (a0.Changes.length : Int)))) rfl (fun hb => ?_) (fun hb => ?_)
    ·exact (lt_f hi_2 hb).elim
    ·refine Tri.exit ?_
     exact Exists.intro (voo4_0_4, voo4_1_4) (And.intro h (Ee [2, 900000400, 901000401, 4, 5] rfl ⟨imf Diff_im, imf Reason_im, trivial⟩))
   ·rintro nx_2 x_2 v16 ⟨voo4_0_4, voo4_1_4⟩ _ hi_2 hw_2 hx_2 h
    refine Tri.seq ?_
    refine Tr ?_
    refine Qe 3 rfl ?_
    refine Q1 rfl rfl rfl (Ax.ln (cl := Change.cl) rfl slc_28 rfl) ?_
    refine Qd rfl ?_
    refine Tri.cond (b := (decide (v16 < (a0.Changes.length : Int)))) rfl (fun hb_1 => ?_) (fun hb_1 => ?_)
    ·refine Tri.skip ?_
     refine Tri.seq ?_
     refine Tri.block ?_
     refine Tr ?_
     refine Qe 3 rfl ?_
     refine Q1 rfl rfl rfl (Ax.ix (cl := Change.cl) rfl slc_28 rfl rfl hx_2) ?_
     refine Qe 1 rfl ?_
     refine Qn rfl rfl rfl (v := .ptr 17 0) (x := some (.box (Change.cl (⟨0, 0, 0, 0, 0⟩ : Change)))) (Ax.alloc rfl rfl zer_67 rfl ⟨Sub.refl _, Sub.refl _, Sub.refl _, Sub.refl _, Sub.refl _, trivial⟩) rfl rfl rfl rfl rfl ?_
     refine Qs rfl rfl (x := some (.box (Change.cl x_2))) (Ax.st_box rfl siz_67 rfl rfl rfl rfl rfl rfl rfl) ?_
     refine RunD.done ?_
     refine Tr ?_
     refine Qe 3 rfl ?_
     obtain ⟨x204, hc, h⟩ := bind_some h
     refine Qc rfl rfl rfl (args := [.agg (Basin.cl a0.Basin), Ai x_2.Cell]) (r := Ai x204) (calv rfl rfl fnok_116 rfl) (f116_ok hc) rfl ?_
     refine Qd rfl ?_
     refine Tri.seq ?_
     refine Tri.drawn [[], [], [], [], [3], [2, 3, 4], [0, 1, 2, 3, 4, 5], [], [], [], [], [10], [0, 1, 2, 3, 4, 5, 6, 9, 10, 11], [0, 1, 2, 3, 4, 5, 6, 7, 8, 9, 10, 11, 12], [0, 1, 2, 3, 4, 5, 6, 7, 8, 9, 10, 11, 12, 13], [0, 1, 2, 3, 4, 5, 6, 7, 8, 9, 10, 11, 12, 13, 14]] hmix (by kernel_rfl) ?_
     refine Qe 5 rfl ?_
     obtain ⟨x210, hc_1, h⟩ := bind_some h
     refine Qc rfl rfl rfl (args := [.agg (Scene.cl a0), Ai x_2.From]) (r := Ai x210) (calv rfl rfl fnok_117 rfl) (f117_ok hc_1) rfl ?_
     obtain ⟨x211, hc_2, h⟩ := bind_some h
     refine Qc rfl rfl rfl (args := [.agg (Scene.cl a0), Ai x204, Ai x210]) (r := Ai x211) (calv rfl rfl fnok_205 rfl) (f205_ok hc_2) rfl ?_
     refine Qe 5 rfl ?_
     obtain ⟨x217, hc_3, h⟩ := bind_some h
     refine Qc rfl rfl rfl (args := [.agg (Scene.cl a0), Ai x_2.To]) (r := Ai x217) (calv rfl rfl fnok_117 rfl) (f117_ok hc_3) rfl ?_
     obtain ⟨x218, hc_4, h⟩ := bind_some h
     refine Qc rfl rfl rfl (args := [.agg (Scene.cl a0), Ai x204, Ai x217]) (r := Ai x218) (calv rfl rfl fnok_205 rfl) (f205_ok hc_4) rfl ?_
     refine Qe 2 rfl ?_
     refine RunD.done ⟨by kernel_rfl, freshL_of [] (by kernel_rfl) (by kernel_rfl), ?_⟩
     refine Tri.seq ?_
     refine Tri.ent (Ent.norm [] [(2, 2, .box (Net.cl (⟨0, ([] : List Diff)⟩ : Net))), (4, 4, .box [.hnd 22930001, .hnd 22930002]), (5, 5, .box (Basin.cl a0.Basin)), (17, 17, .box (Change.cl x_2)), (22930001, 900000400, .arr 174 3 (voo4_0_4.map Diff.cl)), (22930002, 901000401, .arr 42 4 (voo4_1_4.map Reason.cl))] [(1, .ipt (Scene.cl a0) 0), (2, .ptr 2 0), (4, .ptr 4 0), (5, .ptr 5 0), (16, Ai v16), (17, .ptr 17 0), (19, Ai x211), (20, Ai x218)] rfl ⟨⟨_, rfl, .boxV ⟨.rfl' rfl, .rfl' rfl, trivial⟩⟩, ⟨_, rfl, .boxV ⟨.hnd (List.Mem.tail _ (List.Mem.tail _ (List.Mem.tail _ (List.Mem.tail _ (List.Mem.head _))))), .hnd (List.Mem.tail _ (List.Mem.tail _ (List.Mem.tail _ (List.Mem.tail _ (List.Mem.tail _ (List.Mem.head _)))))), trivial⟩⟩, ⟨_, rfl, .boxV ⟨.rfl' rfl, .rfl' rfl, .rfl' rfl, .rfl' rfl, .rfl' rfl, trivial⟩⟩, ⟨_, rfl, .boxV ⟨.rfl' rfl, .rfl' rfl, .rfl' rfl, .rfl' rfl, .rfl' rfl, trivial⟩⟩, ⟨_, rfl, .arr (im_flat Diff_im voo4_0_4)⟩, ⟨_, rfl, .arr (im_flat Reason_im voo4_1_4)⟩, trivial⟩ ⟨.rfl' rfl, .ptr (List.Mem.head _), .ptr (List.Mem.tail _ (List.Mem.head _)), .ptr (List.Mem.tail _ (List.Mem.tail _ (List.Mem.head _))), .rfl' rfl, .ptr (List.Mem.tail _ (List.Mem.tail _ (List.Mem.tail _ (List.Mem.head _)))), .rfl' rfl, .rfl' rfl, trivial⟩) ?_
     refine Tri.region ?_
     refine Qe 6 rfl ?_
     refine Q1 rfl rfl rfl (v := .agg (Reason.cl (⟨6, v16, 0, true⟩ : Reason))) (Ax.build rfl zer_42 (bld plc_42 zer_42) rfl ⟨Sub.refl _, Sub.refl _, Sub.refl _, Sub.refl _, trivial⟩) ?_
     obtain ⟨x226, hc_5, h⟩ := bind_some h
     refine Qo [(22930001, .arr 174 3 (voo4_0_4.map Diff.cl)), (22930002, .arr 42 4 (voo4_1_4.map Reason.cl))] [(2235001, .arr 174 3 (x226.l.map Diff.cl)), (2235002, .arr 42 4 (x226.r.map Reason.cl))] [2235001, 2235002] rfl rfl rfl (args := [.agg [.hnd 22930001, .hnd 22930002], Ai x211, Ai x218, Ai x_2.Hi, .agg (Reason.cl (⟨6, v16, 0, true⟩ : Reason))]) (r := .agg [.hnd 2235001, .hnd 2235002]) (calv rfl rfl fnok_222 rfl) (f222_fr hc_5) ⟨rfl, rfl, trivial⟩ rfl rfl rfl rfl rfl ?_
     refine Qs rfl rfl (x := some (.box [.hnd 2235001, .hnd 2235002])) (Ax.st_box rfl siz_293 rfl rfl rfl rfl rfl rfl rfl) ?_
     refine RunD.done ?_
     refine Tri.ent (Ent.norm [] [(2, 2, .box (Net.cl (⟨0, ([] : List Diff)⟩ : Net))), (4, 4, .box [.hnd 22930001, .hnd 22930002]), (5, 5, .box (Basin.cl a0.Basin)), (17, 17, .box (Change.cl x_2)), (22930001, 2235001, .arr 174 3 (x226.l.map Diff.cl)), (22930002, 2235002, .arr 42 4 (x226.r.map Reason.cl))] [(1, .ipt (Scene.cl a0) 0), (2, .ptr 2 0), (4, .ptr 4 0), (5, .ptr 5 0), (16, Ai v16), (17, .ptr 17 0), (19, Ai x211), (20, Ai x218)] rfl ⟨⟨_, rfl, .boxV ⟨.rfl' rfl, .rfl' rfl, trivial⟩⟩, ⟨_, rfl, .boxV ⟨.hnd (List.Mem.tail _ (List.Mem.tail _ (List.Mem.tail _ (List.Mem.tail _ (List.Mem.head _))))), .hnd (List.Mem.tail _ (List.Mem.tail _ (List.Mem.tail _ (List.Mem.tail _ (List.Mem.tail _ (List.Mem.head _)))))), trivial⟩⟩, ⟨_, rfl, .boxV ⟨.rfl' rfl, .rfl' rfl, .rfl' rfl, .rfl' rfl, .rfl' rfl, trivial⟩⟩, ⟨_, rfl, .boxV ⟨.rfl' rfl, .rfl' rfl, .rfl' rfl, .rfl' rfl, .rfl' rfl, trivial⟩⟩, ⟨_, rfl, .arr (im_flat Diff_im x226.l)⟩, ⟨_, rfl, .arr (im_flat Reason_im x226.r)⟩, trivial⟩ ⟨.rfl' rfl, .ptr (List.Mem.head _), .ptr (List.Mem.tail _ (List.Mem.head _)), .ptr (List.Mem.tail _ (List.Mem.tail _ (List.Mem.head _))), .rfl' rfl, .ptr (List.Mem.tail _ (List.Mem.tail _ (List.Mem.tail _ (List.Mem.head _)))), .rfl' rfl, .rfl' rfl, trivial⟩) ?_
     refine Tri.region ?_
     refine Qe 7 rfl ?_
     refine Q1 rfl rfl rfl (v := .agg (Reason.cl (⟨6, v16, 0, false⟩ : Reason))) (Ax.build rfl zer_42 (bld plc_42 zer_42) rfl ⟨Sub.refl _, Sub.refl _, Sub.refl _, Sub.refl _, trivial⟩) ?_
     obtain ⟨x235, hc_6, h⟩ := bind_some h
     refine Qo [(22930001, .arr 174 3 (x226.l.map Diff.cl)), (22930002, .arr 42 4 (x226.r.map Reason.cl))] [(2235001, .arr 174 3 (x235.l.map Diff.cl)), (2235002, .arr 42 4 (x235.r.map Reason.cl))] [2235001, 2235002] rfl rfl rfl (args := [.agg [.hnd 22930001, .hnd 22930002], Ai x218, Ai x211, Ai (W (-x_2.Lo)), .agg (Reason.cl (⟨6, v16, 0, false⟩ : Reason))]) (r := .agg [.hnd 2235001, .hnd 2235002]) (calv rfl rfl fnok_222 rfl) (f222_fr hc_6) ⟨rfl, rfl, trivial⟩ rfl rfl rfl rfl rfl ?_
     refine Qs rfl rfl (x := some (.box [.hnd 2235001, .hnd 2235002])) (Ax.st_box rfl siz_293 rfl rfl rfl rfl rfl rfl rfl) ?_
     refine RunD.done ?_
     refine Tq rfl ?_
     exact Exists.intro (v16 + 1, (x235.l, x235.r)) (And.intro (And.intro rfl h) (Es [2, 2235001, 2235002, 4, 5] [16] rfl ⟨imf Diff_im, imf Reason_im, trivial⟩ ⟨.imm (Sub.of_eq (show Ai (v16 + 1) = Ai (W (v16 + 1)) from congrArg Ai hw_2.symm)) rfl, trivial⟩))
    ·exact (lt_t hi_2 hb_1).elim
  ·rintro v13 ⟨voo4_0_2, voo4_1_2⟩ hi_1 h
   refine Tri.seq ?_
   refine Tr ?_
   refine Qe 3 rfl ?_
   refine Q1 rfl rfl rfl (Ax.ln (cl := Sight.cl) rfl slc_27 rfl) ?_
   refine Qd rfl ?_
   refine Tri.cond (b := (decide (v13 < (a0.Sights.length : Int)))) rfl (fun hb_2 => ?_) (fun hb_2 => ?_)
   ·exact (lt_f hi_1 hb_2).elim
   ·refine Tri.exit ?_
    exact Exists.intro (voo4_0_2, voo4_1_2) (And.intro h (Ee [2, 900000400, 901000401, 4, 5] rfl ⟨imf Diff_im, imf Reason_im, trivial⟩))
  ·rintro nx_1 x_1 v13 ⟨voo4_0_2, voo4_1_2⟩ _ hi_1 hw_1 hx_1 h
   refine Tri.seq ?_
   refine Tr ?_
   refine Qe 3 rfl ?_
   refine Q1 rfl rfl rfl (Ax.ln (cl := Sight.cl) rfl slc_27 rfl) ?_
   refine Qd rfl ?_
   refine Tri.cond (b := (decide (v13 < (a0.Sights.length : Int)))) rfl (fun hb_3 => ?_) (fun hb_3 => ?_)
   ·refine Tri.skip ?_
    refine Tri.seq ?_
    refine Tri.block ?_
    refine Tr ?_
    refine Qe 3 rfl ?_
    refine Q1 rfl rfl rfl (Ax.ix (cl := Sight.cl) rfl slc_27 rfl rfl hx_1) ?_
    refine Qe 1 rfl ?_
    refine Qn rfl rfl rfl (v := .ptr 14 0) (x := some (.box (Sight.cl (⟨0, 0, 0, 0, 0⟩ : Sight)))) (Ax.alloc rfl rfl zer_64 rfl ⟨Sub.refl _, Sub.refl _, Sub.refl _, Sub.refl _, Sub.refl _, trivial⟩) rfl rfl rfl rfl rfl ?_
    refine Qs rfl rfl (x := some (.box (Sight.cl x_1))) (Ax.st_box rfl siz_64 rfl rfl rfl rfl rfl rfl rfl) ?_
    refine RunD.done ?_
    refine Tri.seq ?_
    refine Tri.drawn [[], [], [], [2], [1, 2, 3], [], [], [6], [1, 2, 3, 4, 5, 6, 7], [0, 1, 2, 3, 4, 5, 6, 7, 8], [0, 1, 2, 3, 4, 5, 6, 7, 8, 9]] hmix (by kernel_rfl) ?_
    refine Qe 4 rfl ?_
    obtain ⟨x168, hc_7, h⟩ := bind_some h
    refine Qc rfl rfl rfl (args := [.agg (Basin.cl a0.Basin), Ai x_1.Cell]) (r := Ai x168) (calv rfl rfl fnok_116 rfl) (f116_ok hc_7) rfl ?_
    refine Qe 3 rfl ?_
    obtain ⟨x172, hc_8, h⟩ := bind_some h
    refine Qc rfl rfl rfl (args := [.agg (Scene.cl a0), Ai x_1.Day]) (r := Ai x172) (calv rfl rfl fnok_117 rfl) (f117_ok hc_8) rfl ?_
    obtain ⟨x173, hc_9, h⟩ := bind_some h
    refine Qc rfl rfl rfl (args := [.agg (Scene.cl a0), Ai x168, Ai x172]) (r := Ai x173) (calv rfl rfl fnok_205 rfl) (f205_ok hc_9) rfl ?_
    refine Qe 1 rfl ?_
    refine RunD.done ⟨by kernel_rfl, freshL_of [] (by kernel_rfl) (by kernel_rfl), ?_⟩
    refine Tri.seq ?_
    refine Tri.ent (Ent.norm [] [(2, 2, .box (Net.cl (⟨0, ([] : List Diff)⟩ : Net))), (4, 4, .box [.hnd 22930001, .hnd 22930002]), (5, 5, .box (Basin.cl a0.Basin)), (14, 14, .box (Sight.cl x_1)), (22930001, 900000400, .arr 174 3 (voo4_0_2.map Diff.cl)), (22930002, 901000401, .arr 42 4 (voo4_1_2.map Reason.cl))] [(1, .ipt (Scene.cl a0) 0), (2, .ptr 2 0), (4, .ptr 4 0), (5, .ptr 5 0), (13, Ai v13), (14, .ptr 14 0), (15, Ai x173)] rfl ⟨⟨_, rfl, .boxV ⟨.rfl' rfl, .rfl' rfl, trivial⟩⟩, ⟨_, rfl, .boxV ⟨.hnd (List.Mem.tail _ (List.Mem.tail _ (List.Mem.tail _ (List.Mem.tail _ (List.Mem.head _))))), .hnd (List.Mem.tail _ (List.Mem.tail _ (List.Mem.tail _ (List.Mem.tail _ (List.Mem.tail _ (List.Mem.head _)))))), trivial⟩⟩, ⟨_, rfl, .boxV ⟨.rfl' rfl, .rfl' rfl, .rfl' rfl, .rfl' rfl, .rfl' rfl, trivial⟩⟩, ⟨_, rfl, .boxV ⟨.rfl' rfl, .rfl' rfl, .rfl' rfl, .rfl' rfl, .rfl' rfl, trivial⟩⟩, ⟨_, rfl, .arr (im_flat Diff_im voo4_0_2)⟩, ⟨_, rfl, .arr (im_flat Reason_im voo4_1_2)⟩, trivial⟩ ⟨.rfl' rfl, .ptr (List.Mem.head _), .ptr (List.Mem.tail _ (List.Mem.head _)), .ptr (List.Mem.tail _ (List.Mem.tail _ (List.Mem.head _))), .rfl' rfl, .ptr (List.Mem.tail _ (List.Mem.tail _ (List.Mem.tail _ (List.Mem.head _)))), .rfl' rfl, trivial⟩) ?_
    refine Tri.region ?_
    refine Qe 5 rfl ?_
    refine Q1 rfl rfl rfl (v := .agg (Reason.cl (⟨5, v13, 0, true⟩ : Reason))) (Ax.build rfl zer_42 (bld plc_42 zer_42) rfl ⟨Sub.refl _, Sub.refl _, Sub.refl _, Sub.refl _, trivial⟩) ?_
    obtain ⟨x180, hc_10, h⟩ := bind_some h
    refine Qo [(22930001, .arr 174 3 (voo4_0_2.map Diff.cl)), (22930002, .arr 42 4 (voo4_1_2.map Reason.cl))] [(2235001, .arr 174 3 (x180.l.map Diff.cl)), (2235002, .arr 42 4 (x180.r.map Reason.cl))] [2235001, 2235002] rfl rfl rfl (args := [.agg [.hnd 22930001, .hnd 22930002], Ai 0, Ai x173, Ai x_1.Hi, .agg (Reason.cl (⟨5, v13, 0, true⟩ : Reason))]) (r := .agg [.hnd 2235001, .hnd 2235002]) (calv rfl rfl fnok_222 rfl) (f222_fr hc_10) ⟨rfl, rfl, trivial⟩ rfl rfl rfl rfl rfl ?_
    refine Qs rfl rfl (x := some (.box [.hnd 2235001, .hnd 2235002])) (Ax.st_box rfl siz_293 rfl rfl rfl rfl rfl rfl rfl) ?_
    refine RunD.done ?_
    refine Tri.ent (Ent.norm [] [(2, 2, .box (Net.cl (⟨0, ([] : List Diff)⟩ : Net))), (4, 4, .box [.hnd 22930001, .hnd 22930002]), (5, 5, .box (Basin.cl a0.Basin)), (14, 14, .box (Sight.cl x_1)), (22930001, 2235001, .arr 174 3 (x180.l.map Diff.cl)), (22930002, 2235002, .arr 42 4 (x180.r.map Reason.cl))] [(1, .ipt (Scene.cl a0) 0), (2, .ptr 2 0), (4, .ptr 4 0), (5, .ptr 5 0), (13, Ai v13), (14, .ptr 14 0), (15, Ai x173)] rfl ⟨⟨_, rfl, .boxV ⟨.rfl' rfl, .rfl' rfl, trivial⟩⟩, ⟨_, rfl, .boxV ⟨.hnd (List.Mem.tail _ (List.Mem.tail _ (List.Mem.tail _ (List.Mem.tail _ (List.Mem.head _))))), .hnd (List.Mem.tail _ (List.Mem.tail _ (List.Mem.tail _ (List.Mem.tail _ (List.Mem.tail _ (List.Mem.head _)))))), trivial⟩⟩, ⟨_, rfl, .boxV ⟨.rfl' rfl, .rfl' rfl, .rfl' rfl, .rfl' rfl, .rfl' rfl, trivial⟩⟩, ⟨_, rfl, .boxV ⟨.rfl' rfl, .rfl' rfl, .rfl' rfl, .rfl' rfl, .rfl' rfl, trivial⟩⟩, ⟨_, rfl, .arr (im_flat Diff_im x180.l)⟩, ⟨_, rfl, .arr (im_flat Reason_im x180.r)⟩, trivial⟩ ⟨.rfl' rfl, .ptr (List.Mem.head _), .ptr (List.Mem.tail _ (List.Mem.head _)), .ptr (List.Mem.tail _ (List.Mem.tail _ (List.Mem.head _))), .rfl' rfl, .ptr (List.Mem.tail _ (List.Mem.tail _ (List.Mem.tail _ (List.Mem.head _)))), .rfl' rfl, trivial⟩) ?_
    refine Tri.region ?_
    refine Qe 6 rfl ?_
    refine Q1 rfl rfl rfl (v := .agg (Reason.cl (⟨5, v13, 0, false⟩ : Reason))) (Ax.build rfl zer_42 (bld plc_42 zer_42) rfl ⟨Sub.refl _, Sub.refl _, Sub.refl _, Sub.refl _, trivial⟩) ?_
    obtain ⟨x188, hc_11, h⟩ := bind_some h
    refine Qo [(22930001, .arr 174 3 (x180.l.map Diff.cl)), (22930002, .arr 42 4 (x180.r.map Reason.cl))] [(2235001, .arr 174 3 (x188.l.map Diff.cl)), (2235002, .arr 42 4 (x188.r.map Reason.cl))] [2235001, 2235002] rfl rfl rfl (args := [.agg [.hnd 22930001, .hnd 22930002], Ai x173, Ai 0, Ai (W (-x_1.Lo)), .agg (Reason.cl (⟨5, v13, 0, false⟩ : Reason))]) (r := .agg [.hnd 2235001, .hnd 2235002]) (calv rfl rfl fnok_222 rfl) (f222_fr hc_11) ⟨rfl, rfl, trivial⟩ rfl rfl rfl rfl rfl ?_
    refine Qs rfl rfl (x := some (.box [.hnd 2235001, .hnd 2235002])) (Ax.st_box rfl siz_293 rfl rfl rfl rfl rfl rfl rfl) ?_
    refine RunD.done ?_
    refine Tq rfl ?_
    exact Exists.intro (v13 + 1, (x188.l, x188.r)) (And.intro (And.intro rfl h) (Es [2, 2235001, 2235002, 4, 5] [13] rfl ⟨imf Diff_im, imf Reason_im, trivial⟩ ⟨.imm (Sub.of_eq (show Ai (v13 + 1) = Ai (W (v13 + 1)) from congrArg Ai hw_1.symm)) rfl, trivial⟩))
   ·exact (lt_t hi_1 hb_3).elim
 ·rintro v6 ⟨voo4_0, voo4_1⟩ hi h
  refine Tri.seq ?_
  refine Tr ?_
  refine Qe 3 rfl ?_
  refine Q1 rfl rfl rfl (Ax.ln (cl := icl) rfl slc_26 rfl) ?_
  refine Qd rfl ?_
  refine Tri.cond (b := (decide (v6 < (a0.Days.length : Int)))) rfl (fun hb_4 => ?_) (fun hb_4 => ?_)
  ·exact (lt_f hi hb_4).elim
  ·refine Tri.exit ?_
   exact Exists.intro (voo4_0, voo4_1) (And.intro h (Ee [2, 900000400, 901000401, 4, 5] rfl ⟨imf Diff_im, imf Reason_im, trivial⟩))
 ·rintro nx x v6 ⟨voo4_0, voo4_1⟩ _ hi hw hx h
  refine Tri.seq ?_
  refine Tr ?_
  refine Qe 3 rfl ?_
  refine Q1 rfl rfl rfl (Ax.ln (cl := icl) rfl slc_26 rfl) ?_
  refine Qd rfl ?_
  refine Tri.cond (b := (decide (v6 < (a0.Days.length : Int)))) rfl (fun hb_5 => ?_) (fun hb_5 => ?_)
  ·refine Tri.skip ?_
   refine Tri.seq ?_
   refine Tri.block ?_
   refine Tri.seq ?_
   refine Tp rfl ?_
   obtain ⟨⟨voo4_0_7, voo4_1_7⟩, hj_3, h⟩ := bind_some h
   refine Tri.rngLv hj_3 (fun p => ⟨[(1, .ipt (Scene.cl a0) 0), (2, .ptr 2 0), (4, .ptr 4 0), (5, .ptr 5 0), (6, Ai v6), (7, Ai p.1)], [(2, some (.box (Net.cl (⟨0, ([] : List Diff)⟩ : Net)))), (900000400, some (.arr 174 3 (p.2.1.map Diff.cl))), (901000401, some (.arr 42 4 (p.2.2.map Reason.cl))), (4, some (.box [.hnd 900000400, .hnd 901000401])), (5, some (.box (Basin.cl a0.Basin)))]⟩) (fun (y : List Diff × List Reason) => ⟨[(1, .ipt (Scene.cl a0) 0), (2, .ptr 2 0), (4, .ptr 4 0), (5, .ptr 5 0), (6, Ai v6)], [(2, some (.box (Net.cl (⟨0, ([] : List Diff)⟩ : Net)))), (900000400, some (.arr 174 3 (y.1.map Diff.cl))), (901000401, some (.arr 42 4 (y.2.map Reason.cl))), (4, some (.box [.hnd 900000400, .hnd 901000401])), (5, some (.box (Basin.cl a0.Basin)))]⟩) (Ee [2, 900000400, 901000401, 4, 5] rfl ⟨imf Diff_im, imf Reason_im, trivial⟩) ?_ ?_ ?_
   ·refine Tp rfl ?_
    obtain ⟨⟨voo4_0_9, voo4_1_9⟩, hj_4, h⟩ := bind_some h
    refine Tri.rngLv hj_4 (fun p => ⟨[(1, .ipt (Scene.cl a0) 0), (2, .ptr 2 0), (4, .ptr 4 0), (5, .ptr 5 0), (6, Ai v6), (8, Ai p.1)], [(2, some (.box (Net.cl (⟨0, ([] : List Diff)⟩ : Net)))), (900000400, some (.arr 174 3 (p.2.1.map Diff.cl))), (901000401, some (.arr 42 4 (p.2.2.map Reason.cl))), (4, some (.box [.hnd 900000400, .hnd 901000401])), (5, some (.box (Basin.cl a0.Basin)))]⟩) (fun (y : List Diff × List Reason) => ⟨[(1, .ipt (Scene.cl a0) 0), (2, .ptr 2 0), (4, .ptr 4 0), (5, .ptr 5 0), (6, Ai v6)], [(2, some (.box (Net.cl (⟨0, ([] : List Diff)⟩ : Net)))), (900000400, some (.arr 174 3 (y.1.map Diff.cl))), (901000401, some (.arr 42 4 (y.2.map Reason.cl))), (4, some (.box [.hnd 900000400, .hnd 901000401])), (5, some (.box (Basin.cl a0.Basin)))]⟩) (Ee [2, 900000400, 901000401, 4, 5] rfl ⟨imf Diff_im, imf Reason_im, trivial⟩) ?_ ?_ ?_
    ·refine Tq rfl ?_
     exact Exists.intro (v6 + 1, (voo4_0_9, voo4_1_9)) (And.intro (And.intro rfl h) (Es [2, 900000400, 901000401, 4, 5] [6] rfl ⟨imf Diff_im, imf Reason_im, trivial⟩ ⟨.imm (Sub.of_eq (show Ai (v6 + 1) = Ai (W (v6 + 1)) from congrArg Ai hw.symm)) rfl, trivial⟩))
    ·rintro v8 ⟨voo4_0_8, voo4_1_8⟩ hi_4 h
     refine Tri.seq ?_
     refine Tr ?_
     refine Qe 3 rfl ?_
     refine Q1 rfl rfl rfl (Ax.ln (cl := Arr2_3.cl) rfl slc_23 rfl) ?_
     refine Qd rfl ?_
     refine Tri.cond (b := (decide (v8 < (a0.Basin.Pairs.length : Int)))) rfl (fun hb_6 => ?_) (fun hb_6 => ?_)
     ·exact (lt_f hi_4 hb_6).elim
     ·refine Tri.exit ?_
      exact Exists.intro (voo4_0_8, voo4_1_8) (And.intro h (Ee [2, 900000400, 901000401, 4, 5] rfl ⟨imf Diff_im, imf Reason_im, trivial⟩))
    ·rintro nx_4 x_4 v8 ⟨voo4_0_8, voo4_1_8⟩ _ hi_4 hw_4 hx_4 h
     refine Tri.seq ?_
     refine Tr ?_
     refine Qe 3 rfl ?_
     refine Q1 rfl rfl rfl (Ax.ln (cl := Arr2_3.cl) rfl slc_23 rfl) ?_
     refine Qd rfl ?_
     refine Tri.cond (b := (decide (v8 < (a0.Basin.Pairs.length : Int)))) rfl (fun hb_7 => ?_) (fun hb_7 => ?_)
     ·refine Tri.skip ?_
      refine Tri.seq ?_
      obtain ⟨⟨voo4_0_10, voo4_1_10⟩, hj_5, h⟩ := bind_some h
      refine Tri.joinv (voo4_0_10, voo4_1_10) (fun (y : List Diff × List Reason) => ⟨[(1, .ipt (Scene.cl a0) 0), (2, .ptr 2 0), (4, .ptr 4 0), (5, .ptr 5 0), (6, Ai v6), (8, Ai v8)], [(2, some (.box (Net.cl (⟨0, ([] : List Diff)⟩ : Net)))), (900000400, some (.arr 174 3 (y.1.map Diff.cl))), (901000401, some (.arr 42 4 (y.2.map Reason.cl))), (4, some (.box [.hnd 900000400, .hnd 901000401])), (5, some (.box (Basin.cl a0.Basin)))]⟩) ?_ ?_
      ·refine Tq rfl ?_
       exact Exists.intro (v8 + 1, (voo4_0_10, voo4_1_10)) (And.intro (And.intro rfl h) (Es [2, 900000400, 901000401, 4, 5] [8] rfl ⟨imf Diff_im, imf Reason_im, trivial⟩ ⟨.imm (Sub.of_eq (show Ai (v8 + 1) = Ai (W (v8 + 1)) from congrArg Ai hw_4.symm)) rfl, trivial⟩))
      ·have h := hj_5
       refine Tri.block ?_
       refine Tr ?_
       refine Qe 3 rfl ?_
       refine Q1 rfl rfl rfl (Ax.ix (cl := Arr2_3.cl) rfl slc_23 rfl rfl hx_4) ?_
       refine Qe 1 rfl ?_
       refine Qn rfl rfl rfl (v := .ptr 9 0) (x := some (.box (Arr2_3.cl (⟨0, 0⟩ : Arr2_3)))) (Ax.alloc rfl rfl zer_97 rfl ⟨Sub.refl _, Sub.refl _, trivial⟩) rfl rfl rfl rfl rfl ?_
       refine Qs rfl rfl (x := some (.box (Arr2_3.cl x_4))) (Ax.st_box rfl siz_97 rfl rfl rfl rfl rfl rfl rfl) ?_
       refine RunD.done ?_
       refine Tri.seq ?_
       refine Tri.drawn [[], [0], [], [2], [0, 1, 2, 3], [0, 1, 2, 3, 4], [], [6], [], [8], [6, 7, 8, 9], [6, 7, 8, 9, 10], [], [], [0, 1, 2, 3, 4, 5, 12, 13], [0, 1, 2, 3, 4, 5, 6, 7, 8, 9, 10, 11, 12, 13, 14]] hmix (by kernel_rfl) ?_
       refine Qe 2 rfl ?_
       refine Q1 rfl rfl rfl (Ax.index_ptr (k := .i64) (n := 0) rfl arr_97 rfl rfl rfl (by decide) (by decide)) ?_
       refine Qe 1 rfl ?_
       obtain ⟨y, hy, h⟩ := bind_some h
       refine Q1 rfl rfl rfl (Ax.ix (cl := Cell.cl) rfl slc_22 rfl rfl hy) ?_
       refine Qe 3 rfl ?_
       refine Q1 rfl rfl rfl (Ax.index_ptr (k := .i64) (n := 1) rfl arr_97 rfl rfl rfl (by decide) (by decide)) ?_
       refine Qe 1 rfl ?_
       obtain ⟨y_1, hy_1, h⟩ := bind_some h
       refine Q1 rfl rfl rfl (Ax.ix (cl := Cell.cl) rfl slc_22 rfl rfl hy_1) ?_
       refine Qe 1 rfl ?_
       refine Qn rfl rfl rfl (v := .ptr 10 0) (x := some (.box (Cell.cl (⟨0, 0, 0, 0⟩ : Cell)))) (Ax.alloc rfl rfl zer_56 rfl ⟨Sub.refl _, Sub.refl _, Sub.refl _, Sub.refl _, trivial⟩) rfl rfl rfl rfl rfl ?_
       refine Qn rfl rfl rfl (v := .ptr 11 0) (x := some (.box (Cell.cl (⟨0, 0, 0, 0⟩ : Cell)))) (Ax.alloc rfl rfl zer_56 rfl ⟨Sub.refl _, Sub.refl _, Sub.refl _, Sub.refl _, trivial⟩) rfl rfl rfl rfl rfl ?_
       refine Qs rfl rfl (x := some (.box (Cell.cl y))) (Ax.st_box rfl siz_56 rfl rfl rfl rfl rfl rfl rfl) ?_
       refine Qs rfl rfl (x := some (.box (Cell.cl y_1))) (Ax.st_box rfl siz_56 rfl rfl rfl rfl rfl rfl rfl) ?_
       refine RunD.done ⟨by kernel_rfl, freshL_of [10, 11] (by kernel_rfl) (by kernel_rfl), ?_⟩
       refine Tri.seq ?_
       refine Tr ?_
       refine Qe 2 rfl ?_
       obtain ⟨x101, hc_12, h⟩ := bind_some h
       refine Qc rfl rfl rfl (args := [.agg (Cell.cl y), .agg (Cell.cl y_1)]) (r := Ab x101) (calv rfl rfl fnok_179 rfl) (f179_ok hc_12) rfl ?_
       refine Qd rfl ?_
       refine Tri.cond (b := (!x101)) rfl (fun hb_8 => ?_) (fun hb_8 => ?_)
       ·have h := cond_t hb_8 h
        refine Tri.exit ?_
        exact Exists.intro (voo4_0_8, voo4_1_8) (And.intro h (Ee [2, 900000400, 901000401, 4, 5] rfl ⟨imf Diff_im, imf Reason_im, trivial⟩))
       ·have h := cond_f hb_8 h
        refine Tri.skip ?_
        refine Tri.seq ?_
        refine Tri.ent (Ent.norm [] [(2, 2, .box (Net.cl (⟨0, ([] : List Diff)⟩ : Net))), (4, 4, .box [.hnd 22930001, .hnd 22930002]), (5, 5, .box (Basin.cl a0.Basin)), (9, 9, .box (Arr2_3.cl x_4)), (10, 10, .box (Cell.cl y)), (11, 11, .box (Cell.cl y_1)), (22930001, 900000400, .arr 174 3 (voo4_0_8.map Diff.cl)), (22930002, 901000401, .arr 42 4 (voo4_1_8.map Reason.cl))] [(1, .ipt (Scene.cl a0) 0), (2, .ptr 2 0), (4, .ptr 4 0), (5, .ptr 5 0), (6, Ai v6), (8, Ai v8), (9, .ptr 9 0), (10, .ptr 10 0), (11, .ptr 11 0)] rfl ⟨⟨_, rfl, .boxV ⟨.rfl' rfl, .rfl' rfl, trivial⟩⟩, ⟨_, rfl, .boxV ⟨.hnd (List.Mem.tail _ (List.Mem.tail _ (List.Mem.tail _ (List.Mem.tail _ (List.Mem.tail _ (List.Mem.tail _ (List.Mem.head _))))))), .hnd (List.Mem.tail _ (List.Mem.tail _ (List.Mem.tail _ (List.Mem.tail _ (List.Mem.tail _ (List.Mem.tail _ (List.Mem.tail _ (List.Mem.head _)))))))), trivial⟩⟩, ⟨_, rfl, .boxV ⟨.rfl' rfl, .rfl' rfl, .rfl' rfl, .rfl' rfl, .rfl' rfl, trivial⟩⟩, ⟨_, rfl, .boxV ⟨.rfl' rfl, .rfl' rfl, trivial⟩⟩, ⟨_, rfl, .boxV ⟨.rfl' rfl, .rfl' rfl, .rfl' rfl, .rfl' rfl, trivial⟩⟩, ⟨_, rfl, .boxV ⟨.rfl' rfl, .rfl' rfl, .rfl' rfl, .rfl' rfl, trivial⟩⟩, ⟨_, rfl, .arr (im_flat Diff_im voo4_0_8)⟩, ⟨_, rfl, .arr (im_flat Reason_im voo4_1_8)⟩, trivial⟩ ⟨.rfl' rfl, .ptr (List.Mem.head _), .ptr (List.Mem.tail _ (List.Mem.head _)), .ptr (List.Mem.tail _ (List.Mem.tail _ (List.Mem.head _))), .rfl' rfl, .rfl' rfl, .ptr (List.Mem.tail _ (List.Mem.tail _ (List.Mem.tail _ (List.Mem.head _)))), .ptr (List.Mem.tail _ (List.Mem.tail _ (List.Mem.tail _ (List.Mem.tail _ (List.Mem.head _))))), .ptr (List.Mem.tail _ (List.Mem.tail _ (List.Mem.tail _ (List.Mem.tail _ (List.Mem.tail _ (List.Mem.head _)))))), trivial⟩) ?_
        refine Tri.drawn [[], [], [], [2], [], [1, 2, 3, 4], [], [], [7], [], [1, 2, 3, 4, 5, 6, 7, 8, 9], [], [], [1, 2, 3, 4, 5, 6, 7, 8, 9, 10, 11, 12], [], [], [15], [], [15, 16, 17], [15, 16, 17, 18], [14, 15, 16, 17, 18, 19], [0, 1, 2, 3, 4, 5, 6, 7, 8, 9, 10, 11, 12, 13, 14, 15, 16, 17, 18, 19, 20], [0, 1, 2, 3, 4, 5, 6, 7, 8, 9, 10, 11, 12, 13, 14, 15, 16, 17, 18, 19, 20, 21]] hmix (by kernel_rfl) ?_
        refine Qe 2 rfl ?_
        refine Q1 rfl rfl rfl (Ax.index_ptr (k := .i64) (n := 0) rfl arr_97 rfl rfl rfl (by decide) (by decide)) ?_
        refine Qe 2 rfl ?_
        obtain ⟨x108, hc_13, h⟩ := bind_some h
        refine Qc rfl rfl rfl (args := [.agg (Scene.cl a0), Ai x_4.a0, Ai v6]) (r := Ai x108) (calv rfl rfl fnok_205 rfl) (f205_ok hc_13) rfl ?_
        refine Qe 1 rfl ?_
        refine Q1 rfl rfl rfl (Ax.index_ptr (k := .i64) (n := 1) rfl arr_97 rfl rfl rfl (by decide) (by decide)) ?_
        refine Qe 2 rfl ?_
        obtain ⟨x113, hc_14, h⟩ := bind_some h
        refine Qc rfl rfl rfl (args := [.agg (Scene.cl a0), Ai x_4.a1, Ai v6]) (r := Ai x113) (calv rfl rfl fnok_205 rfl) (f205_ok hc_14) rfl ?_
        refine Qe 2 rfl ?_
        obtain ⟨x116, hc_15, h⟩ := bind_some h
        refine Qc rfl rfl rfl (args := [.agg (Basin.cl a0.Basin), .agg (Arr2_3.cl x_4)]) (r := Ai x116) (calv rfl rfl fnok_180 rfl) (f180_ok hc_15) rfl ?_
        refine Qe 4 rfl ?_
        refine Q1 rfl rfl rfl (Ax.ix (cl := icl) rfl slc_26 rfl rfl hx) ?_
        refine Qe 1 rfl ?_
        refine Q1 rfl rfl rfl (v := .agg (Reason.cl (⟨3, v8, x, false⟩ : Reason))) (Ax.build rfl zer_42 (bld plc_42 zer_42) rfl ⟨Sub.refl _, Sub.refl _, Sub.refl _, Sub.refl _, trivial⟩) ?_
        obtain ⟨x124, hc_16, h⟩ := bind_some h
        refine Qo [(22930001, .arr 174 3 (voo4_0_8.map Diff.cl)), (22930002, .arr 42 4 (voo4_1_8.map Reason.cl))] [(2235001, .arr 174 3 (x124.l.map Diff.cl)), (2235002, .arr 42 4 (x124.r.map Reason.cl))] [2235001, 2235002] rfl rfl rfl (args := [.agg [.hnd 22930001, .hnd 22930002], Ai x108, Ai x113, Ai x116, .agg (Reason.cl (⟨3, v8, x, false⟩ : Reason))]) (r := .agg [.hnd 2235001, .hnd 2235002]) (calv rfl rfl fnok_222 rfl) (f222_fr hc_16) ⟨rfl, rfl, trivial⟩ rfl rfl rfl rfl rfl ?_
        refine Qs rfl rfl (x := some (.box [.hnd 2235001, .hnd 2235002])) (Ax.st_box rfl siz_293 rfl rfl rfl rfl rfl rfl rfl) ?_
        refine RunD.done ⟨by kernel_rfl, freshL_of [2235001, 2235002] (by kernel_rfl) (by kernel_rfl), ?_⟩
        refine Tp rfl ?_
        refine Tri.seq ?_
        refine Tp rfl ?_
        obtain ⟨v12, hv, h⟩ := lt h
        refine Tri.join1 ⟨[(1, .ipt (Scene.cl a0) 0), (2, .ptr 2 0), (4, .ptr 4 0), (5, .ptr 5 0), (6, Ai v6), (8, Ai v8), (9, .ptr 9 0), (12, Ai v12)], [(2, some (.box (Net.cl (⟨0, ([] : List Diff)⟩ : Net)))), (2235001, some (.arr 174 3 (x124.l.map Diff.cl))), (2235002, some (.arr 42 4 (x124.r.map Reason.cl))), (4, some (.box [.hnd 2235001, .hnd 2235002])), (5, some (.box (Basin.cl a0.Basin))), (9, some (.box (Arr2_3.cl x_4)))]⟩ ?_ ?_
        ·refine Tri.ent (Ent.norm [] [(2, 2, .box (Net.cl (⟨0, ([] : List Diff)⟩ : Net))), (4, 4, .box [.hnd 22930001, .hnd 22930002]), (5, 5, .box (Basin.cl a0.Basin)), (9, 9, .box (Arr2_3.cl x_4)), (22930001, 2235001, .arr 174 3 (x124.l.map Diff.cl)), (22930002, 2235002, .arr 42 4 (x124.r.map Reason.cl))] [(1, .ipt (Scene.cl a0) 0), (2, .ptr 2 0), (4, .ptr 4 0), (5, .ptr 5 0), (6, Ai v6), (8, Ai v8), (9, .ptr 9 0), (12, Ai v12)] rfl ⟨⟨_, rfl, .boxV ⟨.rfl' rfl, .rfl' rfl, trivial⟩⟩, ⟨_, rfl, .boxV ⟨.hnd (List.Mem.tail _ (List.Mem.tail _ (List.Mem.tail _ (List.Mem.tail _ (List.Mem.head _))))), .hnd (List.Mem.tail _ (List.Mem.tail _ (List.Mem.tail _ (List.Mem.tail _ (List.Mem.tail _ (List.Mem.head _)))))), trivial⟩⟩, ⟨_, rfl, .boxV ⟨.rfl' rfl, .rfl' rfl, .rfl' rfl, .rfl' rfl, .rfl' rfl, trivial⟩⟩, ⟨_, rfl, .boxV ⟨.rfl' rfl, .rfl' rfl, trivial⟩⟩, ⟨_, rfl, .arr (im_flat Diff_im x124.l)⟩, ⟨_, rfl, .arr (im_flat Reason_im x124.r)⟩, trivial⟩ ⟨.rfl' rfl, .ptr (List.Mem.head _), .ptr (List.Mem.tail _ (List.Mem.head _)), .ptr (List.Mem.tail _ (List.Mem.tail _ (List.Mem.head _))), .rfl' rfl, .rfl' rfl, .ptr (List.Mem.tail _ (List.Mem.tail _ (List.Mem.tail _ (List.Mem.head _)))), .rfl' rfl, trivial⟩) ?_
         refine Tri.drawn [[], [], [], [2], [], [1, 2, 3, 4], [], [], [7], [], [1, 2, 3, 4, 5, 6, 7, 8, 9], [], [], [], [13], [], [13, 14, 15], [13, 14, 15, 16], [12, 13, 14, 15, 16, 17], [0, 1, 2, 3, 4, 5, 6, 7, 8, 9, 10, 11, 12, 13, 14, 15, 16, 17, 18], [0, 1, 2, 3, 4, 5, 6, 7, 8, 9, 10, 11, 12, 13, 14, 15, 16, 17, 18, 19]] hmix (by kernel_rfl) ?_
         refine Qe 2 rfl ?_
         refine Q1 rfl rfl rfl (Ax.index_ptr (k := .i64) (n := 1) rfl arr_97 rfl rfl rfl (by decide) (by decide)) ?_
         refine Qe 2 rfl ?_
         obtain ⟨x137, hc_17, h⟩ := bind_some h
         refine Qc rfl rfl rfl (args := [.agg (Scene.cl a0), Ai x_4.a1, Ai v6]) (r := Ai x137) (calv rfl rfl fnok_205 rfl) (f205_ok hc_17) rfl ?_
         refine Qe 1 rfl ?_
         refine Q1 rfl rfl rfl (Ax.index_ptr (k := .i64) (n := 0) rfl arr_97 rfl rfl rfl (by decide) (by decide)) ?_
         refine Qe 2 rfl ?_
         obtain ⟨x142, hc_18, h⟩ := bind_some h
         refine Qc rfl rfl rfl (args := [.agg (Scene.cl a0), Ai x_4.a0, Ai v6]) (r := Ai x142) (calv rfl rfl fnok_205 rfl) (f205_ok hc_18) rfl ?_
         refine Qe 5 rfl ?_
         refine Q1 rfl rfl rfl (Ax.ix (cl := icl) rfl slc_26 rfl rfl hx) ?_
         refine Qe 1 rfl ?_
         refine Q1 rfl rfl rfl (v := .agg (Reason.cl (⟨4, v8, x, false⟩ : Reason))) (Ax.build rfl zer_42 (bld plc_42 zer_42) rfl ⟨Sub.refl _, Sub.refl _, Sub.refl _, Sub.refl _, trivial⟩) ?_
         obtain ⟨x151, hc_19, h⟩ := bind_some h
         refine Qo [(22930001, .arr 174 3 (x124.l.map Diff.cl)), (22930002, .arr 42 4 (x124.r.map Reason.cl))] [(2235001, .arr 174 3 (x151.l.map Diff.cl)), (2235002, .arr 42 4 (x151.r.map Reason.cl))] [2235001, 2235002] rfl rfl rfl (args := [.agg [.hnd 22930001, .hnd 22930002], Ai x137, Ai x142, Ai v12, .agg (Reason.cl (⟨4, v8, x, false⟩ : Reason))]) (r := .agg [.hnd 2235001, .hnd 2235002]) (calv rfl rfl fnok_222 rfl) (f222_fr hc_19) ⟨rfl, rfl, trivial⟩ rfl rfl rfl rfl rfl ?_
         refine Qs rfl rfl (x := some (.box [.hnd 2235001, .hnd 2235002])) (Ax.st_box rfl siz_293 rfl rfl rfl rfl rfl rfl rfl) ?_
         refine RunD.done ⟨by kernel_rfl, freshL_of [2235001, 2235002] (by kernel_rfl) (by kernel_rfl), ?_⟩
         exact Exists.intro (x151.l, x151.r) (And.intro h (Ee [2, 2235001, 2235002, 4, 5] rfl ⟨imf Diff_im, imf Reason_im, trivial⟩))
        ·refine Tri.cond (b := (y.Height == y_1.Height)) rfl (fun hb_9 => ?_) (fun hb_9 => ?_)
         ·refine Tq rfl ?_
          exact (Es [2, 2235001, 2235002, 4, 5, 9] [12] rfl ⟨imf Diff_im, imf Reason_im, trivial⟩ ⟨.imm (Sub.of_eq (show Ai v12 = Ai a0.Basin.Slack by simp only [cond_true, cond_false, Bool.true_or, Bool.false_or, Bool.true_and, Bool.false_and, Bool.or_true, Bool.or_false, Bool.and_true, Bool.and_false, hv, hb_5, hb_7, hb_8, hb_9])) rfl, trivial⟩)
         ·refine Tri.skip ?_
          exact (Es [2, 2235001, 2235002, 4, 5, 9] [12] rfl ⟨imf Diff_im, imf Reason_im, trivial⟩ ⟨.imm (Sub.of_eq (show Ai v12 = Ai 0 by simp only [cond_true, cond_false, Bool.true_or, Bool.false_or, Bool.true_and, Bool.false_and, Bool.or_true, Bool.or_false, Bool.and_true, Bool.and_false, hv, hb_5, hb_7, hb_8, hb_9])) rfl, trivial⟩)
     ·exact (lt_t hi_4 hb_7).elim
   ·rintro v7 ⟨voo4_0_6, voo4_1_6⟩ hi_3 h
    refine Tri.seq ?_
    refine Tr ?_
    refine Qe 3 rfl ?_
    refine Q1 rfl rfl rfl (Ax.ln (cl := Cell.cl) rfl slc_22 rfl) ?_
    refine Qd rfl ?_
    refine Tri.cond (b := (decide (v7 < (a0.Basin.Cells.length : Int)))) rfl (fun hb_10 => ?_) (fun hb_10 => ?_)
    ·exact (lt_f hi_3 hb_10).elim
    ·refine Tri.exit ?_
     exact Exists.intro (voo4_0_6, voo4_1_6) (And.intro h (Ee [2, 900000400, 901000401, 4, 5] rfl ⟨imf Diff_im, imf Reason_im, trivial⟩))
   ·rintro nx_3 x_3 v7 ⟨voo4_0_6, voo4_1_6⟩ _ hi_3 hw_3 hx_3 h
    refine Tri.seq ?_
    refine Tr ?_
    refine Qe 3 rfl ?_
    refine Q1 rfl rfl rfl (Ax.ln (cl := Cell.cl) rfl slc_22 rfl) ?_
    refine Qd rfl ?_
    refine Tri.cond (b := (decide (v7 < (a0.Basin.Cells.length : Int)))) rfl (fun hb_11 => ?_) (fun hb_11 => ?_)
    ·refine Tri.skip ?_
     refine Tri.seq ?_
     refine Tri.block ?_
     refine Tri.seq ?_
     refine Tri.ent (Ent.norm [] [(2, 2, .box (Net.cl (⟨0, ([] : List Diff)⟩ : Net))), (4, 4, .box [.hnd 22930001, .hnd 22930002]), (5, 5, .box (Basin.cl a0.Basin)), (22930001, 900000400, .arr 174 3 (voo4_0_6.map Diff.cl)), (22930002, 901000401, .arr 42 4 (voo4_1_6.map Reason.cl))] [(1, .ipt (Scene.cl a0) 0), (2, .ptr 2 0), (4, .ptr 4 0), (5, .ptr 5 0), (6, Ai v6), (7, Ai v7)] rfl ⟨⟨_, rfl, .boxV ⟨.rfl' rfl, .rfl' rfl, trivial⟩⟩, ⟨_, rfl, .boxV ⟨.hnd (List.Mem.tail _ (List.Mem.tail _ (List.Mem.tail _ (List.Mem.head _)))), .hnd (List.Mem.tail _ (List.Mem.tail _ (List.Mem.tail _ (List.Mem.tail _ (List.Mem.head _))))), trivial⟩⟩, ⟨_, rfl, .boxV ⟨.rfl' rfl, .rfl' rfl, .rfl' rfl, .rfl' rfl, .rfl' rfl, trivial⟩⟩, ⟨_, rfl, .arr (im_flat Diff_im voo4_0_6)⟩, ⟨_, rfl, .arr (im_flat Reason_im voo4_1_6)⟩, trivial⟩ ⟨.rfl' rfl, .ptr (List.Mem.head _), .ptr (List.Mem.tail _ (List.Mem.head _)), .ptr (List.Mem.tail _ (List.Mem.tail _ (List.Mem.head _))), .rfl' rfl, .rfl' rfl, trivial⟩) ?_
     refine Tri.drawn [[], [], [], [], [1, 2, 3], [], [5], [], [7], [], [7, 8, 9], [7, 8, 9, 10], [7, 8, 9, 10, 11], [], [13], [], [13, 14, 15], [13, 14, 15, 16], [7, 8, 9, 10, 11, 12, 13, 14, 15, 16, 17], [0, 1, 2, 3, 4, 5, 6, 7, 8, 9, 10, 11, 12, 13, 14, 15, 16, 17, 18], [0, 1, 2, 3, 4, 5, 6, 7, 8, 9, 10, 11, 12, 13, 14, 15, 16, 17, 18, 19]] hmix (by kernel_rfl) ?_
     refine Qe 4 rfl ?_
     obtain ⟨x41, hc_20, h⟩ := bind_some h
     refine Qc rfl rfl rfl (args := [.agg (Scene.cl a0), Ai v7, Ai v6]) (r := Ai x41) (calv rfl rfl fnok_205 rfl) (f205_ok hc_20) rfl ?_
     refine Qe 5 rfl ?_
     refine Q1 rfl rfl rfl (Ax.ix (cl := Cell.cl) rfl slc_22 rfl rfl hx_3) ?_
     refine Qe 5 rfl ?_
     refine Q1 rfl rfl rfl (Ax.ix (cl := icl) rfl slc_26 rfl rfl hx) ?_
     refine Qe 1 rfl ?_
     refine Q1 rfl rfl rfl (v := .agg (Reason.cl (⟨1, x_3.No, x, false⟩ : Reason))) (Ax.build rfl zer_42 (bld plc_42 zer_42) rfl ⟨Sub.refl _, Sub.refl _, Sub.refl _, Sub.refl _, trivial⟩) ?_
     obtain ⟨x56, hc_21, h⟩ := bind_some h
     refine Qo [(22930001, .arr 174 3 (voo4_0_6.map Diff.cl)), (22930002, .arr 42 4 (voo4_1_6.map Reason.cl))] [(2235001, .arr 174 3 (x56.l.map Diff.cl)), (2235002, .arr 42 4 (x56.r.map Reason.cl))] [2235001, 2235002] rfl rfl rfl (args := [.agg [.hnd 22930001, .hnd 22930002], Ai 0, Ai x41, Ai a0.Basin.Deep, .agg (Reason.cl (⟨1, x_3.No, x, false⟩ : Reason))]) (r := .agg [.hnd 2235001, .hnd 2235002]) (calv rfl rfl fnok_222 rfl) (f222_fr hc_21) ⟨rfl, rfl, trivial⟩ rfl rfl rfl rfl rfl ?_
     refine Qs rfl rfl (x := some (.box [.hnd 2235001, .hnd 2235002])) (Ax.st_box rfl siz_293 rfl rfl rfl rfl rfl rfl rfl) ?_
     refine RunD.done ⟨by kernel_rfl, freshL_of [2235001, 2235002] (by kernel_rfl) (by kernel_rfl), ?_⟩
     refine Tri.ent (Ent.norm [] [(2, 2, .box (Net.cl (⟨0, ([] : List Diff)⟩ : Net))), (4, 4, .box [.hnd 22930001, .hnd 22930002]), (5, 5, .box (Basin.cl a0.Basin)), (22930001, 2235001, .arr 174 3 (x56.l.map Diff.cl)), (22930002, 2235002, .arr 42 4 (x56.r.map Reason.cl))] [(1, .ipt (Scene.cl a0) 0), (2, .ptr 2 0), (4, .ptr 4 0), (5, .ptr 5 0), (6, Ai v6), (7, Ai v7)] rfl ⟨⟨_, rfl, .boxV ⟨.rfl' rfl, .rfl' rfl, trivial⟩⟩, ⟨_, rfl, .boxV ⟨.hnd (List.Mem.tail _ (List.Mem.tail _ (List.Mem.tail _ (List.Mem.head _)))), .hnd (List.Mem.tail _ (List.Mem.tail _ (List.Mem.tail _ (List.Mem.tail _ (List.Mem.head _))))), trivial⟩⟩, ⟨_, rfl, .boxV ⟨.rfl' rfl, .rfl' rfl, .rfl' rfl, .rfl' rfl, .rfl' rfl, trivial⟩⟩, ⟨_, rfl, .arr (im_flat Diff_im x56.l)⟩, ⟨_, rfl, .arr (im_flat Reason_im x56.r)⟩, trivial⟩ ⟨.rfl' rfl, .ptr (List.Mem.head _), .ptr (List.Mem.tail _ (List.Mem.head _)), .ptr (List.Mem.tail _ (List.Mem.tail _ (List.Mem.head _))), .rfl' rfl, .rfl' rfl, trivial⟩) ?_
     refine Tri.drawn [[], [], [], [], [1, 2, 3], [], [5], [], [5, 6, 7], [5, 6, 7, 8], [5, 6, 7, 8, 9], [], [11], [], [11, 12, 13], [11, 12, 13, 14], [5, 6, 7, 8, 9, 10, 11, 12, 13, 14, 15], [0, 1, 2, 3, 4, 5, 6, 7, 8, 9, 10, 11, 12, 13, 14, 15, 16], [0, 1, 2, 3, 4, 5, 6, 7, 8, 9, 10, 11, 12, 13, 14, 15, 16, 17]] hmix (by kernel_rfl) ?_
     refine Qe 4 rfl ?_
     obtain ⟨x61, hc_22, h⟩ := bind_some h
     refine Qc rfl rfl rfl (args := [.agg (Scene.cl a0), Ai v7, Ai v6]) (r := Ai x61) (calv rfl rfl fnok_205 rfl) (f205_ok hc_22) rfl ?_
     refine Qe 3 rfl ?_
     refine Q1 rfl rfl rfl (Ax.ix (cl := Cell.cl) rfl slc_22 rfl rfl hx_3) ?_
     refine Qe 5 rfl ?_
     refine Q1 rfl rfl rfl (Ax.ix (cl := icl) rfl slc_26 rfl rfl hx) ?_
     refine Qe 1 rfl ?_
     refine Q1 rfl rfl rfl (v := .agg (Reason.cl (⟨2, x_3.No, x, false⟩ : Reason))) (Ax.build rfl zer_42 (bld plc_42 zer_42) rfl ⟨Sub.refl _, Sub.refl _, Sub.refl _, Sub.refl _, trivial⟩) ?_
     obtain ⟨x74, hc_23, h⟩ := bind_some h
     refine Qo [(22930001, .arr 174 3 (x56.l.map Diff.cl)), (22930002, .arr 42 4 (x56.r.map Reason.cl))] [(2235001, .arr 174 3 (x74.l.map Diff.cl)), (2235002, .arr 42 4 (x74.r.map Reason.cl))] [2235001, 2235002] rfl rfl rfl (args := [.agg [.hnd 22930001, .hnd 22930002], Ai x61, Ai 0, Ai 0, .agg (Reason.cl (⟨2, x_3.No, x, false⟩ : Reason))]) (r := .agg [.hnd 2235001, .hnd 2235002]) (calv rfl rfl fnok_222 rfl) (f222_fr hc_23) ⟨rfl, rfl, trivial⟩ rfl rfl rfl rfl rfl ?_
     refine Qs rfl rfl (x := some (.box [.hnd 2235001, .hnd 2235002])) (Ax.st_box rfl siz_293 rfl rfl rfl rfl rfl rfl rfl) ?_
     refine RunD.done ⟨by kernel_rfl, freshL_of [2235001, 2235002] (by kernel_rfl) (by kernel_rfl), ?_⟩
     refine Tq rfl ?_
     exact Exists.intro (v7 + 1, (x74.l, x74.r)) (And.intro (And.intro rfl h) (Es [2, 2235001, 2235002, 4, 5] [7] rfl ⟨imf Diff_im, imf Reason_im, trivial⟩ ⟨.imm (Sub.of_eq (show Ai (v7 + 1) = Ai (W (v7 + 1)) from congrArg Ai hw_3.symm)) rfl, trivial⟩))
    ·exact (lt_t hi_3 hb_11).elim
  ·exact (lt_t hi hb_5).elim
theorem f23_ok {K : Nat} {a0 : Scene} {r : Net × List Reason × Int} (h : f23 K a0 = some r) : CallOK Tryz.prog 23 [.agg (Scene.cl a0)] [] (.tup [.agg (Net.cl r.1), .lst 4 (r.2.1.map Reason.cl), Ai r.2.2]) [] := by
 refine CallOK.of_tri Tryz.func23 rfl rfl (Nat.le_of_ble_eq_true rfl) ?_
 unfold f23 at h
 refine Tr ?_
 refine Qe 1 rfl ?_
 refine Qn rfl rfl rfl (v := .ptr 2 0) (x := some (.box (Net.cl (⟨0, ([] : List Diff)⟩ : Net)))) (Ax.alloc rfl rfl zer_34 rfl ⟨Sub.refl _, Sub.nil _, trivial⟩) rfl rfl rfl rfl rfl ?_
 refine Q1 rfl rfl rfl (v := .lst 4 (([] : List Reason).map Reason.cl)) (Ax.nl 4 rfl rfl) ?_
 refine Qd rfl ?_
 refine Tri.seq ?_
 refine Tr ?_
 refine Qe 1 rfl ?_
 obtain ⟨x9, hc, h⟩ := bind_some h
 refine Qc rfl rfl rfl (args := [.agg (Scene.cl a0)]) (r := Ai x9) (calv rfl rfl fnok_76 rfl) (f76_ok hc) rfl ?_
 refine Qd rfl ?_
 refine Tp rfl ?_
 refine Tri.cond (b := (x9 != 0)) rfl (fun hb => ?_) (fun hb => ?_)
 ·have h := cond_t hb h
  refine Tr ?_
  refine Q1 rfl rfl rfl (v := .agg (Net.cl (⟨0, ([] : List Diff)⟩ : Net))) (Ax.build rfl zer_34 (bld plc_34 zer_34) rfl ⟨Sub.refl _, Sub.nil _, trivial⟩) ?_
  refine Qe 1 rfl ?_
  refine Qs rfl rfl (x := some (.box (Net.cl (⟨0, ([] : List Diff)⟩ : Net)))) (Ax.st_box rfl siz_34 rfl rfl rfl rfl rfl rfl rfl) ?_
  refine Q1 rfl rfl rfl (v := .lst 4 (([] : List Reason).map Reason.cl)) (Ax.nl 4 rfl rfl) ?_
  refine Qd rfl ?_
  refine Tri.ret ?_
  refine Rr (fun r => .tup [.agg (Net.cl r.1), .lst 4 (r.2.1.map Reason.cl), Ai r.2.2]) (fun r => []) [] h ?_ trivial
  rfl
 ·have h := cond_f hb h
  refine Tri.skip ?_
  refine Tr ?_
  refine Qe 1 rfl ?_
  obtain ⟨⟨x16_0, x16_1⟩, hc_1, h⟩ := bind_some h
  refine Qc rfl rfl rfl (args := [.agg (Scene.cl a0)]) (r := .tup [.agg (Net.cl x16_0), .lst 4 (x16_1.map Reason.cl)]) (calv rfl rfl fnok_103 rfl) (f103_ok hc_1) rfl ?_
  refine Qe 3 rfl ?_
  refine Qn rfl rfl rfl (v := .ptr 6 0) (x := some (.box (Net.cl (⟨0, ([] : List Diff)⟩ : Net)))) (Ax.alloc rfl rfl zer_34 rfl ⟨Sub.refl _, Sub.nil _, trivial⟩) rfl rfl rfl rfl rfl ?_
  refine Qs rfl rfl (x := some (.box (Net.cl x16_0))) (Ax.st_box rfl siz_34 rfl rfl rfl rfl rfl rfl rfl) ?_
  refine Qd rfl ?_
  refine Tr ?_
  refine Qe 2 rfl ?_
  refine Qs rfl rfl (x := some (.box (Net.cl x16_0))) (Ax.st_box rfl siz_34 rfl rfl rfl rfl rfl rfl rfl) ?_
  refine Qd rfl ?_
  refine Tri.ret ?_
  refine Rr (fun r => .tup [.agg (Net.cl r.1), .lst 4 (r.2.1.map Reason.cl), Ai r.2.2]) (fun r => []) [] h ?_ trivial
  rfl
theorem f24_ok {K : Nat} {a0 : Net} {a1 : Net} {r : Bool} (h : f24 K a0 a1 = some r) : CallOK Tryz.prog 24 [.agg (Net.cl a0), .agg (Net.cl a1)] [] (Ab r) [] := by
 refine CallOK.of_tri Tryz.func24 rfl rfl (Nat.le_of_ble_eq_true rfl) ?_
 unfold f24 at h
 refine Tp rfl ?_
 refine Tri.seq ?_
 refine Tri.seq ?_
 refine Tri.join1 ⟨[(2, .ipt (Net.cl a0) 0), (3, .ipt (Net.cl a1) 0), (19, Ab ((a0.Nodes != a1.Nodes) || ((a0.Diffs.length : Int) != (a1.Diffs.length : Int))))], []⟩ ?_ ?_
 ·refine Tri.cond (b := ((a0.Nodes != a1.Nodes) || ((a0.Diffs.length : Int) != (a1.Diffs.length : Int)))) rfl (fun hb => ?_) (fun hb => ?_)
  ·have h := cond_t hb h
   refine Tp rfl ?_
   refine Tri.ret ?_
   exact Rb h rfl
  ·have h := cond_f hb h
   refine Tri.skip ?_
   refine Tri.seq ?_
   refine Tp rfl ?_
   obtain ⟨j, hj, h⟩ := jo h
   refine Tri.rngL h (fun p => ⟨[(2, .ipt (Net.cl a0) 0), (3, .ipt (Net.cl a1) 0), (5, Ai p.1)], []⟩) (fun y => j y = some r) (fun (y : Unit) => ⟨[], []⟩) (E0 rfl) ?_ ?_ ?_
   ·rintro ⟨⟩ h
    subst hj
    refine Tp rfl ?_
    refine Tri.ret ?_
    exact Rb h rfl
   ·rintro v5 ⟨⟩ hi h
    refine Tri.seq ?_
    refine Tr ?_
    refine Qe 3 rfl ?_
    refine Q1 rfl rfl rfl (Ax.ln (cl := Diff.cl) rfl slc_32 rfl) ?_
    refine Qd rfl ?_
    refine Tri.cond (b := (decide (v5 < (a0.Diffs.length : Int)))) rfl (fun hb_1 => ?_) (fun hb_1 => ?_)
    ·exact (lt_f hi hb_1).elim
    ·refine Tri.exit ?_
     exact Exists.intro () (And.intro h (E0 rfl))
   ·rintro nx x v5 ⟨⟩ _ hi hw hx h
    refine Tri.seq ?_
    refine Tr ?_
    refine Qe 3 rfl ?_
    refine Q1 rfl rfl rfl (Ax.ln (cl := Diff.cl) rfl slc_32 rfl) ?_
    refine Qd rfl ?_
    refine Tri.cond (b := (decide (v5 < (a0.Diffs.length : Int)))) rfl (fun hb_2 => ?_) (fun hb_2 => ?_)
    ·refine Tri.skip ?_
     refine Tri.seq ?_
     refine Tri.block ?_
     refine Tri.seq ?_
     refine Tri.drawn [] hmix (by kernel_rfl) ?_
     refine Qe 3 rfl ?_
     refine Q1 rfl rfl rfl (Ax.ix (cl := Diff.cl) rfl slc_32 rfl rfl hx) ?_
     refine Qe 4 rfl ?_
     obtain ⟨y, hy, h⟩ := bind_some h
     refine Q1 rfl rfl rfl (Ax.ix (cl := Diff.cl) rfl slc_32 rfl rfl hy) ?_
     refine Qe 1 rfl ?_
     refine Q1 rfl rfl rfl (v := Ab (!(decide (x = y)))) (Ax.nes (xs := [.int .i64 x.From, .int .i64 x.To, .int .i64 x.Most]) (ys := [.int .i64 y.From, .int .i64 y.To, .int .i64 y.Most]) (fsp_174 x y) rfl rfl rfl (eqs_174 x y)) ?_
     refine RunD.done ⟨by kernel_rfl, freshL_of [] (by kernel_rfl) (by kernel_rfl), ?_⟩
     refine Tri.cond (b := (!(decide (x = y)))) rfl (fun hb_3 => ?_) (fun hb_3 => ?_)
     ·have h := cond_t hb_3 h
      refine Tp rfl ?_
      refine Tri.ret ?_
      exact Rb h rfl
     ·have h := cond_f hb_3 h
      refine Tri.skip ?_
      refine Tq rfl ?_
      exact Exists.intro (v5 + 1, ()) (And.intro (And.intro rfl h) (Es0 [5] rfl ⟨.imm (Sub.of_eq (show Ai (v5 + 1) = Ai (W (v5 + 1)) from congrArg Ai hw.symm)) rfl, trivial⟩))
    ·exact (lt_t hi hb_2).elim
 ·refine Tri.region ?_
  refine Qe 6 rfl ?_
  rcases b2 (a0.Nodes != a1.Nodes) with hb_4 | hb_4
  ·refine Qk 11 hb_4 rfl ?_
   refine Qd rfl ?_
   exact (Es0 [19] rfl ⟨.imm (Sub.of_eq (show Ab ((a0.Nodes != a1.Nodes) || ((a0.Diffs.length : Int) != (a1.Diffs.length : Int))) = Ab true by simp only [cond_true, cond_false, Bool.true_or, Bool.false_or, Bool.true_and, Bool.false_and, Bool.or_true, Bool.or_false, Bool.and_true, Bool.and_false, hb_4])) rfl, trivial⟩)
  ·refine Qk 11 hb_4 rfl ?_
   refine Qe 2 rfl ?_
   refine Q1 rfl rfl rfl (Ax.ln (cl := Diff.cl) rfl slc_32 rfl) ?_
   refine Qe 2 rfl ?_
   refine Q1 rfl rfl rfl (Ax.ln (cl := Diff.cl) rfl slc_32 rfl) ?_
   refine Qd rfl ?_
   exact (Es0 [19] rfl ⟨.imm (Sub.of_eq (show Ab ((a0.Nodes != a1.Nodes) || ((a0.Diffs.length : Int) != (a1.Diffs.length : Int))) = Ab ((a0.Diffs.length : Int) != (a1.Diffs.length : Int)) by simp only [cond_true, cond_false, Bool.true_or, Bool.false_or, Bool.true_and, Bool.false_and, Bool.or_true, Bool.or_false, Bool.and_true, Bool.and_false, hb_4])) rfl, trivial⟩)
theorem f25_ok {K : Nat} {a0 : List Reason} {a1 : List Reason} {r : Bool} (h : f25 K a0 a1 = some r) : CallOK Tryz.prog 25 [.lst 4 (a0.map Reason.cl), .lst 4 (a1.map Reason.cl)] [] (Ab r) [] := by
 refine CallOK.of_tri Tryz.func25 rfl rfl (Nat.le_of_ble_eq_true rfl) ?_
 unfold f25 at h
 refine Tp rfl ?_
 refine Tri.seq ?_
 refine Tr ?_
 refine Qe 1 rfl ?_
 refine Q1 rfl rfl rfl (Ax.ln (cl := Reason.cl) rfl slc_35 rfl) ?_
 refine Qe 1 rfl ?_
 refine Q1 rfl rfl rfl (Ax.ln (cl := Reason.cl) rfl slc_35 rfl) ?_
 refine Qd rfl ?_
 refine Tri.cond (b := ((a0.length : Int) != (a1.length : Int))) rfl (fun hb => ?_) (fun hb => ?_)
 ·have h := cond_t hb h
  refine Tp rfl ?_
  refine Tri.ret ?_
  exact Rb h rfl
 ·have h := cond_f hb h
  refine Tri.skip ?_
  refine Tri.seq ?_
  refine Tr ?_
  refine Qe 1 rfl ?_
  refine Q1 rfl rfl rfl (Ax.ln (cl := Reason.cl) rfl slc_35 rfl) ?_
  refine Qd rfl ?_
  obtain ⟨j, hj, h⟩ := jo h
  refine Tri.rngL h (fun p => ⟨[(0, .lst 4 (a0.map Reason.cl)), (1, .lst 4 (a1.map Reason.cl)), (12, Ai (a0.length : Int)), (13, Ai p.1)], []⟩) (fun y => j y = some r) (fun (y : Unit) => ⟨[], []⟩) (E0 rfl) ?_ ?_ ?_
  ·rintro ⟨⟩ h
   subst hj
   refine Tp rfl ?_
   refine Tri.ret ?_
   exact Rb h rfl
  ·rintro v13 ⟨⟩ hi h
   refine Tp rfl ?_
   refine Tri.seq ?_
   refine Tri.cond (b := (decide (v13 < (a0.length : Int)))) rfl (fun hb_1 => ?_) (fun hb_1 => ?_)
   ·exact (lt_f hi hb_1).elim
   ·refine Tri.exit ?_
    exact Exists.intro () (And.intro h (E0 rfl))
  ·rintro nx x v13 ⟨⟩ _ hi hw hx h
   refine Tp rfl ?_
   refine Tri.seq ?_
   refine Tri.cond (b := (decide (v13 < (a0.length : Int)))) rfl (fun hb_2 => ?_) (fun hb_2 => ?_)
   ·refine Tri.skip ?_
    refine Tri.seq ?_
    refine Tri.block ?_
    refine Tp rfl ?_
    refine Tri.seq ?_
    refine Tri.drawn [] hmix (by kernel_rfl) ?_
    refine Qe 2 rfl ?_
    refine Q1 rfl rfl rfl (Ax.ix (cl := Reason.cl) rfl slc_35 rfl rfl hx) ?_
    refine Qe 3 rfl ?_
    obtain ⟨y, hy, h⟩ := bind_some h
    refine Q1 rfl rfl rfl (Ax.ix (cl := Reason.cl) rfl slc_35 rfl rfl hy) ?_
    refine Qe 1 rfl ?_
    refine Q1 rfl rfl rfl (v := Ab (!(decide (x = y)))) (Ax.nes (xs := [.int .i64 x.Kind, .int .i64 x.Index, .int .i64 x.Day, .bool x.Upper]) (ys := [.int .i64 y.Kind, .int .i64 y.Index, .int .i64 y.Day, .bool y.Upper]) (fsp_42 x y) rfl rfl rfl (eqs_42 x y)) ?_
    refine RunD.done ⟨by kernel_rfl, freshL_of [] (by kernel_rfl) (by kernel_rfl), ?_⟩
    refine Tri.cond (b := (!(decide (x = y)))) rfl (fun hb_3 => ?_) (fun hb_3 => ?_)
    ·have h := cond_t hb_3 h
     refine Tp rfl ?_
     refine Tri.ret ?_
     exact Rb h rfl
    ·have h := cond_f hb_3 h
     refine Tri.skip ?_
     refine Tq rfl ?_
     exact Exists.intro (v13 + 1, ()) (And.intro (And.intro rfl h) (Es0 [13] rfl ⟨.imm (Sub.of_eq (show Ai (v13 + 1) = Ai (W (v13 + 1)) from congrArg Ai hw.symm)) rfl, trivial⟩))
   ·exact (lt_t hi hb_2).elim
theorem f3_ok {K : Nat} {a0 : Scene} {r : Bool} (h : f3 K a0 = some r) : CallOK Tryz.prog 3 [.agg (Scene.cl a0)] [] (Ab r) [] := by
 refine CallOK.of_tri Tryz.func3 rfl rfl (Nat.le_of_ble_eq_true rfl) ?_
 unfold f3 at h
 refine Tp rfl ?_
 refine Tri.seq ?_
 refine Tr ?_
 obtain ⟨x9, hc, h⟩ := bind_some h
 refine Qc rfl rfl rfl (args := []) (r := Ab x9) (calv rfl rfl fnok_21 rfl) (f21_ok hc) rfl ?_
 refine Qd rfl ?_
 refine Tri.cond (b := (!x9)) rfl (fun hb => ?_) (fun hb => ?_)
 ·have h := cond_t hb h
  refine Tp rfl ?_
  refine Tri.ret ?_
  exact Rb h rfl
 ·have h := cond_f hb h
  refine Tri.skip ?_
  refine Tr ?_
  refine Qe 1 rfl ?_
  obtain ⟨⟨x13_0, x13_1, x13_2⟩, hc_1, h⟩ := bind_some h
  refine Qc rfl rfl rfl (args := [.agg (Scene.cl a0)]) (r := .tup [.agg (Net.cl x13_0), .lst 4 (x13_1.map Reason.cl), Ai x13_2]) (calv rfl rfl fnok_22 rfl) (f22_ok hc_1) rfl ?_
  refine Qe 4 rfl ?_
  refine Qn rfl rfl rfl (v := .ptr 3 0) (x := some (.box (Net.cl (⟨0, ([] : List Diff)⟩ : Net)))) (Ax.alloc rfl rfl zer_34 rfl ⟨Sub.refl _, Sub.nil _, trivial⟩) rfl rfl rfl rfl rfl ?_
  refine Qs rfl rfl (x := some (.box (Net.cl x13_0))) (Ax.st_box rfl siz_34 rfl rfl rfl rfl rfl rfl rfl) ?_
  refine Qd rfl ?_
  refine Tr ?_
  refine Qe 1 rfl ?_
  obtain ⟨⟨x19_0, x19_1, x19_2⟩, hc_2, h⟩ := bind_some h
  refine Qc rfl rfl rfl (args := [.agg (Scene.cl a0)]) (r := .tup [.agg (Net.cl x19_0), .lst 4 (x19_1.map Reason.cl), Ai x19_2]) (calv rfl rfl fnok_23 rfl) (f23_ok hc_2) rfl ?_
  refine Qe 4 rfl ?_
  refine Qn rfl rfl rfl (v := .ptr 6 0) (x := some (.box (Net.cl (⟨0, ([] : List Diff)⟩ : Net)))) (Ax.alloc rfl rfl zer_34 rfl ⟨Sub.refl _, Sub.nil _, trivial⟩) rfl rfl rfl rfl rfl ?_
  refine Qs rfl rfl (x := some (.box (Net.cl x19_0))) (Ax.st_box rfl siz_34 rfl rfl rfl rfl rfl rfl rfl) ?_
  refine Qd rfl ?_
  refine Tri.seq ?_
  obtain ⟨v2, hj, h⟩ := bind_some h
  refine Tri.joinv v2 (fun (y : Bool) => ⟨[(2, Ab y)], []⟩) ?_ ?_
  ·refine Tri.ret ?_
   exact Rb h rfl
  ·have h := hj
   refine Tri.region ?_
   refine Qe 2 rfl ?_
   obtain ⟨x25, hc_3, h⟩ := bind_some h
   refine Qc rfl rfl rfl (args := [.agg (Net.cl x13_0), .agg (Net.cl x19_0)]) (r := Ab x25) (calv rfl rfl fnok_24 rfl) (f24_ok hc_3) rfl ?_
   refine Qe 1 rfl ?_
   rcases b2 x25 with hb_1 | hb_1
   ·have h := cond_t hb_1 h
    refine Qk 26 hb_1 rfl ?_
    refine Qe 2 rfl ?_
    obtain ⟨x29, hc_4, h⟩ := bind_some h
    refine Qc rfl rfl rfl (args := [.lst 4 (x13_1.map Reason.cl), .lst 4 (x19_1.map Reason.cl)]) (r := Ab x29) (calv rfl rfl fnok_25 rfl) (f25_ok hc_4) rfl ?_
    refine Qe 2 rfl ?_
    rcases b2 x29 with hb_2 | hb_2
    ·have h := cond_t hb_2 h
     refine Qk 31 hb_2 rfl ?_
     refine Qd rfl ?_
     exact Exists.intro (x13_2 == x19_2) (And.intro h (E0 rfl))
    ·have h := cond_f hb_2 h
     refine Qk 31 hb_2 rfl ?_
     refine Qd rfl ?_
     exact Exists.intro false (And.intro h (E0 rfl))
   ·have h := cond_f hb_1 h
    refine Qk 26 hb_1 rfl ?_
    refine Qd rfl ?_
    exact Exists.intro false (And.intro h (E0 rfl))
end Go.Proofs.YthlchdnbokhclaaGreat.Ql

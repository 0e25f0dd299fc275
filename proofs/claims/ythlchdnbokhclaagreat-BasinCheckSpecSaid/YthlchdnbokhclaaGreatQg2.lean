import Derived.Test.YthlchdnbokhclaaGreatQt
import Derived.Test.YthlchdnbokhclaaGreatQg1
set_option linter.all false
namespace Go.Proofs.YthlchdnbokhclaaGreat.Ql
open Go Go.Proofs
set_option maxRecDepth 100000
set_option maxHeartbeats 0
theorem f102_ok {K : Nat} {a0 : Scene} {r : Laid_basin} (h : f102 K a0 = some r) : CallOK Tryz.prog 102 [.agg (Scene.cl a0)] [] (.ipt (Laid_basin.cl r) 0) [] := by
 refine CallOK.of_tri Tryz.func102 rfl rfl (Nat.le_of_ble_eq_true rfl) ?_
 unfold f102 at h
 refine Tp rfl ?_
 refine Tr ?_
 refine Qe 2 rfl ?_
 refine Qn rfl rfl rfl (v := .ptr 3 0) (x := some (.box (Basin.cl (⟨([] : List Cell), ([] : List Arr2_3), 0, 0, 0⟩ : Basin)))) (Ax.alloc rfl rfl zer_25 rfl ⟨Sub.nil _, Sub.nil _, Sub.refl _, Sub.refl _, Sub.refl _, trivial⟩) rfl rfl rfl rfl rfl ?_
 refine Qs rfl rfl (x := some (.box (Basin.cl a0.Basin))) (Ax.st_box rfl siz_25 rfl rfl rfl rfl rfl rfl rfl) ?_
 refine RunD.done ?_
 refine Tr ?_
 refine Qe 3 rfl ?_
 refine Q1 rfl rfl rfl (Ax.ln (cl := icl) rfl slc_26 rfl) ?_
 refine Qe 2 rfl ?_
 refine Q1 rfl rfl rfl (Ax.ln (cl := Cell.cl) rfl slc_22 rfl) ?_
 refine Qe 2 rfl ?_
 refine Q1 rfl rfl rfl (v := .agg [Ai (W (1 + (W ((a0.Days.length : Int) * (a0.Basin.Cells.length : Int))))), .sc (.slice none 0 0)]) (Ax.build rfl zer_34 (bld plc_34 zer_34) rfl ⟨Sub.refl _, Sub.refl _, trivial⟩) ?_
 refine Q1 rfl rfl rfl (v := .agg [.lst 4 (a0.Basin.Cells.map Cell.cl), .lst 2 (a0.Basin.Pairs.map Arr2_3.cl), Ai a0.Basin.Gain, Ai a0.Basin.Slack, Ai a0.Basin.Deep, .lst 1 (a0.Days.map icl), .lst 5 (a0.Sights.map Sight.cl), .lst 5 (a0.Changes.map Change.cl), Ai (W (1 + (W ((a0.Days.length : Int) * (a0.Basin.Cells.length : Int))))), .sc (.slice none 0 0), .sc (.slice none 0 0)]) (Ax.build rfl zer_170 (bld plc_170 zer_170) rfl ⟨Sub.refl _, Sub.refl _, Sub.refl _, Sub.refl _, Sub.refl _, Sub.refl _, Sub.refl _, Sub.refl _, Sub.refl _, Sub.refl _, Sub.refl _, trivial⟩) ?_
 refine Qn rfl rfl rfl (v := .ptr 35 0) (x := some (.box [.lst 4 (a0.Basin.Cells.map Cell.cl), .lst 2 (a0.Basin.Pairs.map Arr2_3.cl), Ai a0.Basin.Gain, Ai a0.Basin.Slack, Ai a0.Basin.Deep, .lst 1 (a0.Days.map icl), .lst 5 (a0.Sights.map Sight.cl), .lst 5 (a0.Changes.map Change.cl), Ai (W (1 + (W ((a0.Days.length : Int) * (a0.Basin.Cells.length : Int))))), .sc (.slice none 0 0), .sc (.slice none 0 0)])) (Ax.box_ptr rfl rfl rfl rfl) rfl rfl rfl rfl rfl ?_
 refine Qn rfl rfl rfl (v := .ptr 4 0) (x := some (.box [.sc (.pointer none)])) (Ax.alloc rfl rfl zer_167 rfl ⟨Sub.refl _, trivial⟩) rfl rfl rfl rfl rfl ?_
 refine Qs rfl rfl (x := some (.box [.ptr 35 0])) (Ax.st_box rfl siz_167 rfl rfl rfl rfl rfl rfl rfl) ?_
 refine RunD.done ?_
 refine Tri.ent (Ent.ghost 35 9 900003509 174 3 (cells' := [.lst 4 (a0.Basin.Cells.map Cell.cl), .lst 2 (a0.Basin.Pairs.map Arr2_3.cl), Ai a0.Basin.Gain, Ai a0.Basin.Slack, Ai a0.Basin.Deep, .lst 1 (a0.Days.map icl), .lst 5 (a0.Sights.map Sight.cl), .lst 5 (a0.Changes.map Change.cl), Ai (W (1 + (W ((a0.Days.length : Int) * (a0.Basin.Cells.length : Int))))), .hnd 900003509, .sc (.slice none 0 0)]) rfl rfl rfl rfl) ?_
 refine Tri.ent (Ent.ghost 35 10 901003510 42 4 (cells' := [.lst 4 (a0.Basin.Cells.map Cell.cl), .lst 2 (a0.Basin.Pairs.map Arr2_3.cl), Ai a0.Basin.Gain, Ai a0.Basin.Slack, Ai a0.Basin.Deep, .lst 1 (a0.Days.map icl), .lst 5 (a0.Sights.map Sight.cl), .lst 5 (a0.Changes.map Change.cl), Ai (W (1 + (W ((a0.Days.length : Int) * (a0.Basin.Cells.length : Int))))), .hnd 900003509, .hnd 901003510]) rfl rfl rfl rfl) ?_
 refine Tri.seq ?_
 refine Tr ?_
 refine Qe 2 rfl ?_
 refine Q1 rfl rfl rfl (Ax.ln (cl := icl) rfl slc_26 rfl) ?_
 refine Qd rfl ?_
 obtain ⟨⟨voo4_0_0_1, voo4_0_1_1, voo4_0_2_1, voo4_0_3_1, voo4_0_4_1, voo4_0_5_1, voo4_0_6_1, voo4_0_7_1, voo4_0_8_1, vooo4_0_9_1, vooo4_0_10_1⟩, hj, h⟩ := bind_some h
 refine Tri.rngLv hj (fun p => ⟨[(1, .ipt (Scene.cl a0) 0), (3, .ptr 3 0), (4, .ptr 4 0), (37, .lst 1 (a0.Days.map icl)), (38, Ai (a0.Days.length : Int)), (39, Ai p.1)], [(3, some (.box (Basin.cl a0.Basin))), (900003509, some (.arr 174 3 (p.2.2.2.2.2.2.2.2.2.2.1.map Diff.cl))), (901003510, some (.arr 42 4 (p.2.2.2.2.2.2.2.2.2.2.2.map Reason.cl))), (35, some (.box [.lst 4 (p.2.1.map Cell.cl), .lst 2 (p.2.2.1.map Arr2_3.cl), Ai p.2.2.2.1, Ai p.2.2.2.2.1, Ai p.2.2.2.2.2.1, .lst 1 (p.2.2.2.2.2.2.1.map icl), .lst 5 (p.2.2.2.2.2.2.2.1.map Sight.cl), .lst 5 (p.2.2.2.2.2.2.2.2.1.map Change.cl), Ai p.2.2.2.2.2.2.2.2.2.1, .hnd 900003509, .hnd 901003510])), (4, some (.box [.ptr 35 0]))]⟩) (fun (y : List Cell × List Arr2_3 × Int × Int × Int × List Int × List Sight × List Change × Int × List Diff × List Reason) => ⟨[(1, .ipt (Scene.cl a0) 0), (3, .ptr 3 0), (4, .ptr 4 0)], [(3, some (.box (Basin.cl a0.Basin))), (900003509, some (.arr 174 3 (y.2.2.2.2.2.2.2.2.2.1.map Diff.cl))), (901003510, some (.arr 42 4 (y.2.2.2.2.2.2.2.2.2.2.map Reason.cl))), (35, some (.box [.lst 4 (y.1.map Cell.cl), .lst 2 (y.2.1.map Arr2_3.cl), Ai y.2.2.1, Ai y.2.2.2.1, Ai y.2.2.2.2.1, .lst 1 (y.2.2.2.2.2.1.map icl), .lst 5 (y.2.2.2.2.2.2.1.map Sight.cl), .lst 5 (y.2.2.2.2.2.2.2.1.map Change.cl), Ai y.2.2.2.2.2.2.2.2.1, .hnd 900003509, .hnd 901003510])), (4, some (.box [.ptr 35 0]))]⟩) (Ee [3, 900003509, 901003510, 35, 4] rfl ⟨im_flat Diff_im ([] : List Diff), im_flat Reason_im ([] : List Reason), trivial⟩) ?_ ?_ ?_
 ·refine Tr ?_
  refine Q1 rfl rfl rfl (v := .fn 220 [.ptr 4 0, .ptr 3 0, .ipt (Scene.cl a0) 0]) (Ax.func rfl rfl) ?_
  refine Qd rfl ?_
  refine Tri.seq ?_
  refine Tr ?_
  refine Qe 2 rfl ?_
  refine Q1 rfl rfl rfl (Ax.ln (cl := Sight.cl) rfl slc_27 rfl) ?_
  refine Qd rfl ?_
  obtain ⟨⟨voo4_0_0_3, voo4_0_1_3, voo4_0_2_3, voo4_0_3_3, voo4_0_4_3, voo4_0_5_3, voo4_0_6_3, voo4_0_7_3, voo4_0_8_3, vooo4_0_9_3, vooo4_0_10_3⟩, hj_1, h⟩ := bind_some h
  refine Tri.rngLv hj_1 (fun p => ⟨[(1, .ipt (Scene.cl a0) 0), (4, .ptr 4 0), (14, .fn 220 [.ptr 4 0, .ptr 3 0, .ipt (Scene.cl a0) 0]), (144, .lst 5 (a0.Sights.map Sight.cl)), (145, Ai (a0.Sights.length : Int)), (146, Ai p.1)], [(900003509, some (.arr 174 3 (p.2.2.2.2.2.2.2.2.2.2.1.map Diff.cl))), (901003510, some (.arr 42 4 (p.2.2.2.2.2.2.2.2.2.2.2.map Reason.cl))), (35, some (.box [.lst 4 (p.2.1.map Cell.cl), .lst 2 (p.2.2.1.map Arr2_3.cl), Ai p.2.2.2.1, Ai p.2.2.2.2.1, Ai p.2.2.2.2.2.1, .lst 1 (p.2.2.2.2.2.2.1.map icl), .lst 5 (p.2.2.2.2.2.2.2.1.map Sight.cl), .lst 5 (p.2.2.2.2.2.2.2.2.1.map Change.cl), Ai p.2.2.2.2.2.2.2.2.2.1, .hnd 900003509, .hnd 901003510])), (4, some (.box [.ptr 35 0])), (3, some (.box (Basin.cl a0.Basin)))]⟩) (fun (y : List Cell × List Arr2_3 × Int × Int × Int × List Int × List Sight × List Change × Int × List Diff × List Reason) => ⟨[(1, .ipt (Scene.cl a0) 0), (4, .ptr 4 0), (14, .fn 220 [.ptr 4 0, .ptr 3 0, .ipt (Scene.cl a0) 0])], [(900003509, some (.arr 174 3 (y.2.2.2.2.2.2.2.2.2.1.map Diff.cl))), (901003510, some (.arr 42 4 (y.2.2.2.2.2.2.2.2.2.2.map Reason.cl))), (35, some (.box [.lst 4 (y.1.map Cell.cl), .lst 2 (y.2.1.map Arr2_3.cl), Ai y.2.2.1, Ai y.2.2.2.1, Ai y.2.2.2.2.1, .lst 1 (y.2.2.2.2.2.1.map icl), .lst 5 (y.2.2.2.2.2.2.1.map Sight.cl), .lst 5 (y.2.2.2.2.2.2.2.1.map Change.cl), Ai y.2.2.2.2.2.2.2.2.1, .hnd 900003509, .hnd 901003510])), (4, some (.box [.ptr 35 0])), (3, some (.box (Basin.cl a0.Basin)))]⟩) (Ee [900003509, 901003510, 35, 4, 3] rfl ⟨imf Diff_im, imf Reason_im, trivial⟩) ?_ ?_ ?_
  ·refine Tri.seq ?_
   refine Tr ?_
   refine Qe 2 rfl ?_
   refine Q1 rfl rfl rfl (Ax.ln (cl := Change.cl) rfl slc_28 rfl) ?_
   refine Qd rfl ?_
   obtain ⟨⟨voo4_0_0_5, voo4_0_1_5, voo4_0_2_5, voo4_0_3_5, voo4_0_4_5, voo4_0_5_5, voo4_0_6_5, voo4_0_7_5, voo4_0_8_5, vooo4_0_9_5, vooo4_0_10_5⟩, hj_2, h⟩ := bind_some h
   refine Tri.rngLv hj_2 (fun p => ⟨[(4, .ptr 4 0), (14, .fn 220 [.ptr 4 0, .ptr 3 0, .ipt (Scene.cl a0) 0]), (174, .lst 5 (a0.Changes.map Change.cl)), (175, Ai (a0.Changes.length : Int)), (176, Ai p.1)], [(900003509, some (.arr 174 3 (p.2.2.2.2.2.2.2.2.2.2.1.map Diff.cl))), (901003510, some (.arr 42 4 (p.2.2.2.2.2.2.2.2.2.2.2.map Reason.cl))), (35, some (.box [.lst 4 (p.2.1.map Cell.cl), .lst 2 (p.2.2.1.map Arr2_3.cl), Ai p.2.2.2.1, Ai p.2.2.2.2.1, Ai p.2.2.2.2.2.1, .lst 1 (p.2.2.2.2.2.2.1.map icl), .lst 5 (p.2.2.2.2.2.2.2.1.map Sight.cl), .lst 5 (p.2.2.2.2.2.2.2.2.1.map Change.cl), Ai p.2.2.2.2.2.2.2.2.2.1, .hnd 900003509, .hnd 901003510])), (4, some (.box [.ptr 35 0])), (3, some (.box (Basin.cl a0.Basin)))]⟩) (fun (y : List Cell × List Arr2_3 × Int × Int × Int × List Int × List Sight × List Change × Int × List Diff × List Reason) => ⟨[(4, .ptr 4 0)], [(900003509, some (.arr 174 3 (y.2.2.2.2.2.2.2.2.2.1.map Diff.cl))), (901003510, some (.arr 42 4 (y.2.2.2.2.2.2.2.2.2.2.map Reason.cl))), (35, some (.box [.lst 4 (y.1.map Cell.cl), .lst 2 (y.2.1.map Arr2_3.cl), Ai y.2.2.1, Ai y.2.2.2.1, Ai y.2.2.2.2.1, .lst 1 (y.2.2.2.2.2.1.map icl), .lst 5 (y.2.2.2.2.2.2.1.map Sight.cl), .lst 5 (y.2.2.2.2.2.2.2.1.map Change.cl), Ai y.2.2.2.2.2.2.2.2.1, .hnd 900003509, .hnd 901003510])), (4, some (.box [.ptr 35 0]))]⟩) (Ee [900003509, 901003510, 35, 4, 3] rfl ⟨imf Diff_im, imf Reason_im, trivial⟩) ?_ ?_ ?_
   ·refine Tp rfl ?_
    refine Tri.ret ?_
    refine RetQ.eq2 (fun r => .ipt (Laid_basin.cl r) 0) (fun r => []) (Option.some.inj h) ?_
    exact RetQ.mk (vs := [.ptr 35 0]) (.inr rfl) ⟨_, _, rfl, .tmp rfl, rfl⟩ [35, 900003509, 901003510] [] rfl rfl trivial (.frz (.ptrV (List.Mem.head _) rfl ⟨(.imm rfl), (.imm rfl), (.imm rfl), (.imm rfl), (.imm rfl), (.imm rfl), (.imm rfl), (.imm rfl), (.imm rfl), (.hnd (List.Mem.tail _ (List.Mem.head _)) rfl (im_flat Diff_im vooo4_0_9_5)), (.hnd (List.Mem.tail _ (List.Mem.tail _ (List.Mem.head _))) rfl (im_flat Reason_im vooo4_0_10_5)), trivial⟩) rfl)
   ·rintro v176 ⟨voo4_0_0_4, voo4_0_1_4, voo4_0_2_4, voo4_0_3_4, voo4_0_4_4, voo4_0_5_4, voo4_0_6_4, voo4_0_7_4, voo4_0_8_4, vooo4_0_9_4, vooo4_0_10_4⟩ hi_2 h
    refine Tp rfl ?_
    refine Tri.seq ?_
    refine Tri.cond (b := (decide (v176 < (a0.Changes.length : Int)))) rfl (fun hb => ?_) (fun hb => ?_)
    ·exact (lt_f hi_2 hb).elim
    ·refine Tri.exit ?_
     exact Exists.intro (voo4_0_0_4, voo4_0_1_4, voo4_0_2_4, voo4_0_3_4, voo4_0_4_4, voo4_0_5_4, voo4_0_6_4, voo4_0_7_4, voo4_0_8_4, vooo4_0_9_4, vooo4_0_10_4) (And.intro h (Ee [900003509, 901003510, 35, 4] rfl ⟨imf Diff_im, imf Reason_im, trivial⟩))
   ·rintro nx_2 x_2 v176 ⟨voo4_0_0_4, voo4_0_1_4, voo4_0_2_4, voo4_0_3_4, voo4_0_4_4, voo4_0_5_4, voo4_0_6_4, voo4_0_7_4, voo4_0_8_4, vooo4_0_9_4, vooo4_0_10_4⟩ _ hi_2 hw_2 hx_2 h
    refine Tp rfl ?_
    refine Tri.seq ?_
    refine Tri.cond (b := (decide (v176 < (a0.Changes.length : Int)))) rfl (fun hb_1 => ?_) (fun hb_1 => ?_)
    ·refine Tri.skip ?_
     refine Tri.seq ?_
     refine Tri.block ?_
     refine Tr ?_
     refine Qe 1 rfl ?_
     refine Q1 rfl rfl rfl (Ax.ix (cl := Change.cl) rfl slc_28 rfl rfl hx_2) ?_
     refine Qe 1 rfl ?_
     refine Qn rfl rfl rfl (v := .ptr 19 0) (x := some (.box (Change.cl (⟨0, 0, 0, 0, 0⟩ : Change)))) (Ax.alloc rfl rfl zer_67 rfl ⟨Sub.refl _, Sub.refl _, Sub.refl _, Sub.refl _, Sub.refl _, trivial⟩) rfl rfl rfl rfl rfl ?_
     refine Qe 1 rfl ?_
     refine Qs rfl rfl (x := some (.box (Change.cl x_2))) (Ax.st_box rfl siz_67 rfl rfl rfl rfl rfl rfl rfl) ?_
     refine RunD.done ?_
     refine Tri.seq ?_
     refine Tri.drawn [[], [], [1], [], [3], [0, 1, 2, 3, 4], [], [], [7], [], [9], [0, 1, 2, 3, 4, 5, 6, 7, 8, 9, 10], [0, 1, 2, 3, 4, 5, 6, 7, 8, 9, 10, 11], [0, 1, 2, 3, 4, 5, 6, 7, 8, 9, 10, 11, 12]] hmix (by kernel_rfl) ?_
     refine Qe 5 rfl ?_
     obtain ⟨x186, hc, h⟩ := bind_some h
     refine Ql [4, 35, 900003509, 901003510, 3] rfl rfl rfl (args := [Ai x_2.Cell, Ai x_2.From, .ptr 4 0, .ptr 3 0, .ipt (Scene.cl a0) 0]) (args' := [Ai x_2.Cell, Ai x_2.From, .ipt [.ipt (Laid_basin.cl (⟨(⟨(⟨voo4_0_0_4, voo4_0_1_4, voo4_0_2_4, voo4_0_3_4, voo4_0_4_4⟩ : Basin), voo4_0_5_4, voo4_0_6_4, voo4_0_7_4⟩ : Scene), (⟨voo4_0_8_4, vooo4_0_9_4⟩ : Net), vooo4_0_10_4⟩ : Laid_basin)) 0] 0, .ipt (Basin.cl a0.Basin) 0, .ipt (Scene.cl a0) 0]) (r := Ai x186) (calv rfl rfl fnok_220 rfl) ⟨.imm rfl, .imm rfl, .ptrV (List.Mem.head _) rfl ⟨.ptrV (List.Mem.tail _ (List.Mem.head _)) rfl ⟨.imm rfl, .imm rfl, .imm rfl, .imm rfl, .imm rfl, .imm rfl, .imm rfl, .imm rfl, .imm rfl, .hnd (List.Mem.tail _ (List.Mem.tail _ (List.Mem.head _))) rfl (im_flat Diff_im vooo4_0_9_4), .hnd (List.Mem.tail _ (List.Mem.tail _ (List.Mem.tail _ (List.Mem.head _)))) rfl (im_flat Reason_im vooo4_0_10_4), trivial⟩, trivial⟩, .ptrV (List.Mem.tail _ (List.Mem.tail _ (List.Mem.tail _ (List.Mem.tail _ (List.Mem.head _))))) rfl ⟨.imm rfl, .imm rfl, .imm rfl, .imm rfl, .imm rfl, trivial⟩, .imm rfl, trivial⟩ (f220_ok hc) rfl rfl ?_
     refine Qe 5 rfl ?_
     obtain ⟨x192, hc_1, h⟩ := bind_some h
     refine Ql [4, 35, 900003509, 901003510, 3] rfl rfl rfl (args := [Ai x_2.Cell, Ai x_2.To, .ptr 4 0, .ptr 3 0, .ipt (Scene.cl a0) 0]) (args' := [Ai x_2.Cell, Ai x_2.To, .ipt [.ipt (Laid_basin.cl (⟨(⟨(⟨voo4_0_0_4, voo4_0_1_4, voo4_0_2_4, voo4_0_3_4, voo4_0_4_4⟩ : Basin), voo4_0_5_4, voo4_0_6_4, voo4_0_7_4⟩ : Scene), (⟨voo4_0_8_4, vooo4_0_9_4⟩ : Net), vooo4_0_10_4⟩ : Laid_basin)) 0] 0, .ipt (Basin.cl a0.Basin) 0, .ipt (Scene.cl a0) 0]) (r := Ai x192) (calv rfl rfl fnok_220 rfl) ⟨.imm rfl, .imm rfl, .ptrV (List.Mem.head _) rfl ⟨.ptrV (List.Mem.tail _ (List.Mem.head _)) rfl ⟨.imm rfl, .imm rfl, .imm rfl, .imm rfl, .imm rfl, .imm rfl, .imm rfl, .imm rfl, .imm rfl, .hnd (List.Mem.tail _ (List.Mem.tail _ (List.Mem.head _))) rfl (im_flat Diff_im vooo4_0_9_4), .hnd (List.Mem.tail _ (List.Mem.tail _ (List.Mem.tail _ (List.Mem.head _)))) rfl (im_flat Reason_im vooo4_0_10_4), trivial⟩, trivial⟩, .ptrV (List.Mem.tail _ (List.Mem.tail _ (List.Mem.tail _ (List.Mem.tail _ (List.Mem.head _))))) rfl ⟨.imm rfl, .imm rfl, .imm rfl, .imm rfl, .imm rfl, trivial⟩, .imm rfl, trivial⟩ (f220_ok hc_1) rfl rfl ?_
     refine Qe 2 rfl ?_
     refine RunD.done ⟨by kernel_rfl, freshL_of [] (by kernel_rfl) (by kernel_rfl), ?_⟩
     refine Tri.seq ?_
     refine Tri.ent (Ent.norm [] [(3, 3, .box (Basin.cl a0.Basin)), (4, 4, .box [.ptr 80170000 0]), (19, 19, .box (Change.cl x_2)), (80170000, 35, .box [.lst 4 (voo4_0_0_4.map Cell.cl), .lst 2 (voo4_0_1_4.map Arr2_3.cl), Ai voo4_0_2_4, Ai voo4_0_3_4, Ai voo4_0_4_4, .lst 1 (voo4_0_5_4.map icl), .lst 5 (voo4_0_6_4.map Sight.cl), .lst 5 (voo4_0_7_4.map Change.cl), Ai voo4_0_8_4, .hnd 80170010, .hnd 80170011]), (80170010, 900003509, .arr 174 3 (vooo4_0_9_4.map Diff.cl)), (80170011, 901003510, .arr 42 4 (vooo4_0_10_4.map Reason.cl))] [(4, .ptr 4 0), (14, .fn 220 [.ptr 4 0, .ptr 3 0, .ipt (Scene.cl a0) 0]), (18, Ai v176), (19, .ptr 19 0), (20, Ai x186), (21, Ai x192), (174, .lst 5 (a0.Changes.map Change.cl)), (175, Ai (a0.Changes.length : Int)), (176, Ai v176)] rfl ⟨⟨_, rfl, .boxV ⟨.rfl' rfl, .rfl' rfl, .rfl' rfl, .rfl' rfl, .rfl' rfl, trivial⟩⟩, ⟨_, rfl, .boxV ⟨.ptr (List.Mem.tail _ (List.Mem.tail _ (List.Mem.tail _ (List.Mem.head _)))), trivial⟩⟩, ⟨_, rfl, .boxV ⟨.rfl' rfl, .rfl' rfl, .rfl' rfl, .rfl' rfl, .rfl' rfl, trivial⟩⟩, ⟨_, rfl, .boxV ⟨.rfl' rfl, .rfl' rfl, .rfl' rfl, .rfl' rfl, .rfl' rfl, .rfl' rfl, .rfl' rfl, .rfl' rfl, .rfl' rfl, .hnd (List.Mem.tail _ (List.Mem.tail _ (List.Mem.tail _ (List.Mem.tail _ (List.Mem.head _))))), .hnd (List.Mem.tail _ (List.Mem.tail _ (List.Mem.tail _ (List.Mem.tail _ (List.Mem.tail _ (List.Mem.head _)))))), trivial⟩⟩, ⟨_, rfl, .arr (im_flat Diff_im vooo4_0_9_4)⟩, ⟨_, rfl, .arr (im_flat Reason_im vooo4_0_10_4)⟩, trivial⟩ ⟨.ptr (List.Mem.tail _ (List.Mem.head _)), .fnV ⟨.ptr (List.Mem.tail _ (List.Mem.head _)), .ptr (List.Mem.head _), .rfl' rfl, trivial⟩, .rfl' rfl, .ptr (List.Mem.tail _ (List.Mem.tail _ (List.Mem.head _))), .rfl' rfl, .rfl' rfl, .rfl' rfl, .rfl' rfl, .rfl' rfl, trivial⟩) ?_
     refine Tri.region ?_
     refine Qe 6 rfl ?_
     refine Q1 rfl rfl rfl (v := .agg (Reason.cl (⟨6, v176, 0, true⟩ : Reason))) (Ax.build rfl zer_42 (bld plc_42 zer_42) rfl ⟨Sub.refl _, Sub.refl _, Sub.refl _, Sub.refl _, trivial⟩) ?_
     obtain ⟨x200, hc_2, h⟩ := bind_some h
     refine Qo [(80170010, .arr 174 3 (vooo4_0_9_4.map Diff.cl)), (80170011, .arr 42 4 (vooo4_0_10_4.map Reason.cl)), (80170000, .box [.lst 4 (voo4_0_0_4.map Cell.cl), .lst 2 (voo4_0_1_4.map Arr2_3.cl), Ai voo4_0_2_4, Ai voo4_0_3_4, Ai voo4_0_4_4, .lst 1 (voo4_0_5_4.map icl), .lst 5 (voo4_0_6_4.map Sight.cl), .lst 5 (voo4_0_7_4.map Change.cl), Ai voo4_0_8_4, .hnd 80170010, .hnd 80170011])] [(80170510, .arr 174 3 (x200.net.Diffs.map Diff.cl)), (80170511, .arr 42 4 (x200.reasons.map Reason.cl)), (80170000, .box [.lst 4 (x200.s.Basin.Cells.map Cell.cl), .lst 2 (x200.s.Basin.Pairs.map Arr2_3.cl), Ai x200.s.Basin.Gain, Ai x200.s.Basin.Slack, Ai x200.s.Basin.Deep, .lst 1 (x200.s.Days.map icl), .lst 5 (x200.s.Sights.map Sight.cl), .lst 5 (x200.s.Changes.map Change.cl), Ai x200.net.Nodes, .hnd 80170510, .hnd 80170511])] [80170510, 80170511] rfl rfl rfl (args := [.ptr 80170000 0, Ai x186, Ai x192, Ai x_2.Hi, .agg (Reason.cl (⟨6, v176, 0, true⟩ : Reason))]) (r := .tup []) (calv rfl rfl fnok_219 rfl) (f219_ok hc_2) ⟨rfl, rfl, rfl, trivial⟩ rfl rfl rfl rfl rfl ?_
     refine RunD.done ?_
     refine Tri.ent (Ent.norm [] [(3, 3, .box (Basin.cl a0.Basin)), (4, 4, .box [.ptr 80170000 0]), (19, 19, .box (Change.cl x_2)), (80170000, 80170000, .box [.lst 4 (x200.s.Basin.Cells.map Cell.cl), .lst 2 (x200.s.Basin.Pairs.map Arr2_3.cl), Ai x200.s.Basin.Gain, Ai x200.s.Basin.Slack, Ai x200.s.Basin.Deep, .lst 1 (x200.s.Days.map icl), .lst 5 (x200.s.Sights.map Sight.cl), .lst 5 (x200.s.Changes.map Change.cl), Ai x200.net.Nodes, .hnd 80170010, .hnd 80170011]), (80170010, 80170510, .arr 174 3 (x200.net.Diffs.map Diff.cl)), (80170011, 80170511, .arr 42 4 (x200.reasons.map Reason.cl))] [(4, .ptr 4 0), (14, .fn 220 [.ptr 4 0, .ptr 3 0, .ipt (Scene.cl a0) 0]), (18, Ai v176), (19, .ptr 19 0), (20, Ai x186), (21, Ai x192), (174, .lst 5 (a0.Changes.map Change.cl)), (175, Ai (a0.Changes.length : Int)), (176, Ai v176)] rfl ⟨⟨_, rfl, .boxV ⟨.rfl' rfl, .rfl' rfl, .rfl' rfl, .rfl' rfl, .rfl' rfl, trivial⟩⟩, ⟨_, rfl, .boxV ⟨.ptr (List.Mem.tail _ (List.Mem.tail _ (List.Mem.tail _ (List.Mem.head _)))), trivial⟩⟩, ⟨_, rfl, .boxV ⟨.rfl' rfl, .rfl' rfl, .rfl' rfl, .rfl' rfl, .rfl' rfl, trivial⟩⟩, ⟨_, rfl, .boxV ⟨.rfl' rfl, .rfl' rfl, .rfl' rfl, .rfl' rfl, .rfl' rfl, .rfl' rfl, .rfl' rfl, .rfl' rfl, .rfl' rfl, .hnd (List.Mem.tail _ (List.Mem.tail _ (List.Mem.tail _ (List.Mem.tail _ (List.Mem.head _))))), .hnd (List.Mem.tail _ (List.Mem.tail _ (List.Mem.tail _ (List.Mem.tail _ (List.Mem.tail _ (List.Mem.head _)))))), trivial⟩⟩, ⟨_, rfl, .arr (im_flat Diff_im x200.net.Diffs)⟩, ⟨_, rfl, .arr (im_flat Reason_im x200.reasons)⟩, trivial⟩ ⟨.ptr (List.Mem.tail _ (List.Mem.head _)), .fnV ⟨.ptr (List.Mem.tail _ (List.Mem.head _)), .ptr (List.Mem.head _), .rfl' rfl, trivial⟩, .rfl' rfl, .ptr (List.Mem.tail _ (List.Mem.tail _ (List.Mem.head _))), .rfl' rfl, .rfl' rfl, .rfl' rfl, .rfl' rfl, .rfl' rfl, trivial⟩) ?_
     refine Tri.region ?_
     refine Qe 7 rfl ?_
     refine Q1 rfl rfl rfl (v := .agg (Reason.cl (⟨6, v176, 0, false⟩ : Reason))) (Ax.build rfl zer_42 (bld plc_42 zer_42) rfl ⟨Sub.refl _, Sub.refl _, Sub.refl _, Sub.refl _, trivial⟩) ?_
     obtain ⟨x209, hc_3, h⟩ := bind_some h
     refine Qo [(80170010, .arr 174 3 (x200.net.Diffs.map Diff.cl)), (80170011, .arr 42 4 (x200.reasons.map Reason.cl)), (80170000, .box [.lst 4 (x200.s.Basin.Cells.map Cell.cl), .lst 2 (x200.s.Basin.Pairs.map Arr2_3.cl), Ai x200.s.Basin.Gain, Ai x200.s.Basin.Slack, Ai x200.s.Basin.Deep, .lst 1 (x200.s.Days.map icl), .lst 5 (x200.s.Sights.map Sight.cl), .lst 5 (x200.s.Changes.map Change.cl), Ai x200.net.Nodes, .hnd 80170010, .hnd 80170011])] [(80170510, .arr 174 3 (x209.net.Diffs.map Diff.cl)), (80170511, .arr 42 4 (x209.reasons.map Reason.cl)), (80170000, .box [.lst 4 (x209.s.Basin.Cells.map Cell.cl), .lst 2 (x209.s.Basin.Pairs.map Arr2_3.cl), Ai x209.s.Basin.Gain, Ai x209.s.Basin.Slack, Ai x209.s.Basin.Deep, .lst 1 (x209.s.Days.map icl), .lst 5 (x209.s.Sights.map Sight.cl), .lst 5 (x209.s.Changes.map Change.cl), Ai x209.net.Nodes, .hnd 80170510, .hnd 80170511])] [80170510, 80170511] rfl rfl rfl (args := [.ptr 80170000 0, Ai x192, Ai x186, Ai (W (-x_2.Lo)), .agg (Reason.cl (⟨6, v176, 0, false⟩ : Reason))]) (r := .tup []) (calv rfl rfl fnok_219 rfl) (f219_ok hc_3) ⟨rfl, rfl, rfl, trivial⟩ rfl rfl rfl rfl rfl ?_
     refine RunD.done ?_
     refine Tq rfl ?_
     exact Exists.intro (v176 + 1, (x209.s.Basin.Cells, x209.s.Basin.Pairs, x209.s.Basin.Gain, x209.s.Basin.Slack, x209.s.Basin.Deep, x209.s.Days, x209.s.Sights, x209.s.Changes, x209.net.Nodes, x209.net.Diffs, x209.reasons)) (And.intro (And.intro rfl h) (Es [80170510, 80170511, 80170000, 4, 3] [176] rfl ⟨imf Diff_im, imf Reason_im, trivial⟩ ⟨.imm (Sub.of_eq (show Ai (v176 + 1) = Ai (W (v176 + 1)) from congrArg Ai hw_2.symm)) rfl, trivial⟩))
    ·exact (lt_t hi_2 hb_1).elim
  ·rintro v146 ⟨voo4_0_0_2, voo4_0_1_2, voo4_0_2_2, voo4_0_3_2, voo4_0_4_2, voo4_0_5_2, voo4_0_6_2, voo4_0_7_2, voo4_0_8_2, vooo4_0_9_2, vooo4_0_10_2⟩ hi_1 h
   refine Tp rfl ?_
   refine Tri.seq ?_
   refine Tri.cond (b := (decide (v146 < (a0.Sights.length : Int)))) rfl (fun hb_2 => ?_) (fun hb_2 => ?_)
   ·exact (lt_f hi_1 hb_2).elim
   ·refine Tri.exit ?_
    exact Exists.intro (voo4_0_0_2, voo4_0_1_2, voo4_0_2_2, voo4_0_3_2, voo4_0_4_2, voo4_0_5_2, voo4_0_6_2, voo4_0_7_2, voo4_0_8_2, vooo4_0_9_2, vooo4_0_10_2) (And.intro h (Ee [900003509, 901003510, 35, 4, 3] rfl ⟨imf Diff_im, imf Reason_im, trivial⟩))
  ·rintro nx_1 x_1 v146 ⟨voo4_0_0_2, voo4_0_1_2, voo4_0_2_2, voo4_0_3_2, voo4_0_4_2, voo4_0_5_2, voo4_0_6_2, voo4_0_7_2, voo4_0_8_2, vooo4_0_9_2, vooo4_0_10_2⟩ _ hi_1 hw_1 hx_1 h
   refine Tp rfl ?_
   refine Tri.seq ?_
   refine Tri.cond (b := (decide (v146 < (a0.Sights.length : Int)))) rfl (fun hb_3 => ?_) (fun hb_3 => ?_)
   ·refine Tri.skip ?_
    refine Tri.seq ?_
    refine Tri.block ?_
    refine Tr ?_
    refine Qe 1 rfl ?_
    refine Q1 rfl rfl rfl (Ax.ix (cl := Sight.cl) rfl slc_27 rfl rfl hx_1) ?_
    refine Qe 1 rfl ?_
    refine Qn rfl rfl rfl (v := .ptr 16 0) (x := some (.box (Sight.cl (⟨0, 0, 0, 0, 0⟩ : Sight)))) (Ax.alloc rfl rfl zer_64 rfl ⟨Sub.refl _, Sub.refl _, Sub.refl _, Sub.refl _, Sub.refl _, trivial⟩) rfl rfl rfl rfl rfl ?_
    refine Qe 1 rfl ?_
    refine Qs rfl rfl (x := some (.box (Sight.cl x_1))) (Ax.st_box rfl siz_64 rfl rfl rfl rfl rfl rfl rfl) ?_
    refine RunD.done ?_
    refine Tr ?_
    refine Qe 5 rfl ?_
    obtain ⟨x156, hc_4, h⟩ := bind_some h
    refine Ql [4, 35, 900003509, 901003510, 3] rfl rfl rfl (args := [Ai x_1.Cell, Ai x_1.Day, .ptr 4 0, .ptr 3 0, .ipt (Scene.cl a0) 0]) (args' := [Ai x_1.Cell, Ai x_1.Day, .ipt [.ipt (Laid_basin.cl (⟨(⟨(⟨voo4_0_0_2, voo4_0_1_2, voo4_0_2_2, voo4_0_3_2, voo4_0_4_2⟩ : Basin), voo4_0_5_2, voo4_0_6_2, voo4_0_7_2⟩ : Scene), (⟨voo4_0_8_2, vooo4_0_9_2⟩ : Net), vooo4_0_10_2⟩ : Laid_basin)) 0] 0, .ipt (Basin.cl a0.Basin) 0, .ipt (Scene.cl a0) 0]) (r := Ai x156) (calv rfl rfl fnok_220 rfl) ⟨.imm rfl, .imm rfl, .ptrV (List.Mem.head _) rfl ⟨.ptrV (List.Mem.tail _ (List.Mem.head _)) rfl ⟨.imm rfl, .imm rfl, .imm rfl, .imm rfl, .imm rfl, .imm rfl, .imm rfl, .imm rfl, .imm rfl, .hnd (List.Mem.tail _ (List.Mem.tail _ (List.Mem.head _))) rfl (im_flat Diff_im vooo4_0_9_2), .hnd (List.Mem.tail _ (List.Mem.tail _ (List.Mem.tail _ (List.Mem.head _)))) rfl (im_flat Reason_im vooo4_0_10_2), trivial⟩, trivial⟩, .ptrV (List.Mem.tail _ (List.Mem.tail _ (List.Mem.tail _ (List.Mem.tail _ (List.Mem.head _))))) rfl ⟨.imm rfl, .imm rfl, .imm rfl, .imm rfl, .imm rfl, trivial⟩, .imm rfl, trivial⟩ (f220_ok hc_4) rfl rfl ?_
    refine Qd rfl ?_
    refine Tri.seq ?_
    refine Tri.ent (Ent.norm [] [(3, 3, .box (Basin.cl a0.Basin)), (4, 4, .box [.ptr 80170000 0]), (16, 16, .box (Sight.cl x_1)), (80170000, 35, .box [.lst 4 (voo4_0_0_2.map Cell.cl), .lst 2 (voo4_0_1_2.map Arr2_3.cl), Ai voo4_0_2_2, Ai voo4_0_3_2, Ai voo4_0_4_2, .lst 1 (voo4_0_5_2.map icl), .lst 5 (voo4_0_6_2.map Sight.cl), .lst 5 (voo4_0_7_2.map Change.cl), Ai voo4_0_8_2, .hnd 80170010, .hnd 80170011]), (80170010, 900003509, .arr 174 3 (vooo4_0_9_2.map Diff.cl)), (80170011, 901003510, .arr 42 4 (vooo4_0_10_2.map Reason.cl))] [(1, .ipt (Scene.cl a0) 0), (4, .ptr 4 0), (14, .fn 220 [.ptr 4 0, .ptr 3 0, .ipt (Scene.cl a0) 0]), (15, Ai v146), (16, .ptr 16 0), (17, Ai x156), (144, .lst 5 (a0.Sights.map Sight.cl)), (145, Ai (a0.Sights.length : Int)), (146, Ai v146)] rfl ⟨⟨_, rfl, .boxV ⟨.rfl' rfl, .rfl' rfl, .rfl' rfl, .rfl' rfl, .rfl' rfl, trivial⟩⟩, ⟨_, rfl, .boxV ⟨.ptr (List.Mem.tail _ (List.Mem.tail _ (List.Mem.tail _ (List.Mem.head _)))), trivial⟩⟩, ⟨_, rfl, .boxV ⟨.rfl' rfl, .rfl' rfl, .rfl' rfl, .rfl' rfl, .rfl' rfl, trivial⟩⟩, ⟨_, rfl, .boxV ⟨.rfl' rfl, .rfl' rfl, .rfl' rfl, .rfl' rfl, .rfl' rfl, .rfl' rfl, .rfl' rfl, .rfl' rfl, .rfl' rfl, .hnd (List.Mem.tail _ (List.Mem.tail _ (List.Mem.tail _ (List.Mem.tail _ (List.Mem.head _))))), .hnd (List.Mem.tail _ (List.Mem.tail _ (List.Mem.tail _ (List.Mem.tail _ (List.Mem.tail _ (List.Mem.head _)))))), trivial⟩⟩, ⟨_, rfl, .arr (im_flat Diff_im vooo4_0_9_2)⟩, ⟨_, rfl, .arr (im_flat Reason_im vooo4_0_10_2)⟩, trivial⟩ ⟨.rfl' rfl, .ptr (List.Mem.tail _ (List.Mem.head _)), .fnV ⟨.ptr (List.Mem.tail _ (List.Mem.head _)), .ptr (List.Mem.head _), .rfl' rfl, trivial⟩, .rfl' rfl, .ptr (List.Mem.tail _ (List.Mem.tail _ (List.Mem.head _))), .rfl' rfl, .rfl' rfl, .rfl' rfl, .rfl' rfl, trivial⟩) ?_
    refine Tri.region ?_
    refine Qe 5 rfl ?_
    refine Q1 rfl rfl rfl (v := .agg (Reason.cl (⟨5, v146, 0, true⟩ : Reason))) (Ax.build rfl zer_42 (bld plc_42 zer_42) rfl ⟨Sub.refl _, Sub.refl _, Sub.refl _, Sub.refl _, trivial⟩) ?_
    obtain ⟨x163, hc_5, h⟩ := bind_some h
    refine Qo [(80170010, .arr 174 3 (vooo4_0_9_2.map Diff.cl)), (80170011, .arr 42 4 (vooo4_0_10_2.map Reason.cl)), (80170000, .box [.lst 4 (voo4_0_0_2.map Cell.cl), .lst 2 (voo4_0_1_2.map Arr2_3.cl), Ai voo4_0_2_2, Ai voo4_0_3_2, Ai voo4_0_4_2, .lst 1 (voo4_0_5_2.map icl), .lst 5 (voo4_0_6_2.map Sight.cl), .lst 5 (voo4_0_7_2.map Change.cl), Ai voo4_0_8_2, .hnd 80170010, .hnd 80170011])] [(80170510, .arr 174 3 (x163.net.Diffs.map Diff.cl)), (80170511, .arr 42 4 (x163.reasons.map Reason.cl)), (80170000, .box [.lst 4 (x163.s.Basin.Cells.map Cell.cl), .lst 2 (x163.s.Basin.Pairs.map Arr2_3.cl), Ai x163.s.Basin.Gain, Ai x163.s.Basin.Slack, Ai x163.s.Basin.Deep, .lst 1 (x163.s.Days.map icl), .lst 5 (x163.s.Sights.map Sight.cl), .lst 5 (x163.s.Changes.map Change.cl), Ai x163.net.Nodes, .hnd 80170510, .hnd 80170511])] [80170510, 80170511] rfl rfl rfl (args := [.ptr 80170000 0, Ai 0, Ai x156, Ai x_1.Hi, .agg (Reason.cl (⟨5, v146, 0, true⟩ : Reason))]) (r := .tup []) (calv rfl rfl fnok_219 rfl) (f219_ok hc_5) ⟨rfl, rfl, rfl, trivial⟩ rfl rfl rfl rfl rfl ?_
    refine RunD.done ?_
    refine Tri.ent (Ent.norm [] [(3, 3, .box (Basin.cl a0.Basin)), (4, 4, .box [.ptr 80170000 0]), (16, 16, .box (Sight.cl x_1)), (80170000, 80170000, .box [.lst 4 (x163.s.Basin.Cells.map Cell.cl), .lst 2 (x163.s.Basin.Pairs.map Arr2_3.cl), Ai x163.s.Basin.Gain, Ai x163.s.Basin.Slack, Ai x163.s.Basin.Deep, .lst 1 (x163.s.Days.map icl), .lst 5 (x163.s.Sights.map Sight.cl), .lst 5 (x163.s.Changes.map Change.cl), Ai x163.net.Nodes, .hnd 80170010, .hnd 80170011]), (80170010, 80170510, .arr 174 3 (x163.net.Diffs.map Diff.cl)), (80170011, 80170511, .arr 42 4 (x163.reasons.map Reason.cl))] [(1, .ipt (Scene.cl a0) 0), (4, .ptr 4 0), (14, .fn 220 [.ptr 4 0, .ptr 3 0, .ipt (Scene.cl a0) 0]), (15, Ai v146), (16, .ptr 16 0), (17, Ai x156), (144, .lst 5 (a0.Sights.map Sight.cl)), (145, Ai (a0.Sights.length : Int)), (146, Ai v146)] rfl ⟨⟨_, rfl, .boxV ⟨.rfl' rfl, .rfl' rfl, .rfl' rfl, .rfl' rfl, .rfl' rfl, trivial⟩⟩, ⟨_, rfl, .boxV ⟨.ptr (List.Mem.tail _ (List.Mem.tail _ (List.Mem.tail _ (List.Mem.head _)))), trivial⟩⟩, ⟨_, rfl, .boxV ⟨.rfl' rfl, .rfl' rfl, .rfl' rfl, .rfl' rfl, .rfl' rfl, trivial⟩⟩, ⟨_, rfl, .boxV ⟨.rfl' rfl, .rfl' rfl, .rfl' rfl, .rfl' rfl, .rfl' rfl, .rfl' rfl, .rfl' rfl, .rfl' rfl, .rfl' rfl, .hnd (List.Mem.tail _ (List.Mem.tail _ (List.Mem.tail _ (List.Mem.tail _ (List.Mem.head _))))), .hnd (List.Mem.tail _ (List.Mem.tail _ (List.Mem.tail _ (List.Mem.tail _ (List.Mem.tail _ (List.Mem.head _)))))), trivial⟩⟩, ⟨_, rfl, .arr (im_flat Diff_im x163.net.Diffs)⟩, ⟨_, rfl, .arr (im_flat Reason_im x163.reasons)⟩, trivial⟩ ⟨.rfl' rfl, .ptr (List.Mem.tail _ (List.Mem.head _)), .fnV ⟨.ptr (List.Mem.tail _ (List.Mem.head _)), .ptr (List.Mem.head _), .rfl' rfl, trivial⟩, .rfl' rfl, .ptr (List.Mem.tail _ (List.Mem.tail _ (List.Mem.head _))), .rfl' rfl, .rfl' rfl, .rfl' rfl, .rfl' rfl, trivial⟩) ?_
    refine Tri.region ?_
    refine Qe 6 rfl ?_
    refine Q1 rfl rfl rfl (v := .agg (Reason.cl (⟨5, v146, 0, false⟩ : Reason))) (Ax.build rfl zer_42 (bld plc_42 zer_42) rfl ⟨Sub.refl _, Sub.refl _, Sub.refl _, Sub.refl _, trivial⟩) ?_
    obtain ⟨x171, hc_6, h⟩ := bind_some h
    refine Qo [(80170010, .arr 174 3 (x163.net.Diffs.map Diff.cl)), (80170011, .arr 42 4 (x163.reasons.map Reason.cl)), (80170000, .box [.lst 4 (x163.s.Basin.Cells.map Cell.cl), .lst 2 (x163.s.Basin.Pairs.map Arr2_3.cl), Ai x163.s.Basin.Gain, Ai x163.s.Basin.Slack, Ai x163.s.Basin.Deep, .lst 1 (x163.s.Days.map icl), .lst 5 (x163.s.Sights.map Sight.cl), .lst 5 (x163.s.Changes.map Change.cl), Ai x163.net.Nodes, .hnd 80170010, .hnd 80170011])] [(80170510, .arr 174 3 (x171.net.Diffs.map Diff.cl)), (80170511, .arr 42 4 (x171.reasons.map Reason.cl)), (80170000, .box [.lst 4 (x171.s.Basin.Cells.map Cell.cl), .lst 2 (x171.s.Basin.Pairs.map Arr2_3.cl), Ai x171.s.Basin.Gain, Ai x171.s.Basin.Slack, Ai x171.s.Basin.Deep, .lst 1 (x171.s.Days.map icl), .lst 5 (x171.s.Sights.map Sight.cl), .lst 5 (x171.s.Changes.map Change.cl), Ai x171.net.Nodes, .hnd 80170510, .hnd 80170511])] [80170510, 80170511] rfl rfl rfl (args := [.ptr 80170000 0, Ai x156, Ai 0, Ai (W (-x_1.Lo)), .agg (Reason.cl (⟨5, v146, 0, false⟩ : Reason))]) (r := .tup []) (calv rfl rfl fnok_219 rfl) (f219_ok hc_6) ⟨rfl, rfl, rfl, trivial⟩ rfl rfl rfl rfl rfl ?_
    refine RunD.done ?_
    refine Tq rfl ?_
    exact Exists.intro (v146 + 1, (x171.s.Basin.Cells, x171.s.Basin.Pairs, x171.s.Basin.Gain, x171.s.Basin.Slack, x171.s.Basin.Deep, x171.s.Days, x171.s.Sights, x171.s.Changes, x171.net.Nodes, x171.net.Diffs, x171.reasons)) (And.intro (And.intro rfl h) (Es [80170510, 80170511, 80170000, 4, 3] [146] rfl ⟨imf Diff_im, imf Reason_im, trivial⟩ ⟨.imm (Sub.of_eq (show Ai (v146 + 1) = Ai (W (v146 + 1)) from congrArg Ai hw_1.symm)) rfl, trivial⟩))
   ·exact (lt_t hi_1 hb_3).elim
 ·rintro v39 ⟨voo4_0_0, voo4_0_1, voo4_0_2, voo4_0_3, voo4_0_4, voo4_0_5, voo4_0_6, voo4_0_7, voo4_0_8, vooo4_0_9, vooo4_0_10⟩ hi h
  refine Tp rfl ?_
  refine Tri.seq ?_
  refine Tri.cond (b := (decide (v39 < (a0.Days.length : Int)))) rfl (fun hb_4 => ?_) (fun hb_4 => ?_)
  ·exact (lt_f hi hb_4).elim
  ·refine Tri.exit ?_
   exact Exists.intro (voo4_0_0, voo4_0_1, voo4_0_2, voo4_0_3, voo4_0_4, voo4_0_5, voo4_0_6, voo4_0_7, voo4_0_8, vooo4_0_9, vooo4_0_10) (And.intro h (Ee [3, 900003509, 901003510, 35, 4] rfl ⟨imf Diff_im, imf Reason_im, trivial⟩))
 ·rintro nx x v39 ⟨voo4_0_0, voo4_0_1, voo4_0_2, voo4_0_3, voo4_0_4, voo4_0_5, voo4_0_6, voo4_0_7, voo4_0_8, vooo4_0_9, vooo4_0_10⟩ _ hi hw hx h
  refine Tp rfl ?_
  refine Tri.seq ?_
  refine Tri.cond (b := (decide (v39 < (a0.Days.length : Int)))) rfl (fun hb_5 => ?_) (fun hb_5 => ?_)
  ·refine Tri.skip ?_
   refine Tri.seq ?_
   refine Tri.block ?_
   refine Tr ?_
   refine Qe 1 rfl ?_
   refine Q1 rfl rfl rfl (Ax.ix (cl := icl) rfl slc_26 rfl rfl hx) ?_
   refine Qd rfl ?_
   refine Tri.seq ?_
   refine Tr ?_
   refine Qe 2 rfl ?_
   refine Q1 rfl rfl rfl (Ax.ln (cl := Cell.cl) rfl slc_22 rfl) ?_
   refine Qd rfl ?_
   obtain ⟨⟨voo4_0_0_7, voo4_0_1_7, voo4_0_2_7, voo4_0_3_7, voo4_0_4_7, voo4_0_5_7, voo4_0_6_7, voo4_0_7_7, voo4_0_8_7, vooo4_0_9_7, vooo4_0_10_7⟩, hj_3, h⟩ := bind_some h
   refine Tri.rngLv hj_3 (fun p => ⟨[(1, .ipt (Scene.cl a0) 0), (3, .ptr 3 0), (4, .ptr 4 0), (5, Ai v39), (6, Ai x), (37, .lst 1 (a0.Days.map icl)), (38, Ai (a0.Days.length : Int)), (39, Ai v39), (45, .lst 4 (a0.Basin.Cells.map Cell.cl)), (46, Ai (a0.Basin.Cells.length : Int)), (47, Ai p.1)], [(3, some (.box (Basin.cl a0.Basin))), (900003509, some (.arr 174 3 (p.2.2.2.2.2.2.2.2.2.2.1.map Diff.cl))), (901003510, some (.arr 42 4 (p.2.2.2.2.2.2.2.2.2.2.2.map Reason.cl))), (35, some (.box [.lst 4 (p.2.1.map Cell.cl), .lst 2 (p.2.2.1.map Arr2_3.cl), Ai p.2.2.2.1, Ai p.2.2.2.2.1, Ai p.2.2.2.2.2.1, .lst 1 (p.2.2.2.2.2.2.1.map icl), .lst 5 (p.2.2.2.2.2.2.2.1.map Sight.cl), .lst 5 (p.2.2.2.2.2.2.2.2.1.map Change.cl), Ai p.2.2.2.2.2.2.2.2.2.1, .hnd 900003509, .hnd 901003510])), (4, some (.box [.ptr 35 0]))]⟩) (fun (y : List Cell × List Arr2_3 × Int × Int × Int × List Int × List Sight × List Change × Int × List Diff × List Reason) => ⟨[(1, .ipt (Scene.cl a0) 0), (3, .ptr 3 0), (4, .ptr 4 0), (5, Ai v39), (6, Ai x), (37, .lst 1 (a0.Days.map icl)), (38, Ai (a0.Days.length : Int)), (39, Ai v39)], [(3, some (.box (Basin.cl a0.Basin))), (900003509, some (.arr 174 3 (y.2.2.2.2.2.2.2.2.2.1.map Diff.cl))), (901003510, some (.arr 42 4 (y.2.2.2.2.2.2.2.2.2.2.map Reason.cl))), (35, some (.box [.lst 4 (y.1.map Cell.cl), .lst 2 (y.2.1.map Arr2_3.cl), Ai y.2.2.1, Ai y.2.2.2.1, Ai y.2.2.2.2.1, .lst 1 (y.2.2.2.2.2.1.map icl), .lst 5 (y.2.2.2.2.2.2.1.map Sight.cl), .lst 5 (y.2.2.2.2.2.2.2.1.map Change.cl), Ai y.2.2.2.2.2.2.2.2.1, .hnd 900003509, .hnd 901003510])), (4, some (.box [.ptr 35 0]))]⟩) (Ee [3, 900003509, 901003510, 35, 4] rfl ⟨imf Diff_im, imf Reason_im, trivial⟩) ?_ ?_ ?_
   ·refine Tr ?_
    refine Qe 2 rfl ?_
    refine Q1 rfl rfl rfl (Ax.ln (cl := Arr2_3.cl) rfl slc_23 rfl) ?_
    refine Qd rfl ?_
    obtain ⟨⟨voo4_0_0_9, voo4_0_1_9, voo4_0_2_9, voo4_0_3_9, voo4_0_4_9, voo4_0_5_9, voo4_0_6_9, voo4_0_7_9, voo4_0_8_9, vooo4_0_9_9, vooo4_0_10_9⟩, hj_4, h⟩ := bind_some h
    refine Tri.rngLv hj_4 (fun p => ⟨[(1, .ipt (Scene.cl a0) 0), (3, .ptr 3 0), (4, .ptr 4 0), (5, Ai v39), (6, Ai x), (37, .lst 1 (a0.Days.map icl)), (38, Ai (a0.Days.length : Int)), (39, Ai v39), (76, .lst 2 (a0.Basin.Pairs.map Arr2_3.cl)), (77, Ai (a0.Basin.Pairs.length : Int)), (78, Ai p.1)], [(3, some (.box (Basin.cl a0.Basin))), (900003509, some (.arr 174 3 (p.2.2.2.2.2.2.2.2.2.2.1.map Diff.cl))), (901003510, some (.arr 42 4 (p.2.2.2.2.2.2.2.2.2.2.2.map Reason.cl))), (35, some (.box [.lst 4 (p.2.1.map Cell.cl), .lst 2 (p.2.2.1.map Arr2_3.cl), Ai p.2.2.2.1, Ai p.2.2.2.2.1, Ai p.2.2.2.2.2.1, .lst 1 (p.2.2.2.2.2.2.1.map icl), .lst 5 (p.2.2.2.2.2.2.2.1.map Sight.cl), .lst 5 (p.2.2.2.2.2.2.2.2.1.map Change.cl), Ai p.2.2.2.2.2.2.2.2.2.1, .hnd 900003509, .hnd 901003510])), (4, some (.box [.ptr 35 0]))]⟩) (fun (y : List Cell × List Arr2_3 × Int × Int × Int × List Int × List Sight × List Change × Int × List Diff × List Reason) => ⟨[(1, .ipt (Scene.cl a0) 0), (3, .ptr 3 0), (4, .ptr 4 0), (37, .lst 1 (a0.Days.map icl)), (38, Ai (a0.Days.length : Int)), (39, Ai v39)], [(3, some (.box (Basin.cl a0.Basin))), (900003509, some (.arr 174 3 (y.2.2.2.2.2.2.2.2.2.1.map Diff.cl))), (901003510, some (.arr 42 4 (y.2.2.2.2.2.2.2.2.2.2.map Reason.cl))), (35, some (.box [.lst 4 (y.1.map Cell.cl), .lst 2 (y.2.1.map Arr2_3.cl), Ai y.2.2.1, Ai y.2.2.2.1, Ai y.2.2.2.2.1, .lst 1 (y.2.2.2.2.2.1.map icl), .lst 5 (y.2.2.2.2.2.2.1.map Sight.cl), .lst 5 (y.2.2.2.2.2.2.2.1.map Change.cl), Ai y.2.2.2.2.2.2.2.2.1, .hnd 900003509, .hnd 901003510])), (4, some (.box [.ptr 35 0]))]⟩) (Ee [3, 900003509, 901003510, 35, 4] rfl ⟨imf Diff_im, imf Reason_im, trivial⟩) ?_ ?_ ?_
    ·refine Tq rfl ?_
     exact Exists.intro (v39 + 1, (voo4_0_0_9, voo4_0_1_9, voo4_0_2_9, voo4_0_3_9, voo4_0_4_9, voo4_0_5_9, voo4_0_6_9, voo4_0_7_9, voo4_0_8_9, vooo4_0_9_9, vooo4_0_10_9)) (And.intro (And.intro rfl h) (Es [3, 900003509, 901003510, 35, 4] [39] rfl ⟨imf Diff_im, imf Reason_im, trivial⟩ ⟨.imm (Sub.of_eq (show Ai (v39 + 1) = Ai (W (v39 + 1)) from congrArg Ai hw.symm)) rfl, trivial⟩))
    ·rintro v78 ⟨voo4_0_0_8, voo4_0_1_8, voo4_0_2_8, voo4_0_3_8, voo4_0_4_8, voo4_0_5_8, voo4_0_6_8, voo4_0_7_8, voo4_0_8_8, vooo4_0_9_8, vooo4_0_10_8⟩ hi_4 h
     refine Tp rfl ?_
     refine Tri.seq ?_
     refine Tri.cond (b := (decide (v78 < (a0.Basin.Pairs.length : Int)))) rfl (fun hb_6 => ?_) (fun hb_6 => ?_)
     ·exact (lt_f hi_4 hb_6).elim
     ·refine Tri.exit ?_
      exact Exists.intro (voo4_0_0_8, voo4_0_1_8, voo4_0_2_8, voo4_0_3_8, voo4_0_4_8, voo4_0_5_8, voo4_0_6_8, voo4_0_7_8, voo4_0_8_8, vooo4_0_9_8, vooo4_0_10_8) (And.intro h (Ee [3, 900003509, 901003510, 35, 4] rfl ⟨imf Diff_im, imf Reason_im, trivial⟩))
    ·rintro nx_4 x_4 v78 ⟨voo4_0_0_8, voo4_0_1_8, voo4_0_2_8, voo4_0_3_8, voo4_0_4_8, voo4_0_5_8, voo4_0_6_8, voo4_0_7_8, voo4_0_8_8, vooo4_0_9_8, vooo4_0_10_8⟩ _ hi_4 hw_4 hx_4 h
     refine Tp rfl ?_
     refine Tri.seq ?_
     refine Tri.cond (b := (decide (v78 < (a0.Basin.Pairs.length : Int)))) rfl (fun hb_7 => ?_) (fun hb_7 => ?_)
     ·refine Tri.skip ?_
      refine Tri.seq ?_
      obtain ⟨⟨voo4_0_0_10, voo4_0_1_10, voo4_0_2_10, voo4_0_3_10, voo4_0_4_10, voo4_0_5_10, voo4_0_6_10, voo4_0_7_10, voo4_0_8_10, vooo4_0_9_10, vooo4_0_10_10⟩, hj_5, h⟩ := bind_some h
      refine Tri.joinv (voo4_0_0_10, voo4_0_1_10, voo4_0_2_10, voo4_0_3_10, voo4_0_4_10, voo4_0_5_10, voo4_0_6_10, voo4_0_7_10, voo4_0_8_10, vooo4_0_9_10, vooo4_0_10_10) (fun (y : List Cell × List Arr2_3 × Int × Int × Int × List Int × List Sight × List Change × Int × List Diff × List Reason) => ⟨[(1, .ipt (Scene.cl a0) 0), (3, .ptr 3 0), (4, .ptr 4 0), (5, Ai v39), (6, Ai x), (37, .lst 1 (a0.Days.map icl)), (38, Ai (a0.Days.length : Int)), (39, Ai v39), (76, .lst 2 (a0.Basin.Pairs.map Arr2_3.cl)), (77, Ai (a0.Basin.Pairs.length : Int)), (78, Ai v78)], [(3, some (.box (Basin.cl a0.Basin))), (900003509, some (.arr 174 3 (y.2.2.2.2.2.2.2.2.2.1.map Diff.cl))), (901003510, some (.arr 42 4 (y.2.2.2.2.2.2.2.2.2.2.map Reason.cl))), (35, some (.box [.lst 4 (y.1.map Cell.cl), .lst 2 (y.2.1.map Arr2_3.cl), Ai y.2.2.1, Ai y.2.2.2.1, Ai y.2.2.2.2.1, .lst 1 (y.2.2.2.2.2.1.map icl), .lst 5 (y.2.2.2.2.2.2.1.map Sight.cl), .lst 5 (y.2.2.2.2.2.2.2.1.map Change.cl), Ai y.2.2.2.2.2.2.2.2.1, .hnd 900003509, .hnd 901003510])), (4, some (.box [.ptr 35 0]))]⟩) ?_ ?_
      ·refine Tq rfl ?_
       exact Exists.intro (v78 + 1, (voo4_0_0_10, voo4_0_1_10, voo4_0_2_10, voo4_0_3_10, voo4_0_4_10, voo4_0_5_10, voo4_0_6_10, voo4_0_7_10, voo4_0_8_10, vooo4_0_9_10, vooo4_0_10_10)) (And.intro (And.intro rfl h) (Es [3, 900003509, 901003510, 35, 4] [78] rfl ⟨imf Diff_im, imf Reason_im, trivial⟩ ⟨.imm (Sub.of_eq (show Ai (v78 + 1) = Ai (W (v78 + 1)) from congrArg Ai hw_4.symm)) rfl, trivial⟩))
      ·have h := hj_5
       refine Tri.block ?_
       refine Tr ?_
       refine Qe 1 rfl ?_
       refine Q1 rfl rfl rfl (Ax.ix (cl := Arr2_3.cl) rfl slc_23 rfl rfl hx_4) ?_
       refine Qe 1 rfl ?_
       refine Qn rfl rfl rfl (v := .ptr 10 0) (x := some (.box (Arr2_3.cl (⟨0, 0⟩ : Arr2_3)))) (Ax.alloc rfl rfl zer_97 rfl ⟨Sub.refl _, Sub.refl _, trivial⟩) rfl rfl rfl rfl rfl ?_
       refine Qe 1 rfl ?_
       refine Qs rfl rfl (x := some (.box (Arr2_3.cl x_4))) (Ax.st_box rfl siz_97 rfl rfl rfl rfl rfl rfl rfl) ?_
       refine RunD.done ?_
       refine Tri.seq ?_
       refine Tri.drawn [[], [0], [], [2], [0, 1, 2, 3], [0, 1, 2, 3, 4], [], [6], [], [8], [6, 7, 8, 9], [6, 7, 8, 9, 10], [], [], [0, 1, 2, 3, 4, 5, 12, 13], [0, 1, 2, 3, 4, 5, 6, 7, 8, 9, 10, 11, 12, 13, 14]] hmix (by kernel_rfl) ?_
       refine Qe 2 rfl ?_
       refine Q1 rfl rfl rfl (Ax.index_ptr (k := .i64) (n := 0) rfl arr_97 rfl rfl rfl (by decide) (by decide)) ?_
       refine Qe 1 rfl ?_
       obtain ⟨y, hy, h⟩ := bind_some h
       refine Q1 rfl rfl rfl (Ax.ix (cl := Cell.cl) rfl slc_22 rfl rfl hy) ?_
       refine Qe 3 rfl ?_
       refine Q1 rfl rfl rfl (Ax.index_ptr (k := .i64) (n := 1) rfl arr_97 rfl rfl rfl (by decide) (by decide)) ?_
       refine Qe 1 rfl ?_
       obtain ⟨y_1, hy_1, h⟩ := bind_some h
       refine Q1 rfl rfl rfl (Ax.ix (cl := Cell.cl) rfl slc_22 rfl rfl hy_1) ?_
       refine Qe 1 rfl ?_
       refine Qn rfl rfl rfl (v := .ptr 11 0) (x := some (.box (Cell.cl (⟨0, 0, 0, 0⟩ : Cell)))) (Ax.alloc rfl rfl zer_56 rfl ⟨Sub.refl _, Sub.refl _, Sub.refl _, Sub.refl _, trivial⟩) rfl rfl rfl rfl rfl ?_
       refine Qn rfl rfl rfl (v := .ptr 12 0) (x := some (.box (Cell.cl (⟨0, 0, 0, 0⟩ : Cell)))) (Ax.alloc rfl rfl zer_56 rfl ⟨Sub.refl _, Sub.refl _, Sub.refl _, Sub.refl _, trivial⟩) rfl rfl rfl rfl rfl ?_
       refine Qs rfl rfl (x := some (.box (Cell.cl y))) (Ax.st_box rfl siz_56 rfl rfl rfl rfl rfl rfl rfl) ?_
       refine Qs rfl rfl (x := some (.box (Cell.cl y_1))) (Ax.st_box rfl siz_56 rfl rfl rfl rfl rfl rfl rfl) ?_
       refine RunD.done ⟨by kernel_rfl, freshL_of [11, 12] (by kernel_rfl) (by kernel_rfl), ?_⟩
       refine Tri.seq ?_
       refine Tr ?_
       refine Qe 2 rfl ?_
       obtain ⟨x97, hc_7, h⟩ := bind_some h
       refine Qc rfl rfl rfl (args := [.agg (Cell.cl y), .agg (Cell.cl y_1)]) (r := Ab x97) (calv rfl rfl fnok_141 rfl) (f141_ok hc_7) rfl ?_
       refine Qd rfl ?_
       refine Tri.cond (b := (!x97)) rfl (fun hb_8 => ?_) (fun hb_8 => ?_)
       ·have h := cond_t hb_8 h
        refine Tri.exit ?_
        exact Exists.intro (voo4_0_0_8, voo4_0_1_8, voo4_0_2_8, voo4_0_3_8, voo4_0_4_8, voo4_0_5_8, voo4_0_6_8, voo4_0_7_8, voo4_0_8_8, vooo4_0_9_8, vooo4_0_10_8) (And.intro h (Ee [3, 900003509, 901003510, 35, 4] rfl ⟨imf Diff_im, imf Reason_im, trivial⟩))
       ·have h := cond_f hb_8 h
        refine Tri.skip ?_
        refine Tp rfl ?_
        refine Tri.seq ?_
        refine Tp rfl ?_
        obtain ⟨v13, hv, h⟩ := lt h
        refine Tri.join1 ⟨[(1, .ipt (Scene.cl a0) 0), (3, .ptr 3 0), (4, .ptr 4 0), (5, Ai v39), (6, Ai x), (9, Ai v78), (10, .ptr 10 0), (13, Ai v13), (37, .lst 1 (a0.Days.map icl)), (38, Ai (a0.Days.length : Int)), (39, Ai v39), (76, .lst 2 (a0.Basin.Pairs.map Arr2_3.cl)), (77, Ai (a0.Basin.Pairs.length : Int)), (78, Ai v78)], [(3, some (.box (Basin.cl a0.Basin))), (900003509, some (.arr 174 3 (vooo4_0_9_8.map Diff.cl))), (901003510, some (.arr 42 4 (vooo4_0_10_8.map Reason.cl))), (35, some (.box [.lst 4 (voo4_0_0_8.map Cell.cl), .lst 2 (voo4_0_1_8.map Arr2_3.cl), Ai voo4_0_2_8, Ai voo4_0_3_8, Ai voo4_0_4_8, .lst 1 (voo4_0_5_8.map icl), .lst 5 (voo4_0_6_8.map Sight.cl), .lst 5 (voo4_0_7_8.map Change.cl), Ai voo4_0_8_8, .hnd 900003509, .hnd 901003510])), (4, some (.box [.ptr 35 0])), (10, some (.box (Arr2_3.cl x_4)))]⟩ ?_ ?_
        ·refine Tri.seq ?_
         refine Tri.ent (Ent.norm [] [(3, 3, .box (Basin.cl a0.Basin)), (4, 4, .box [.ptr 80170000 0]), (10, 10, .box (Arr2_3.cl x_4)), (80170000, 35, .box [.lst 4 (voo4_0_0_8.map Cell.cl), .lst 2 (voo4_0_1_8.map Arr2_3.cl), Ai voo4_0_2_8, Ai voo4_0_3_8, Ai voo4_0_4_8, .lst 1 (voo4_0_5_8.map icl), .lst 5 (voo4_0_6_8.map Sight.cl), .lst 5 (voo4_0_7_8.map Change.cl), Ai voo4_0_8_8, .hnd 80170010, .hnd 80170011]), (80170010, 900003509, .arr 174 3 (vooo4_0_9_8.map Diff.cl)), (80170011, 901003510, .arr 42 4 (vooo4_0_10_8.map Reason.cl))] [(1, .ipt (Scene.cl a0) 0), (3, .ptr 3 0), (4, .ptr 4 0), (5, Ai v39), (6, Ai x), (9, Ai v78), (10, .ptr 10 0), (13, Ai v13), (37, .lst 1 (a0.Days.map icl)), (38, Ai (a0.Days.length : Int)), (39, Ai v39), (76, .lst 2 (a0.Basin.Pairs.map Arr2_3.cl)), (77, Ai (a0.Basin.Pairs.length : Int)), (78, Ai v78)] rfl ⟨⟨_, rfl, .boxV ⟨.rfl' rfl, .rfl' rfl, .rfl' rfl, .rfl' rfl, .rfl' rfl, trivial⟩⟩, ⟨_, rfl, .boxV ⟨.ptr (List.Mem.tail _ (List.Mem.tail _ (List.Mem.tail _ (List.Mem.head _)))), trivial⟩⟩, ⟨_, rfl, .boxV ⟨.rfl' rfl, .rfl' rfl, trivial⟩⟩, ⟨_, rfl, .boxV ⟨.rfl' rfl, .rfl' rfl, .rfl' rfl, .rfl' rfl, .rfl' rfl, .rfl' rfl, .rfl' rfl, .rfl' rfl, .rfl' rfl, .hnd (List.Mem.tail _ (List.Mem.tail _ (List.Mem.tail _ (List.Mem.tail _ (List.Mem.head _))))), .hnd (List.Mem.tail _ (List.Mem.tail _ (List.Mem.tail _ (List.Mem.tail _ (List.Mem.tail _ (List.Mem.head _)))))), trivial⟩⟩, ⟨_, rfl, .arr (im_flat Diff_im vooo4_0_9_8)⟩, ⟨_, rfl, .arr (im_flat Reason_im vooo4_0_10_8)⟩, trivial⟩ ⟨.rfl' rfl, .ptr (List.Mem.head _), .ptr (List.Mem.tail _ (List.Mem.head _)), .rfl' rfl, .rfl' rfl, .rfl' rfl, .ptr (List.Mem.tail _ (List.Mem.tail _ (List.Mem.head _))), .rfl' rfl, .rfl' rfl, .rfl' rfl, .rfl' rfl, .rfl' rfl, .rfl' rfl, .rfl' rfl, trivial⟩) ?_
         refine Tri.drawn [[], [], [], [2], [], [1, 2, 3, 4], [], [], [7], [], [1, 2, 3, 4, 5, 6, 7, 8, 9], [], [], [1, 2, 3, 4, 5, 6, 7, 8, 9, 10, 11, 12], [], [], [14, 15], [0, 1, 2, 3, 4, 5, 6, 7, 8, 9, 10, 11, 12, 13, 14, 15, 16]] hmix (by kernel_rfl) ?_
         refine Qe 2 rfl ?_
         refine Q1 rfl rfl rfl (Ax.index_ptr (k := .i64) (n := 0) rfl arr_97 rfl rfl rfl (by decide) (by decide)) ?_
         refine Qe 2 rfl ?_
         obtain ⟨x111, hc_8, h⟩ := bind_some h
         refine Ql [80170000, 80170010, 80170011] rfl rfl rfl (args := [.ptr 80170000 0, Ai x_4.a0, Ai v39]) (args' := [.ipt (Laid_basin.cl (⟨(⟨(⟨voo4_0_0_8, voo4_0_1_8, voo4_0_2_8, voo4_0_3_8, voo4_0_4_8⟩ : Basin), voo4_0_5_8, voo4_0_6_8, voo4_0_7_8⟩ : Scene), (⟨voo4_0_8_8, vooo4_0_9_8⟩ : Net), vooo4_0_10_8⟩ : Laid_basin)) 0, Ai x_4.a0, Ai v39]) (r := Ai x111) (calv rfl rfl fnok_202 rfl) ⟨.ptrV (List.Mem.head _) rfl ⟨.imm rfl, .imm rfl, .imm rfl, .imm rfl, .imm rfl, .imm rfl, .imm rfl, .imm rfl, .imm rfl, .hnd (List.Mem.tail _ (List.Mem.head _)) rfl (im_flat Diff_im vooo4_0_9_8), .hnd (List.Mem.tail _ (List.Mem.tail _ (List.Mem.head _))) rfl (im_flat Reason_im vooo4_0_10_8), trivial⟩, .imm rfl, .imm rfl, trivial⟩ (f202_ok hc_8) rfl rfl ?_
         refine Qe 1 rfl ?_
         refine Q1 rfl rfl rfl (Ax.index_ptr (k := .i64) (n := 1) rfl arr_97 rfl rfl rfl (by decide) (by decide)) ?_
         refine Qe 2 rfl ?_
         obtain ⟨x116, hc_9, h⟩ := bind_some h
         refine Ql [80170000, 80170010, 80170011] rfl rfl rfl (args := [.ptr 80170000 0, Ai x_4.a1, Ai v39]) (args' := [.ipt (Laid_basin.cl (⟨(⟨(⟨voo4_0_0_8, voo4_0_1_8, voo4_0_2_8, voo4_0_3_8, voo4_0_4_8⟩ : Basin), voo4_0_5_8, voo4_0_6_8, voo4_0_7_8⟩ : Scene), (⟨voo4_0_8_8, vooo4_0_9_8⟩ : Net), vooo4_0_10_8⟩ : Laid_basin)) 0, Ai x_4.a1, Ai v39]) (r := Ai x116) (calv rfl rfl fnok_202 rfl) ⟨.ptrV (List.Mem.head _) rfl ⟨.imm rfl, .imm rfl, .imm rfl, .imm rfl, .imm rfl, .imm rfl, .imm rfl, .imm rfl, .imm rfl, .hnd (List.Mem.tail _ (List.Mem.head _)) rfl (im_flat Diff_im vooo4_0_9_8), .hnd (List.Mem.tail _ (List.Mem.tail _ (List.Mem.head _))) rfl (im_flat Reason_im vooo4_0_10_8), trivial⟩, .imm rfl, .imm rfl, trivial⟩ (f202_ok hc_9) rfl rfl ?_
         refine Qe 2 rfl ?_
         obtain ⟨x119, hc_10, h⟩ := bind_some h
         refine Qc rfl rfl rfl (args := [.agg (Basin.cl a0.Basin), .agg (Arr2_3.cl x_4)]) (r := Ai x119) (calv rfl rfl fnok_142 rfl) (f142_ok hc_10) rfl ?_
         refine Qe 2 rfl ?_
         refine Q1 rfl rfl rfl (v := .agg (Reason.cl (⟨3, v78, x, false⟩ : Reason))) (Ax.build rfl zer_42 (bld plc_42 zer_42) rfl ⟨Sub.refl _, Sub.refl _, Sub.refl _, Sub.refl _, trivial⟩) ?_
         obtain ⟨x123, hc_11, h⟩ := bind_some h
         refine Qo [(80170010, .arr 174 3 (vooo4_0_9_8.map Diff.cl)), (80170011, .arr 42 4 (vooo4_0_10_8.map Reason.cl)), (80170000, .box [.lst 4 (voo4_0_0_8.map Cell.cl), .lst 2 (voo4_0_1_8.map Arr2_3.cl), Ai voo4_0_2_8, Ai voo4_0_3_8, Ai voo4_0_4_8, .lst 1 (voo4_0_5_8.map icl), .lst 5 (voo4_0_6_8.map Sight.cl), .lst 5 (voo4_0_7_8.map Change.cl), Ai voo4_0_8_8, .hnd 80170010, .hnd 80170011])] [(80170510, .arr 174 3 (x123.net.Diffs.map Diff.cl)), (80170511, .arr 42 4 (x123.reasons.map Reason.cl)), (80170000, .box [.lst 4 (x123.s.Basin.Cells.map Cell.cl), .lst 2 (x123.s.Basin.Pairs.map Arr2_3.cl), Ai x123.s.Basin.Gain, Ai x123.s.Basin.Slack, Ai x123.s.Basin.Deep, .lst 1 (x123.s.Days.map icl), .lst 5 (x123.s.Sights.map Sight.cl), .lst 5 (x123.s.Changes.map Change.cl), Ai x123.net.Nodes, .hnd 80170510, .hnd 80170511])] [80170510, 80170511] rfl rfl rfl (args := [.ptr 80170000 0, Ai x111, Ai x116, Ai x119, .agg (Reason.cl (⟨3, v78, x, false⟩ : Reason))]) (r := .tup []) (calv rfl rfl fnok_219 rfl) (f219_ok hc_11) ⟨rfl, rfl, rfl, trivial⟩ rfl rfl rfl rfl rfl ?_
         refine RunD.done ⟨by kernel_rfl, freshL_of [80170510, 80170511] (by kernel_rfl) (by kernel_rfl), ?_⟩
         refine Tri.ent (Ent.norm [] [(3, 3, .box (Basin.cl a0.Basin)), (4, 4, .box [.ptr 80170000 0]), (10, 10, .box (Arr2_3.cl x_4)), (80170000, 80170000, .box [.lst 4 (x123.s.Basin.Cells.map Cell.cl), .lst 2 (x123.s.Basin.Pairs.map Arr2_3.cl), Ai x123.s.Basin.Gain, Ai x123.s.Basin.Slack, Ai x123.s.Basin.Deep, .lst 1 (x123.s.Days.map icl), .lst 5 (x123.s.Sights.map Sight.cl), .lst 5 (x123.s.Changes.map Change.cl), Ai x123.net.Nodes, .hnd 80170010, .hnd 80170011]), (80170010, 80170510, .arr 174 3 (x123.net.Diffs.map Diff.cl)), (80170011, 80170511, .arr 42 4 (x123.reasons.map Reason.cl))] [(1, .ipt (Scene.cl a0) 0), (3, .ptr 3 0), (4, .ptr 4 0), (5, Ai v39), (6, Ai x), (9, Ai v78), (10, .ptr 10 0), (13, Ai v13), (37, .lst 1 (a0.Days.map icl)), (38, Ai (a0.Days.length : Int)), (39, Ai v39), (76, .lst 2 (a0.Basin.Pairs.map Arr2_3.cl)), (77, Ai (a0.Basin.Pairs.length : Int)), (78, Ai v78)] rfl ⟨⟨_, rfl, .boxV ⟨.rfl' rfl, .rfl' rfl, .rfl' rfl, .rfl' rfl, .rfl' rfl, trivial⟩⟩, ⟨_, rfl, .boxV ⟨.ptr (List.Mem.tail _ (List.Mem.tail _ (List.Mem.tail _ (List.Mem.head _)))), trivial⟩⟩, ⟨_, rfl, .boxV ⟨.rfl' rfl, .rfl' rfl, trivial⟩⟩, ⟨_, rfl, .boxV ⟨.rfl' rfl, .rfl' rfl, .rfl' rfl, .rfl' rfl, .rfl' rfl, .rfl' rfl, .rfl' rfl, .rfl' rfl, .rfl' rfl, .hnd (List.Mem.tail _ (List.Mem.tail _ (List.Mem.tail _ (List.Mem.tail _ (List.Mem.head _))))), .hnd (List.Mem.tail _ (List.Mem.tail _ (List.Mem.tail _ (List.Mem.tail _ (List.Mem.tail _ (List.Mem.head _)))))), trivial⟩⟩, ⟨_, rfl, .arr (im_flat Diff_im x123.net.Diffs)⟩, ⟨_, rfl, .arr (im_flat Reason_im x123.reasons)⟩, trivial⟩ ⟨.rfl' rfl, .ptr (List.Mem.head _), .ptr (List.Mem.tail _ (List.Mem.head _)), .rfl' rfl, .rfl' rfl, .rfl' rfl, .ptr (List.Mem.tail _ (List.Mem.tail _ (List.Mem.head _))), .rfl' rfl, .rfl' rfl, .rfl' rfl, .rfl' rfl, .rfl' rfl, .rfl' rfl, .rfl' rfl, trivial⟩) ?_
         refine Tri.drawn [[], [], [], [2], [], [1, 2, 3, 4], [], [], [7], [], [1, 2, 3, 4, 5, 6, 7, 8, 9], [], [], [], [12, 13], [0, 1, 2, 3, 4, 5, 6, 7, 8, 9, 10, 11, 12, 13, 14]] hmix (by kernel_rfl) ?_
         refine Qe 2 rfl ?_
         refine Q1 rfl rfl rfl (Ax.index_ptr (k := .i64) (n := 1) rfl arr_97 rfl rfl rfl (by decide) (by decide)) ?_
         refine Qe 2 rfl ?_
         obtain ⟨x129, hc_12, h⟩ := bind_some h
         refine Ql [80170000, 80170010, 80170011] rfl rfl rfl (args := [.ptr 80170000 0, Ai x_4.a1, Ai v39]) (args' := [.ipt (Laid_basin.cl x123) 0, Ai x_4.a1, Ai v39]) (r := Ai x129) (calv rfl rfl fnok_202 rfl) ⟨.ptrV (List.Mem.head _) rfl ⟨.imm rfl, .imm rfl, .imm rfl, .imm rfl, .imm rfl, .imm rfl, .imm rfl, .imm rfl, .imm rfl, .hnd (List.Mem.tail _ (List.Mem.head _)) rfl (im_flat Diff_im x123.net.Diffs), .hnd (List.Mem.tail _ (List.Mem.tail _ (List.Mem.head _))) rfl (im_flat Reason_im x123.reasons), trivial⟩, .imm rfl, .imm rfl, trivial⟩ (f202_ok hc_12) rfl rfl ?_
         refine Qe 1 rfl ?_
         refine Q1 rfl rfl rfl (Ax.index_ptr (k := .i64) (n := 0) rfl arr_97 rfl rfl rfl (by decide) (by decide)) ?_
         refine Qe 2 rfl ?_
         obtain ⟨x134, hc_13, h⟩ := bind_some h
         refine Ql [80170000, 80170010, 80170011] rfl rfl rfl (args := [.ptr 80170000 0, Ai x_4.a0, Ai v39]) (args' := [.ipt (Laid_basin.cl x123) 0, Ai x_4.a0, Ai v39]) (r := Ai x134) (calv rfl rfl fnok_202 rfl) ⟨.ptrV (List.Mem.head _) rfl ⟨.imm rfl, .imm rfl, .imm rfl, .imm rfl, .imm rfl, .imm rfl, .imm rfl, .imm rfl, .imm rfl, .hnd (List.Mem.tail _ (List.Mem.head _)) rfl (im_flat Diff_im x123.net.Diffs), .hnd (List.Mem.tail _ (List.Mem.tail _ (List.Mem.head _))) rfl (im_flat Reason_im x123.reasons), trivial⟩, .imm rfl, .imm rfl, trivial⟩ (f202_ok hc_13) rfl rfl ?_
         refine Qe 3 rfl ?_
         refine Q1 rfl rfl rfl (v := .agg (Reason.cl (⟨4, v78, x, false⟩ : Reason))) (Ax.build rfl zer_42 (bld plc_42 zer_42) rfl ⟨Sub.refl _, Sub.refl _, Sub.refl _, Sub.refl _, trivial⟩) ?_
         obtain ⟨x139, hc_14, h⟩ := bind_some h
         refine Qo [(80170010, .arr 174 3 (x123.net.Diffs.map Diff.cl)), (80170011, .arr 42 4 (x123.reasons.map Reason.cl)), (80170000, .box [.lst 4 (x123.s.Basin.Cells.map Cell.cl), .lst 2 (x123.s.Basin.Pairs.map Arr2_3.cl), Ai x123.s.Basin.Gain, Ai x123.s.Basin.Slack, Ai x123.s.Basin.Deep, .lst 1 (x123.s.Days.map icl), .lst 5 (x123.s.Sights.map Sight.cl), .lst 5 (x123.s.Changes.map Change.cl), Ai x123.net.Nodes, .hnd 80170010, .hnd 80170011])] [(80170510, .arr 174 3 (x139.net.Diffs.map Diff.cl)), (80170511, .arr 42 4 (x139.reasons.map Reason.cl)), (80170000, .box [.lst 4 (x139.s.Basin.Cells.map Cell.cl), .lst 2 (x139.s.Basin.Pairs.map Arr2_3.cl), Ai x139.s.Basin.Gain, Ai x139.s.Basin.Slack, Ai x139.s.Basin.Deep, .lst 1 (x139.s.Days.map icl), .lst 5 (x139.s.Sights.map Sight.cl), .lst 5 (x139.s.Changes.map Change.cl), Ai x139.net.Nodes, .hnd 80170510, .hnd 80170511])] [80170510, 80170511] rfl rfl rfl (args := [.ptr 80170000 0, Ai x129, Ai x134, Ai v13, .agg (Reason.cl (⟨4, v78, x, false⟩ : Reason))]) (r := .tup []) (calv rfl rfl fnok_219 rfl) (f219_ok hc_14) ⟨rfl, rfl, rfl, trivial⟩ rfl rfl rfl rfl rfl ?_
         refine RunD.done ⟨by kernel_rfl, freshL_of [80170510, 80170511] (by kernel_rfl) (by kernel_rfl), ?_⟩
         exact Exists.intro (x139.s.Basin.Cells, x139.s.Basin.Pairs, x139.s.Basin.Gain, x139.s.Basin.Slack, x139.s.Basin.Deep, x139.s.Days, x139.s.Sights, x139.s.Changes, x139.net.Nodes, x139.net.Diffs, x139.reasons) (And.intro h (Ee [3, 80170510, 80170511, 80170000, 4] rfl ⟨imf Diff_im, imf Reason_im, trivial⟩))
        ·refine Tri.cond (b := (y.Height == y_1.Height)) rfl (fun hb_9 => ?_) (fun hb_9 => ?_)
         ·refine Tq rfl ?_
          exact (Es [3, 900003509, 901003510, 35, 4, 10] [13] rfl ⟨imf Diff_im, imf Reason_im, trivial⟩ ⟨.imm (Sub.of_eq (show Ai v13 = Ai a0.Basin.Slack by simp only [cond_true, cond_false, Bool.true_or, Bool.false_or, Bool.true_and, Bool.false_and, Bool.or_true, Bool.or_false, Bool.and_true, Bool.and_false, hv, hb_5, hb_7, hb_8, hb_9])) rfl, trivial⟩)
         ·refine Tri.skip ?_
          exact (Es [3, 900003509, 901003510, 35, 4, 10] [13] rfl ⟨imf Diff_im, imf Reason_im, trivial⟩ ⟨.imm (Sub.of_eq (show Ai v13 = Ai 0 by simp only [cond_true, cond_false, Bool.true_or, Bool.false_or, Bool.true_and, Bool.false_and, Bool.or_true, Bool.or_false, Bool.and_true, Bool.and_false, hv, hb_5, hb_7, hb_8, hb_9])) rfl, trivial⟩)
     ·exact (lt_t hi_4 hb_7).elim
   ·rintro v47 ⟨voo4_0_0_6, voo4_0_1_6, voo4_0_2_6, voo4_0_3_6, voo4_0_4_6, voo4_0_5_6, voo4_0_6_6, voo4_0_7_6, voo4_0_8_6, vooo4_0_9_6, vooo4_0_10_6⟩ hi_3 h
    refine Tp rfl ?_
    refine Tri.seq ?_
    refine Tri.cond (b := (decide (v47 < (a0.Basin.Cells.length : Int)))) rfl (fun hb_10 => ?_) (fun hb_10 => ?_)
    ·exact (lt_f hi_3 hb_10).elim
    ·refine Tri.exit ?_
     exact Exists.intro (voo4_0_0_6, voo4_0_1_6, voo4_0_2_6, voo4_0_3_6, voo4_0_4_6, voo4_0_5_6, voo4_0_6_6, voo4_0_7_6, voo4_0_8_6, vooo4_0_9_6, vooo4_0_10_6) (And.intro h (Ee [3, 900003509, 901003510, 35, 4] rfl ⟨imf Diff_im, imf Reason_im, trivial⟩))
   ·rintro nx_3 x_3 v47 ⟨voo4_0_0_6, voo4_0_1_6, voo4_0_2_6, voo4_0_3_6, voo4_0_4_6, voo4_0_5_6, voo4_0_6_6, voo4_0_7_6, voo4_0_8_6, vooo4_0_9_6, vooo4_0_10_6⟩ _ hi_3 hw_3 hx_3 h
    refine Tp rfl ?_
    refine Tri.seq ?_
    refine Tri.cond (b := (decide (v47 < (a0.Basin.Cells.length : Int)))) rfl (fun hb_11 => ?_) (fun hb_11 => ?_)
    ·refine Tri.skip ?_
     refine Tri.seq ?_
     refine Tri.block ?_
     refine Tr ?_
     refine Qe 1 rfl ?_
     refine Q1 rfl rfl rfl (Ax.ix (cl := Cell.cl) rfl slc_22 rfl rfl hx_3) ?_
     refine Qe 1 rfl ?_
     refine Qn rfl rfl rfl (v := .ptr 8 0) (x := some (.box (Cell.cl (⟨0, 0, 0, 0⟩ : Cell)))) (Ax.alloc rfl rfl zer_56 rfl ⟨Sub.refl _, Sub.refl _, Sub.refl _, Sub.refl _, trivial⟩) rfl rfl rfl rfl rfl ?_
     refine Qe 1 rfl ?_
     refine Qs rfl rfl (x := some (.box (Cell.cl x_3))) (Ax.st_box rfl siz_56 rfl rfl rfl rfl rfl rfl rfl) ?_
     refine RunD.done ?_
     refine Tri.seq ?_
     refine Tri.ent (Ent.norm [] [(3, 3, .box (Basin.cl a0.Basin)), (4, 4, .box [.ptr 80170000 0]), (8, 8, .box (Cell.cl x_3)), (80170000, 35, .box [.lst 4 (voo4_0_0_6.map Cell.cl), .lst 2 (voo4_0_1_6.map Arr2_3.cl), Ai voo4_0_2_6, Ai voo4_0_3_6, Ai voo4_0_4_6, .lst 1 (voo4_0_5_6.map icl), .lst 5 (voo4_0_6_6.map Sight.cl), .lst 5 (voo4_0_7_6.map Change.cl), Ai voo4_0_8_6, .hnd 80170010, .hnd 80170011]), (80170010, 900003509, .arr 174 3 (vooo4_0_9_6.map Diff.cl)), (80170011, 901003510, .arr 42 4 (vooo4_0_10_6.map Reason.cl))] [(1, .ipt (Scene.cl a0) 0), (3, .ptr 3 0), (4, .ptr 4 0), (5, Ai v39), (6, Ai x), (7, Ai v47), (8, .ptr 8 0), (37, .lst 1 (a0.Days.map icl)), (38, Ai (a0.Days.length : Int)), (39, Ai v39), (45, .lst 4 (a0.Basin.Cells.map Cell.cl)), (46, Ai (a0.Basin.Cells.length : Int)), (47, Ai v47)] rfl ⟨⟨_, rfl, .boxV ⟨.rfl' rfl, .rfl' rfl, .rfl' rfl, .rfl' rfl, .rfl' rfl, trivial⟩⟩, ⟨_, rfl, .boxV ⟨.ptr (List.Mem.tail _ (List.Mem.tail _ (List.Mem.tail _ (List.Mem.head _)))), trivial⟩⟩, ⟨_, rfl, .boxV ⟨.rfl' rfl, .rfl' rfl, .rfl' rfl, .rfl' rfl, trivial⟩⟩, ⟨_, rfl, .boxV ⟨.rfl' rfl, .rfl' rfl, .rfl' rfl, .rfl' rfl, .rfl' rfl, .rfl' rfl, .rfl' rfl, .rfl' rfl, .rfl' rfl, .hnd (List.Mem.tail _ (List.Mem.tail _ (List.Mem.tail _ (List.Mem.tail _ (List.Mem.head _))))), .hnd (List.Mem.tail _ (List.Mem.tail _ (List.Mem.tail _ (List.Mem.tail _ (List.Mem.tail _ (List.Mem.head _)))))), trivial⟩⟩, ⟨_, rfl, .arr (im_flat Diff_im vooo4_0_9_6)⟩, ⟨_, rfl, .arr (im_flat Reason_im vooo4_0_10_6)⟩, trivial⟩ ⟨.rfl' rfl, .ptr (List.Mem.head _), .ptr (List.Mem.tail _ (List.Mem.head _)), .rfl' rfl, .rfl' rfl, .rfl' rfl, .ptr (List.Mem.tail _ (List.Mem.tail _ (List.Mem.head _))), .rfl' rfl, .rfl' rfl, .rfl' rfl, .rfl' rfl, .rfl' rfl, .rfl' rfl, trivial⟩) ?_
     refine Tri.drawn [[], [], [], [], [1, 2, 3], [], [5], [], [7], [], [7, 8, 9], [0, 1, 2, 3, 4, 5, 6, 7, 8, 9, 10]] hmix (by kernel_rfl) ?_
     refine Qe 4 rfl ?_
     obtain ⟨x56, hc_15, h⟩ := bind_some h
     refine Ql [80170000, 80170010, 80170011] rfl rfl rfl (args := [.ptr 80170000 0, Ai v47, Ai v39]) (args' := [.ipt (Laid_basin.cl (⟨(⟨(⟨voo4_0_0_6, voo4_0_1_6, voo4_0_2_6, voo4_0_3_6, voo4_0_4_6⟩ : Basin), voo4_0_5_6, voo4_0_6_6, voo4_0_7_6⟩ : Scene), (⟨voo4_0_8_6, vooo4_0_9_6⟩ : Net), vooo4_0_10_6⟩ : Laid_basin)) 0, Ai v47, Ai v39]) (r := Ai x56) (calv rfl rfl fnok_202 rfl) ⟨.ptrV (List.Mem.head _) rfl ⟨.imm rfl, .imm rfl, .imm rfl, .imm rfl, .imm rfl, .imm rfl, .imm rfl, .imm rfl, .imm rfl, .hnd (List.Mem.tail _ (List.Mem.head _)) rfl (im_flat Diff_im vooo4_0_9_6), .hnd (List.Mem.tail _ (List.Mem.tail _ (List.Mem.head _))) rfl (im_flat Reason_im vooo4_0_10_6), trivial⟩, .imm rfl, .imm rfl, trivial⟩ (f202_ok hc_15) rfl rfl ?_
     refine Qe 5 rfl ?_
     refine Q1 rfl rfl rfl (v := .agg (Reason.cl (⟨1, x_3.No, x, false⟩ : Reason))) (Ax.build rfl zer_42 (bld plc_42 zer_42) rfl ⟨Sub.refl _, Sub.refl _, Sub.refl _, Sub.refl _, trivial⟩) ?_
     obtain ⟨x63, hc_16, h⟩ := bind_some h
     refine Qo [(80170010, .arr 174 3 (vooo4_0_9_6.map Diff.cl)), (80170011, .arr 42 4 (vooo4_0_10_6.map Reason.cl)), (80170000, .box [.lst 4 (voo4_0_0_6.map Cell.cl), .lst 2 (voo4_0_1_6.map Arr2_3.cl), Ai voo4_0_2_6, Ai voo4_0_3_6, Ai voo4_0_4_6, .lst 1 (voo4_0_5_6.map icl), .lst 5 (voo4_0_6_6.map Sight.cl), .lst 5 (voo4_0_7_6.map Change.cl), Ai voo4_0_8_6, .hnd 80170010, .hnd 80170011])] [(80170510, .arr 174 3 (x63.net.Diffs.map Diff.cl)), (80170511, .arr 42 4 (x63.reasons.map Reason.cl)), (80170000, .box [.lst 4 (x63.s.Basin.Cells.map Cell.cl), .lst 2 (x63.s.Basin.Pairs.map Arr2_3.cl), Ai x63.s.Basin.Gain, Ai x63.s.Basin.Slack, Ai x63.s.Basin.Deep, .lst 1 (x63.s.Days.map icl), .lst 5 (x63.s.Sights.map Sight.cl), .lst 5 (x63.s.Changes.map Change.cl), Ai x63.net.Nodes, .hnd 80170510, .hnd 80170511])] [80170510, 80170511] rfl rfl rfl (args := [.ptr 80170000 0, Ai 0, Ai x56, Ai a0.Basin.Deep, .agg (Reason.cl (⟨1, x_3.No, x, false⟩ : Reason))]) (r := .tup []) (calv rfl rfl fnok_219 rfl) (f219_ok hc_16) ⟨rfl, rfl, rfl, trivial⟩ rfl rfl rfl rfl rfl ?_
     refine RunD.done ⟨by kernel_rfl, freshL_of [80170510, 80170511] (by kernel_rfl) (by kernel_rfl), ?_⟩
     refine Tri.ent (Ent.norm [] [(3, 3, .box (Basin.cl a0.Basin)), (4, 4, .box [.ptr 80170000 0]), (8, 8, .box (Cell.cl x_3)), (80170000, 80170000, .box [.lst 4 (x63.s.Basin.Cells.map Cell.cl), .lst 2 (x63.s.Basin.Pairs.map Arr2_3.cl), Ai x63.s.Basin.Gain, Ai x63.s.Basin.Slack, Ai x63.s.Basin.Deep, .lst 1 (x63.s.Days.map icl), .lst 5 (x63.s.Sights.map Sight.cl), .lst 5 (x63.s.Changes.map Change.cl), Ai x63.net.Nodes, .hnd 80170010, .hnd 80170011]), (80170010, 80170510, .arr 174 3 (x63.net.Diffs.map Diff.cl)), (80170011, 80170511, .arr 42 4 (x63.reasons.map Reason.cl))] [(1, .ipt (Scene.cl a0) 0), (3, .ptr 3 0), (4, .ptr 4 0), (5, Ai v39), (6, Ai x), (7, Ai v47), (8, .ptr 8 0), (37, .lst 1 (a0.Days.map icl)), (38, Ai (a0.Days.length : Int)), (39, Ai v39), (45, .lst 4 (a0.Basin.Cells.map Cell.cl)), (46, Ai (a0.Basin.Cells.length : Int)), (47, Ai v47)] rfl ⟨⟨_, rfl, .boxV ⟨.rfl' rfl, .rfl' rfl, .rfl' rfl, .rfl' rfl, .rfl' rfl, trivial⟩⟩, ⟨_, rfl, .boxV ⟨.ptr (List.Mem.tail _ (List.Mem.tail _ (List.Mem.tail _ (List.Mem.head _)))), trivial⟩⟩, ⟨_, rfl, .boxV ⟨.rfl' rfl, .rfl' rfl, .rfl' rfl, .rfl' rfl, trivial⟩⟩, ⟨_, rfl, .boxV ⟨.rfl' rfl, .rfl' rfl, .rfl' rfl, .rfl' rfl, .rfl' rfl, .rfl' rfl, .rfl' rfl, .rfl' rfl, .rfl' rfl, .hnd (List.Mem.tail _ (List.Mem.tail _ (List.Mem.tail _ (List.Mem.tail _ (List.Mem.head _))))), .hnd (List.Mem.tail _ (List.Mem.tail _ (List.Mem.tail _ (List.Mem.tail _ (List.Mem.tail _ (List.Mem.head _)))))), trivial⟩⟩, ⟨_, rfl, .arr (im_flat Diff_im x63.net.Diffs)⟩, ⟨_, rfl, .arr (im_flat Reason_im x63.reasons)⟩, trivial⟩ ⟨.rfl' rfl, .ptr (List.Mem.head _), .ptr (List.Mem.tail _ (List.Mem.head _)), .rfl' rfl, .rfl' rfl, .rfl' rfl, .ptr (List.Mem.tail _ (List.Mem.tail _ (List.Mem.head _))), .rfl' rfl, .rfl' rfl, .rfl' rfl, .rfl' rfl, .rfl' rfl, .rfl' rfl, trivial⟩) ?_
     refine Tri.drawn [[], [], [], [], [1, 2, 3], [], [5], [], [5, 6, 7], [0, 1, 2, 3, 4, 5, 6, 7, 8]] hmix (by kernel_rfl) ?_
     refine Qe 4 rfl ?_
     obtain ⟨x68, hc_17, h⟩ := bind_some h
     refine Ql [80170000, 80170010, 80170011] rfl rfl rfl (args := [.ptr 80170000 0, Ai v47, Ai v39]) (args' := [.ipt (Laid_basin.cl x63) 0, Ai v47, Ai v39]) (r := Ai x68) (calv rfl rfl fnok_202 rfl) ⟨.ptrV (List.Mem.head _) rfl ⟨.imm rfl, .imm rfl, .imm rfl, .imm rfl, .imm rfl, .imm rfl, .imm rfl, .imm rfl, .imm rfl, .hnd (List.Mem.tail _ (List.Mem.head _)) rfl (im_flat Diff_im x63.net.Diffs), .hnd (List.Mem.tail _ (List.Mem.tail _ (List.Mem.head _))) rfl (im_flat Reason_im x63.reasons), trivial⟩, .imm rfl, .imm rfl, trivial⟩ (f202_ok hc_17) rfl rfl ?_
     refine Qe 3 rfl ?_
     refine Q1 rfl rfl rfl (v := .agg (Reason.cl (⟨2, x_3.No, x, false⟩ : Reason))) (Ax.build rfl zer_42 (bld plc_42 zer_42) rfl ⟨Sub.refl _, Sub.refl _, Sub.refl _, Sub.refl _, trivial⟩) ?_
     obtain ⟨x73, hc_18, h⟩ := bind_some h
     refine Qo [(80170010, .arr 174 3 (x63.net.Diffs.map Diff.cl)), (80170011, .arr 42 4 (x63.reasons.map Reason.cl)), (80170000, .box [.lst 4 (x63.s.Basin.Cells.map Cell.cl), .lst 2 (x63.s.Basin.Pairs.map Arr2_3.cl), Ai x63.s.Basin.Gain, Ai x63.s.Basin.Slack, Ai x63.s.Basin.Deep, .lst 1 (x63.s.Days.map icl), .lst 5 (x63.s.Sights.map Sight.cl), .lst 5 (x63.s.Changes.map Change.cl), Ai x63.net.Nodes, .hnd 80170010, .hnd 80170011])] [(80170510, .arr 174 3 (x73.net.Diffs.map Diff.cl)), (80170511, .arr 42 4 (x73.reasons.map Reason.cl)), (80170000, .box [.lst 4 (x73.s.Basin.Cells.map Cell.cl), .lst 2 (x73.s.Basin.Pairs.map Arr2_3.cl), Ai x73.s.Basin.Gain, Ai x73.s.Basin.Slack, Ai x73.s.Basin.Deep, .lst 1 (x73.s.Days.map icl), .lst 5 (x73.s.Sights.map Sight.cl), .lst 5 (x73.s.Changes.map Change.cl), Ai x73.net.Nodes, .hnd 80170510, .hnd 80170511])] [80170510, 80170511] rfl rfl rfl (args := [.ptr 80170000 0, Ai x68, Ai 0, Ai 0, .agg (Reason.cl (⟨2, x_3.No, x, false⟩ : Reason))]) (r := .tup []) (calv rfl rfl fnok_219 rfl) (f219_ok hc_18) ⟨rfl, rfl, rfl, trivial⟩ rfl rfl rfl rfl rfl ?_
     refine RunD.done ⟨by kernel_rfl, freshL_of [80170510, 80170511] (by kernel_rfl) (by kernel_rfl), ?_⟩
     refine Tq rfl ?_
     exact Exists.intro (v47 + 1, (x73.s.Basin.Cells, x73.s.Basin.Pairs, x73.s.Basin.Gain, x73.s.Basin.Slack, x73.s.Basin.Deep, x73.s.Days, x73.s.Sights, x73.s.Changes, x73.net.Nodes, x73.net.Diffs, x73.reasons)) (And.intro (And.intro rfl h) (Es [3, 80170510, 80170511, 80170000, 4] [47] rfl ⟨imf Diff_im, imf Reason_im, trivial⟩ ⟨.imm (Sub.of_eq (show Ai (v47 + 1) = Ai (W (v47 + 1)) from congrArg Ai hw_3.symm)) rfl, trivial⟩))
    ·exact (lt_t hi_3 hb_11).elim
  ·exact (lt_t hi hb_5).elim
theorem f22_ok {K : Nat} {a0 : Scene} {r : Net × List Reason × Int} (h : f22 K a0 = some r) : CallOK Tryz.prog 22 [.agg (Scene.cl a0)] [] (.tup [.agg (Net.cl r.1), .lst 4 (r.2.1.map Reason.cl), Ai r.2.2]) [] := by
 refine CallOK.of_tri Tryz.func22 rfl rfl (Nat.le_of_ble_eq_true rfl) ?_
 unfold f22 at h
 refine Tr ?_
 refine Qe 1 rfl ?_
 refine Qn rfl rfl rfl (v := .ptr 2 0) (x := some (.box (Net.cl (⟨0, ([] : List Diff)⟩ : Net)))) (Ax.alloc rfl rfl zer_34 rfl ⟨Sub.refl _, Sub.nil _, trivial⟩) rfl rfl rfl rfl rfl ?_
 refine Q1 rfl rfl rfl (v := .lst 4 (([] : List Reason).map Reason.cl)) (Ax.nl 4 rfl rfl) ?_
 refine Qd rfl ?_
 refine Tri.seq ?_
 refine Tr ?_
 refine Qe 1 rfl ?_
 obtain ⟨x8, hc, h⟩ := bind_some h
 refine Qc rfl rfl rfl (args := [.agg (Scene.cl a0)]) (r := Ai x8) (calv rfl rfl fnok_66 rfl) (f66_ok hc) rfl ?_
 refine Qd rfl ?_
 refine Tp rfl ?_
 refine Tri.cond (b := (x8 != 0)) rfl (fun hb => ?_) (fun hb => ?_)
 ·have h := cond_t hb h
  refine Tr ?_
  refine Q1 rfl rfl rfl (v := .agg (Net.cl (⟨0, ([] : List Diff)⟩ : Net))) (Ax.build rfl zer_34 (bld plc_34 zer_34) rfl ⟨Sub.refl _, Sub.nil _, trivial⟩) ?_
  refine Qe 1 rfl ?_
  refine Qs rfl rfl (x := some (.box (Net.cl (⟨0, ([] : List Diff)⟩ : Net)))) (Ax.st_box rfl siz_34 rfl rfl rfl rfl rfl rfl rfl) ?_
  refine Q1 rfl rfl rfl (v := .lst 4 (([] : List Reason).map Reason.cl)) (Ax.nl 4 rfl rfl) ?_
  refine Qd rfl ?_
  refine Tri.ret ?_
  refine Rr (fun r => .tup [.agg (Net.cl r.1), .lst 4 (r.2.1.map Reason.cl), Ai r.2.2]) (fun r => []) [] h ?_ trivial
  rfl
 ·have h := cond_f hb h
  refine Tri.skip ?_
  refine Tr ?_
  refine Qe 1 rfl ?_
  obtain ⟨x14, hc_1, h⟩ := bind_some h
  refine Qc rfl rfl rfl (args := [.agg (Scene.cl a0)]) (r := .ipt (Laid_basin.cl x14) 0) (calv rfl rfl fnok_102 rfl) (f102_ok hc_1) rfl ?_
  refine Qd rfl ?_
  refine Tri.seq ?_
  refine Tri.drawn [[], [0], [0, 1], [0, 1, 2], [], [], [], [], [0, 1, 2, 3], [], []] hmix (by kernel_rfl) ?_
  refine Qe 1 rfl ?_
  refine Q1 rfl rfl rfl (Ax.nil_ipt rfl rfl) ?_
  refine Qe 3 rfl ?_
  refine Q1 rfl rfl rfl (Ax.nil_ipt rfl rfl) ?_
  refine Qe 2 rfl ?_
  refine Qs rfl rfl (x := some (.box (Net.cl x14.net))) (Ax.st_box rfl siz_34 rfl rfl rfl rfl rfl rfl rfl) ?_
  refine Qe 2 rfl ?_
  refine RunD.done ⟨by kernel_rfl, freshL_of [] (by kernel_rfl) (by kernel_rfl), ?_⟩
  refine Tri.ret ?_
  refine Rr (fun r => .tup [.agg (Net.cl r.1), .lst 4 (r.2.1.map Reason.cl), Ai r.2.2]) (fun r => []) [] h ?_ trivial
  rfl
theorem f282_ok {K : Nat} {a0 : Int} {a1 : Int} {a2 : Int} {r : Bool} (h : f282 K a0 a1 a2 = some r) : CallOK Tryz.prog 282 [Ai a0, Ai a1, Ai a2] [] (Ab r) [] := by
 refine CallOK.of_tri Tryz.func282 rfl rfl (Nat.le_of_ble_eq_true rfl) ?_
 unfold f282 at h
 refine Tp rfl ?_
 refine Tri.seq ?_
 refine Tri.join1 ⟨[(6, Ab ((decide (a0 ≥ a1)) && (decide (a0 ≤ a2))))], []⟩ ?_ ?_
 ·refine Tri.ret ?_
  exact Rb h rfl
 ·refine Tri.region ?_
  refine Qe 4 rfl ?_
  rcases b2 (decide (a0 ≥ a1)) with hb | hb
  ·refine Qk 10 hb rfl ?_
   refine Qd rfl ?_
   exact (Es0 [6] rfl ⟨.imm (Sub.of_eq (show Ab ((decide (a0 ≥ a1)) && (decide (a0 ≤ a2))) = Ab (decide (a0 ≤ a2)) by simp only [cond_true, cond_false, Bool.true_or, Bool.false_or, Bool.true_and, Bool.false_and, Bool.or_true, Bool.or_false, Bool.and_true, Bool.and_false, hb])) rfl, trivial⟩)
  ·refine Qk 10 hb rfl ?_
   refine Qd rfl ?_
   exact (Es0 [6] rfl ⟨.imm (Sub.of_eq (show Ab ((decide (a0 ≥ a1)) && (decide (a0 ≤ a2))) = Ab false by simp only [cond_true, cond_false, Bool.true_or, Bool.false_or, Bool.true_and, Bool.false_and, Bool.or_true, Bool.or_false, Bool.and_true, Bool.and_false, hb])) rfl, trivial⟩)
theorem f301_ok {K : Nat} {a0 : Diff} {a1 : Int} {r : Bool} (h : f301 K a0 a1 = some r) : CallOK Tryz.prog 301 [.agg (Diff.cl a0), Ai a1] [] (Ab r) [] := by
 refine CallOK.of_tri Tryz.func301 rfl rfl (Nat.le_of_ble_eq_true rfl) ?_
 unfold f301 at h
 refine Tp rfl ?_
 refine Tri.seq ?_
 obtain ⟨v4, hj, h⟩ := bind_some h
 refine Tri.joinv v4 (fun (y : Bool) => ⟨[(4, Ab y)], []⟩) ?_ ?_
 ·refine Tri.ret ?_
  exact Rb h rfl
 ·have h := hj
  refine Tri.region ?_
  refine Qe 4 rfl ?_
  obtain ⟨x9, hc, h⟩ := bind_some h
  refine Qc rfl rfl rfl (args := [Ai a0.From, Ai 0, Ai (W (a1 - 1))]) (r := Ab x9) (calv rfl rfl fnok_282 rfl) (f282_ok hc) rfl ?_
  refine Qe 1 rfl ?_
  rcases b2 x9 with hb | hb
  ·have h := cond_t hb h
   refine Qk 10 hb rfl ?_
   refine Qe 4 rfl ?_
   obtain ⟨x15, hc_1, h⟩ := bind_some h
   refine Qc rfl rfl rfl (args := [Ai a0.To, Ai 0, Ai (W (a1 - 1))]) (r := Ab x15) (calv rfl rfl fnok_282 rfl) (f282_ok hc_1) rfl ?_
   refine Qe 2 rfl ?_
   rcases b2 x15 with hb_1 | hb_1
   ·have h := cond_t hb_1 h
    refine Qk 17 hb_1 rfl ?_
    refine Qe 2 rfl ?_
    obtain ⟨x20, hc_2, h⟩ := bind_some h
    refine Qc rfl rfl rfl (args := [Ai a0.Most, Ai (-1073741824), Ai 1073741824]) (r := Ab x20) (calv rfl rfl fnok_282 rfl) (f282_ok hc_2) rfl ?_
    refine Qd rfl ?_
    exact Exists.intro x20 (And.intro h (E0 rfl))
   ·have h := cond_f hb_1 h
    refine Qk 17 hb_1 rfl ?_
    refine Qd rfl ?_
    exact Exists.intro false (And.intro h (E0 rfl))
  ·have h := cond_f hb h
   refine Qk 10 hb rfl ?_
   refine Qd rfl ?_
   exact Exists.intro false (And.intro h (E0 rfl))
theorem f227_ok {K : Nat} {a0 : Net} {r : Int} (h : f227 K a0 = some r) : CallOK Tryz.prog 227 [.agg (Net.cl a0)] [] (Ai r) [] := by
 refine CallOK.of_tri Tryz.func227 rfl rfl (Nat.le_of_ble_eq_true rfl) ?_
 unfold f227 at h
 refine Tp rfl ?_
 refine Tri.seq ?_
 refine Tri.seq ?_
 obtain ⟨v14, hj_1, h⟩ := bind_some h
 refine Tri.joinv v14 (fun (y : Bool) => ⟨[(1, .ipt (Net.cl a0) 0), (14, Ab y)], []⟩) ?_ ?_
 ·refine Tri.cond (b := v14) rfl (fun hb => ?_) (fun hb => ?_)
  ·have h := cond_t hb h
   refine Tp rfl ?_
   refine Tri.ret ?_
   exact Ri h rfl
  ·have h := cond_f hb h
   refine Tri.skip ?_
   refine Tri.seq ?_
   refine Tr ?_
   refine Qe 2 rfl ?_
   refine Q1 rfl rfl rfl (Ax.ln (cl := Diff.cl) rfl slc_32 rfl) ?_
   refine Qd rfl ?_
   obtain ⟨j, hj, h⟩ := jo h
   refine Tri.rngL h (fun p => ⟨[(1, .ipt (Net.cl a0) 0), (16, .lst 3 (a0.Diffs.map Diff.cl)), (17, Ai (a0.Diffs.length : Int)), (18, Ai p.1)], []⟩) (fun y => j y = some r) (fun (y : Unit) => ⟨[], []⟩) (E0 rfl) ?_ ?_ ?_
   ·rintro ⟨⟩ h
    subst hj
    refine Tp rfl ?_
    refine Tri.ret ?_
    exact Ri h rfl
   ·rintro v18 ⟨⟩ hi h
    refine Tp rfl ?_
    refine Tri.seq ?_
    refine Tri.cond (b := (decide (v18 < (a0.Diffs.length : Int)))) rfl (fun hb_1 => ?_) (fun hb_1 => ?_)
    ·exact (lt_f hi hb_1).elim
    ·refine Tri.exit ?_
     exact Exists.intro () (And.intro h (E0 rfl))
   ·rintro nx x v18 ⟨⟩ _ hi hw hx h
    refine Tp rfl ?_
    refine Tri.seq ?_
    refine Tri.cond (b := (decide (v18 < (a0.Diffs.length : Int)))) rfl (fun hb_2 => ?_) (fun hb_2 => ?_)
    ·refine Tri.skip ?_
     refine Tri.seq ?_
     refine Tri.block ?_
     refine Tr ?_
     refine Q1 rfl rfl rfl (Ax.ix (cl := Diff.cl) rfl slc_32 rfl rfl hx) ?_
     refine Qe 1 rfl ?_
     refine Qn rfl rfl rfl (v := .ptr 4 0) (x := some (.box (Diff.cl (⟨0, 0, 0⟩ : Diff)))) (Ax.alloc rfl rfl zer_174 rfl ⟨Sub.refl _, Sub.refl _, Sub.refl _, trivial⟩) rfl rfl rfl rfl rfl ?_
     refine Qs rfl rfl (x := some (.box (Diff.cl x))) (Ax.st_box rfl siz_174 rfl rfl rfl rfl rfl rfl rfl) ?_
     refine RunD.done ?_
     refine Tr ?_
     refine Qe 3 rfl ?_
     obtain ⟨x25, hc, h⟩ := bind_some h
     refine Qc rfl rfl rfl (args := [.agg (Diff.cl x), Ai a0.Nodes]) (r := Ab x25) (calv rfl rfl fnok_301 rfl) (f301_ok hc) rfl ?_
     refine Qd rfl ?_
     refine Tri.cond (b := (!x25)) rfl (fun hb_3 => ?_) (fun hb_3 => ?_)
     ·have h := cond_t hb_3 h
      refine Tp rfl ?_
      refine Tri.ret ?_
      exact Ri h rfl
     ·have h := cond_f hb_3 h
      refine Tri.skip ?_
      refine Tq rfl ?_
      exact Exists.intro (v18 + 1, ()) (And.intro (And.intro rfl h) (Es0 [18] rfl ⟨.imm (Sub.of_eq (show Ai (v18 + 1) = Ai (W (v18 + 1)) from congrArg Ai hw.symm)) rfl, trivial⟩))
    ·exact (lt_t hi hb_2).elim
 ·have h := hj_1
  refine Tri.region ?_
  refine Qe 2 rfl ?_
  obtain ⟨x7, hc_1, h⟩ := bind_some h
  refine Qc rfl rfl rfl (args := [Ai a0.Nodes, Ai 1, Ai 256]) (r := Ab x7) (calv rfl rfl fnok_282 rfl) (f282_ok hc_1) rfl ?_
  refine Qe 2 rfl ?_
  rcases b2 (!x7) with hb_4 | hb_4
  ·have h := cond_t hb_4 h
   refine Qk 9 hb_4 rfl ?_
   refine Qd rfl ?_
   exact Exists.intro true (And.intro h (E0 rfl))
  ·have h := cond_f hb_4 h
   refine Qk 9 hb_4 rfl ?_
   refine Qe 2 rfl ?_
   refine Q1 rfl rfl rfl (Ax.ln (cl := Diff.cl) rfl slc_32 rfl) ?_
   refine Qd rfl ?_
   exact Exists.intro (decide ((a0.Diffs.length : Int) > 4096)) (And.intro h (E0 rfl))
theorem f339_ok {K : Nat} {a0 : List Bool} {a1 : Bool} {r : Int} (h : f339 K a0 a1 = some r) : CallOK Tryz.prog 339 [.lst 1 (a0.map bcl), Ab a1] [] (Ai r) [] := by
 refine CallOK.of_tri Tryz.func339 rfl rfl (Nat.le_of_ble_eq_true rfl) ?_
 unfold f339 at h
 refine Tp rfl ?_
 refine Tri.seq ?_
 refine Tr ?_
 refine Qe 1 rfl ?_
 refine Q1 rfl rfl rfl (Ax.ln (cl := bcl) rfl slc_191 rfl) ?_
 refine Qd rfl ?_
 obtain ⟨j, hj, h⟩ := jo h
 refine Tri.rngL h (fun p => ⟨[(0, .lst 1 (a0.map bcl)), (1, Ab a1), (7, Ai (a0.length : Int)), (8, Ai p.1)], []⟩) (fun y => j y = some r) (fun (y : Unit) => ⟨[], []⟩) (E0 rfl) ?_ ?_ ?_
 ·rintro ⟨⟩ h
  subst hj
  refine Tp rfl ?_
  refine Tri.ret ?_
  exact Ri h rfl
 ·rintro v8 ⟨⟩ hi h
  refine Tp rfl ?_
  refine Tri.seq ?_
  refine Tri.cond (b := (decide (v8 < (a0.length : Int)))) rfl (fun hb => ?_) (fun hb => ?_)
  ·exact (lt_f hi hb).elim
  ·refine Tri.exit ?_
   exact Exists.intro () (And.intro h (E0 rfl))
 ·rintro nx x v8 ⟨⟩ _ hi hw hx h
  refine Tp rfl ?_
  refine Tri.seq ?_
  refine Tri.cond (b := (decide (v8 < (a0.length : Int)))) rfl (fun hb_1 => ?_) (fun hb_1 => ?_)
  ·refine Tri.skip ?_
   refine Tri.seq ?_
   refine Tri.block ?_
   refine Tp rfl ?_
   refine Tr ?_
   refine Qe 3 rfl ?_
   refine Q1 rfl rfl rfl (Ax.ix (cl := bcl) rfl slc_191 rfl rfl hx) ?_
   refine Qe 1 rfl ?_
   refine Q1 rfl rfl rfl (v := Ab (a1 == x)) (Ax.bool_eql bol_4 rfl rfl rfl) ?_
   refine RunD.done ?_
   refine Tri.cond (b := (a1 == x)) rfl (fun hb_2 => ?_) (fun hb_2 => ?_)
   ·have h := cond_t hb_2 h
    refine Tp rfl ?_
    refine Tri.ret ?_
    exact Ri h rfl
   ·have h := cond_f hb_2 h
    refine Tri.skip ?_
    refine Tq rfl ?_
    exact Exists.intro (v8 + 1, ()) (And.intro (And.intro rfl h) (Es0 [8] rfl ⟨.imm (Sub.of_eq (show Ai (v8 + 1) = Ai (W (v8 + 1)) from congrArg Ai hw.symm)) rfl, trivial⟩))
  ·exact (lt_t hi hb_1).elim
theorem f297_ok {K : Nat} {a0 : List Bool} {a1 : Bool} {r : Bool} (h : f297 K a0 a1 = some r) : CallOK Tryz.prog 297 [.lst 1 (a0.map bcl), Ab a1] [] (Ab r) [] := by
 refine CallOK.of_tri Tryz.func297 rfl rfl (Nat.le_of_ble_eq_true rfl) ?_
 unfold f297 at h
 refine Tp rfl ?_
 refine Tr ?_
 refine Qe 2 rfl ?_
 obtain ⟨x7, hc, h⟩ := bind_some h
 refine Qc rfl rfl rfl (args := [.lst 1 (a0.map bcl), Ab a1]) (r := Ai x7) (calv rfl rfl fnok_339 rfl) (f339_ok hc) rfl ?_
 refine Qd rfl ?_
 refine Tri.ret ?_
 exact Rb h rfl
theorem f223_ok {K : Nat} {a0 : Net} {a1 : List Bool} {r : Int} (h : f223 K a0 a1 = some r) : CallOK Tryz.prog 223 [.agg (Net.cl a0), .lst 1 (a1.map bcl)] [] (Ai r) [] := by
 refine CallOK.of_tri Tryz.func223 rfl rfl (Nat.le_of_ble_eq_true rfl) ?_
 unfold f223 at h
 refine Tp rfl ?_
 refine Tri.seq ?_
 refine Tr ?_
 refine Qe 1 rfl ?_
 obtain ⟨x7, hc, h⟩ := bind_some h
 refine Qc rfl rfl rfl (args := [.agg (Net.cl a0)]) (r := Ai x7) (calv rfl rfl fnok_227 rfl) (f227_ok hc) rfl ?_
 refine Qd rfl ?_
 refine Tp rfl ?_
 refine Tri.cond (b := (x7 != 0)) rfl (fun hb => ?_) (fun hb => ?_)
 ·have h := cond_t hb h
  refine Tp rfl ?_
  refine Tri.ret ?_
  exact Ri h rfl
 ·have h := cond_f hb h
  refine Tri.skip ?_
  refine Tri.seq ?_
  refine Tr ?_
  refine Qe 1 rfl ?_
  obtain ⟨x12, hc_1, h⟩ := bind_some h
  refine Qc rfl rfl rfl (args := [.lst 1 (a1.map bcl), Ab false]) (r := Ab x12) (calv rfl rfl fnok_297 rfl) (f297_ok hc_1) rfl ?_
  refine RunD.done ?_
  refine Tri.cond (b := x12) rfl (fun hb_1 => ?_) (fun hb_1 => ?_)
  ·have h := cond_t hb_1 h
   refine Tp rfl ?_
   refine Tri.ret ?_
   exact Ri h rfl
  ·have h := cond_f hb_1 h
   refine Tri.skip ?_
   refine Tp rfl ?_
   refine Tri.ret ?_
   exact Ri h rfl
theorem f337_ok {K : Nat} {a0 : List Int} {a1 : Int → Option Bool} {g1 : Nat} {caps1 : List AV} {r : Int} (hg1 : FnOK Tryz.prog g1) (ho1 : (AV.fn g1 caps1).only [] = true) (hp1 : ∀ x0 r, a1 x0 = some r → CallOK Tryz.prog g1 ([Ai x0] ++ caps1) [] (Ab r) []) (h : f337 K a0 a1 = some r) : CallOK Tryz.prog 337 [.lst 1 (a0.map icl), .fn g1 caps1] [] (Ai r) [] := by
 refine CallOK.of_tri Tryz.func337 rfl rfl (Nat.le_of_ble_eq_true rfl) ?_
 unfold f337 at h
 refine Tp rfl ?_
 refine Tri.seq ?_
 refine Tr ?_
 refine Qe 1 rfl ?_
 refine Q1 rfl rfl rfl (Ax.ln (cl := icl) rfl slc_26 rfl) ?_
 refine Qd rfl ?_
 obtain ⟨j, hj, h⟩ := jo h
 refine Tri.rngL h (fun p => ⟨[(0, .lst 1 (a0.map icl)), (1, .fn g1 caps1), (7, Ai (a0.length : Int)), (8, Ai p.1)], []⟩) (fun y => j y = some r) (fun (y : Unit) => ⟨[], []⟩) (Es0 [1] rfl ⟨.imm (Sub.refl _) ho1, trivial⟩) ?_ ?_ ?_
 ·rintro ⟨⟩ h
  subst hj
  refine Tp rfl ?_
  refine Tri.ret ?_
  exact Ri h rfl
 ·rintro v8 ⟨⟩ hi h
  refine Tp rfl ?_
  refine Tri.seq ?_
  refine Tri.cond (b := (decide (v8 < (a0.length : Int)))) rfl (fun hb => ?_) (fun hb => ?_)
  ·exact (lt_f hi hb).elim
  ·refine Tri.exit ?_
   exact Exists.intro () (And.intro h (E0 rfl))
 ·rintro nx x v8 ⟨⟩ _ hi hw hx h
  refine Tp rfl ?_
  refine Tri.seq ?_
  refine Tri.cond (b := (decide (v8 < (a0.length : Int)))) rfl (fun hb_1 => ?_) (fun hb_1 => ?_)
  ·refine Tri.skip ?_
   refine Tri.seq ?_
   refine Tri.block ?_
   refine Tp rfl ?_
   refine Tr ?_
   refine Qe 3 rfl ?_
   refine Q1 rfl rfl rfl (Ax.ix (cl := icl) rfl slc_26 rfl rfl hx) ?_
   refine Qe 1 rfl ?_
   obtain ⟨x16, hc, h⟩ := bind_some h
   refine Qc rfl rfl rfl (args := [Ai x] ++ caps1) (r := Ab x16) (calv rfl rfl hg1 rfl) (hp1 _ _ hc) rfl ?_
   refine RunD.done ?_
   refine Tri.cond (b := x16) rfl (fun hb_2 => ?_) (fun hb_2 => ?_)
   ·have h := cond_t hb_2 h
    refine Tp rfl ?_
    refine Tri.ret ?_
    exact Ri h rfl
   ·have h := cond_f hb_2 h
    refine Tri.skip ?_
    refine Tq rfl ?_
    exact Exists.intro (v8 + 1, ()) (And.intro (And.intro rfl h) (Es0 [1, 8] rfl ⟨.imm (Sub.refl _) ho1, .imm (Sub.of_eq (show Ai (v8 + 1) = Ai (W (v8 + 1)) from congrArg Ai hw.symm)) rfl, trivial⟩))
  ·exact (lt_t hi hb_1).elim
theorem f292_ok {K : Nat} {a0 : List Int} {a1 : Int → Option Bool} {g1 : Nat} {caps1 : List AV} {r : Bool} (hg1 : FnOK Tryz.prog g1) (ho1 : (AV.fn g1 caps1).only [] = true) (hp1 : ∀ x0 r, a1 x0 = some r → CallOK Tryz.prog g1 ([Ai x0] ++ caps1) [] (Ab r) []) (h : f292 K a0 a1 = some r) : CallOK Tryz.prog 292 [.lst 1 (a0.map icl), .fn g1 caps1] [] (Ab r) [] := by
 refine CallOK.of_tri Tryz.func292 rfl rfl (Nat.le_of_ble_eq_true rfl) ?_
 unfold f292 at h
 refine Tp rfl ?_
 refine Tr ?_
 refine Qe 2 rfl ?_
 obtain ⟨x7, hc, h⟩ := bind_some h
 refine Qc rfl rfl rfl (args := [.lst 1 (a0.map icl), .fn g1 caps1]) (r := Ai x7) (calv rfl rfl fnok_337 rfl) (f337_ok hg1 ho1 hp1 hc) rfl ?_
 refine Qd rfl ?_
 refine Tri.ret ?_
 exact Rb h rfl
theorem f298_ok {K : Nat} {a0 : Int} {r : Bool} (h : f298 K a0 = some r) : CallOK Tryz.prog 298 [Ai a0] [] (Ab r) [] := by
 refine CallOK.of_tri Tryz.func298 rfl rfl (Nat.le_of_ble_eq_true rfl) ?_
 unfold f298 at h
 refine Tp rfl ?_
 refine Tr ?_
 refine Qe 1 rfl ?_
 obtain ⟨x4, hc, h⟩ := bind_some h
 refine Qc rfl rfl rfl (args := [Ai a0, Ai (-1099511627776), Ai 1099511627776]) (r := Ab x4) (calv rfl rfl fnok_282 rfl) (f282_ok hc) rfl ?_
 refine Qd rfl ?_
 refine Tri.ret ?_
 exact Rb h rfl
theorem f224_ok {K : Nat} {a0 : Int} {a1 : List Int} {r : Bool} (h : f224 K a0 a1 = some r) : CallOK Tryz.prog 224 [Ai a0, .lst 1 (a1.map icl)] [] (Ab r) [] := by
 refine CallOK.of_tri Tryz.func224 rfl rfl (Nat.le_of_ble_eq_true rfl) ?_
 unfold f224 at h
 refine Tp rfl ?_
 refine Tri.seq ?_
 obtain ⟨v4, hj, h⟩ := bind_some h
 refine Tri.joinv v4 (fun (y : Bool) => ⟨[(4, Ab y)], []⟩) ?_ ?_
 ·refine Tri.ret ?_
  exact Rb h rfl
 ·have h := hj
  refine Tri.region ?_
  refine Qe 1 rfl ?_
  refine Q1 rfl rfl rfl (Ax.ln (cl := icl) rfl slc_26 rfl) ?_
  refine Qe 3 rfl ?_
  rcases b2 ((a1.length : Int) == a0) with hb | hb
  ·have h := cond_t hb h
   refine Qk 9 hb rfl ?_
   refine Qe 1 rfl ?_
   obtain ⟨x11, hc, h⟩ := bind_some h
   refine Qc rfl rfl rfl (args := [.lst 1 (a1.map icl), .fn 298 []]) (r := Ab x11) (calv rfl rfl fnok_292 rfl) (f292_ok fnok_298 rfl (fun _ _ hr => f298_ok hr) hc) rfl ?_
   refine Qd rfl ?_
   exact Exists.intro (!x11) (And.intro h (E0 rfl))
  ·have h := cond_f hb h
   refine Qk 9 hb rfl ?_
   refine Qd rfl ?_
   exact Exists.intro false (And.intro h (E0 rfl))
theorem f340_ok {K : Nat} {a0 : List Diff} {a1 : Diff → Option Bool} {g1 : Nat} {caps1 : List AV} {r : Int} (hg1 : FnOK Tryz.prog g1) (ho1 : (AV.fn g1 caps1).only [] = true) (hp1 : ∀ x0 r, a1 x0 = some r → CallOK Tryz.prog g1 ([.agg (Diff.cl x0)] ++ caps1) [] (Ab r) []) (h : f340 K a0 a1 = some r) : CallOK Tryz.prog 340 [.lst 3 (a0.map Diff.cl), .fn g1 caps1] [] (Ai r) [] := by
 refine CallOK.of_tri Tryz.func340 rfl rfl (Nat.le_of_ble_eq_true rfl) ?_
 unfold f340 at h
 refine Tp rfl ?_
 refine Tri.seq ?_
 refine Tr ?_
 refine Qe 1 rfl ?_
 refine Q1 rfl rfl rfl (Ax.ln (cl := Diff.cl) rfl slc_32 rfl) ?_
 refine Qd rfl ?_
 obtain ⟨j, hj, h⟩ := jo h
 refine Tri.rngL h (fun p => ⟨[(0, .lst 3 (a0.map Diff.cl)), (1, .fn g1 caps1), (7, Ai (a0.length : Int)), (8, Ai p.1)], []⟩) (fun y => j y = some r) (fun (y : Unit) => ⟨[], []⟩) (Es0 [1] rfl ⟨.imm (Sub.refl _) ho1, trivial⟩) ?_ ?_ ?_
 ·rintro ⟨⟩ h
  subst hj
  refine Tp rfl ?_
  refine Tri.ret ?_
  exact Ri h rfl
 ·rintro v8 ⟨⟩ hi h
  refine Tp rfl ?_
  refine Tri.seq ?_
  refine Tri.cond (b := (decide (v8 < (a0.length : Int)))) rfl (fun hb => ?_) (fun hb => ?_)
  ·exact (lt_f hi hb).elim
  ·refine Tri.exit ?_
   exact Exists.intro () (And.intro h (E0 rfl))
 ·rintro nx x v8 ⟨⟩ _ hi hw hx h
  refine Tp rfl ?_
  refine Tri.seq ?_
  refine Tri.cond (b := (decide (v8 < (a0.length : Int)))) rfl (fun hb_1 => ?_) (fun hb_1 => ?_)
  ·refine Tri.skip ?_
   refine Tri.seq ?_
   refine Tri.block ?_
   refine Tp rfl ?_
   refine Tr ?_
   refine Qe 3 rfl ?_
   refine Q1 rfl rfl rfl (Ax.ix (cl := Diff.cl) rfl slc_32 rfl rfl hx) ?_
   refine Qe 1 rfl ?_
   obtain ⟨x16, hc, h⟩ := bind_some h
   refine Qc rfl rfl rfl (args := [.agg (Diff.cl x)] ++ caps1) (r := Ab x16) (calv rfl rfl hg1 rfl) (hp1 _ _ hc) rfl ?_
   refine RunD.done ?_
   refine Tri.cond (b := x16) rfl (fun hb_2 => ?_) (fun hb_2 => ?_)
   ·have h := cond_t hb_2 h
    refine Tp rfl ?_
    refine Tri.ret ?_
    exact Ri h rfl
   ·have h := cond_f hb_2 h
    refine Tri.skip ?_
    refine Tq rfl ?_
    exact Exists.intro (v8 + 1, ()) (And.intro (And.intro rfl h) (Es0 [1, 8] rfl ⟨.imm (Sub.refl _) ho1, .imm (Sub.of_eq (show Ai (v8 + 1) = Ai (W (v8 + 1)) from congrArg Ai hw.symm)) rfl, trivial⟩))
  ·exact (lt_t hi hb_1).elim
theorem f299_ok {K : Nat} {a0 : List Diff} {a1 : Diff → Option Bool} {g1 : Nat} {caps1 : List AV} {r : Bool} (hg1 : FnOK Tryz.prog g1) (ho1 : (AV.fn g1 caps1).only [] = true) (hp1 : ∀ x0 r, a1 x0 = some r → CallOK Tryz.prog g1 ([.agg (Diff.cl x0)] ++ caps1) [] (Ab r) []) (h : f299 K a0 a1 = some r) : CallOK Tryz.prog 299 [.lst 3 (a0.map Diff.cl), .fn g1 caps1] [] (Ab r) [] := by
 refine CallOK.of_tri Tryz.func299 rfl rfl (Nat.le_of_ble_eq_true rfl) ?_
 unfold f299 at h
 refine Tp rfl ?_
 refine Tr ?_
 refine Qe 2 rfl ?_
 obtain ⟨x7, hc, h⟩ := bind_some h
 refine Qc rfl rfl rfl (args := [.lst 3 (a0.map Diff.cl), .fn g1 caps1]) (r := Ai x7) (calv rfl rfl fnok_340 rfl) (f340_ok hg1 ho1 hp1 hc) rfl ?_
 refine Qd rfl ?_
 refine Tri.ret ?_
 exact Rb h rfl
theorem f300_ok {K : Nat} {a0 : Diff} {a1 : List Int} {r : Bool} (h : f300 K a0 a1 = some r) : CallOK Tryz.prog 300 [.agg (Diff.cl a0), .ipt (cl26 a1) 0] [] (Ab r) [] := by
 refine CallOK.of_tri Tryz.func300 rfl rfl (Nat.le_of_ble_eq_true rfl) ?_
 unfold f300 at h
 refine Tp rfl ?_
 refine Tri.seq ?_
 refine Tri.drawn [] hmix (by kernel_rfl) ?_
 refine Qe 3 rfl ?_
 obtain ⟨y, hy, h⟩ := bind_some h
 refine Q1 rfl rfl rfl (Ax.ix (cl := icl) rfl slc_26 rfl rfl hy) ?_
 refine Qe 4 rfl ?_
 obtain ⟨y_1, hy_1, h⟩ := bind_some h
 refine Q1 rfl rfl rfl (Ax.ix (cl := icl) rfl slc_26 rfl rfl hy_1) ?_
 refine Qe 6 rfl ?_
 refine RunD.done ⟨by kernel_rfl, freshL_of [] (by kernel_rfl) (by kernel_rfl), ?_⟩
 refine Tri.ret ?_
 exact Rb h rfl
theorem f225_ok {K : Nat} {a0 : Net} {a1 : List Int} {r : Bool} (h : f225 K a0 a1 = some r) : CallOK Tryz.prog 225 [.agg (Net.cl a0), .lst 1 (a1.map icl)] [] (Ab r) [] := by
 refine CallOK.of_tri Tryz.func225 rfl rfl (Nat.le_of_ble_eq_true rfl) ?_
 unfold f225 at h
 refine Tp rfl ?_
 refine Tri.seq ?_
 obtain ⟨v4, hj, h⟩ := bind_some h
 refine Tri.joinv v4 (fun (y : Bool) => ⟨[(4, Ab y)], []⟩) ?_ ?_
 ·refine Tri.ret ?_
  exact Rb h rfl
 ·have h := hj
  refine Tri.region ?_
  refine Qe 1 rfl ?_
  obtain ⟨y, hy, h⟩ := bind_some h
  refine Q1 rfl rfl rfl (Ax.ix (cl := icl) rfl slc_26 rfl rfl hy) ?_
  refine Qe 3 rfl ?_
  rcases b2 (y == 0) with hb | hb
  ·have h := cond_t hb h
   refine Qk 9 hb rfl ?_
   refine Qe 2 rfl ?_
   refine Q1 rfl rfl rfl (v := .fn 300 [.ipt (cl26 a1) 0]) (Ax.func rfl rfl) ?_
   obtain ⟨x13, hc, h⟩ := bind_some h
   refine Qc rfl rfl rfl (args := [.lst 3 (a0.Diffs.map Diff.cl), .fn 300 [.ipt (cl26 a1) 0]]) (r := Ab x13) (calv rfl rfl fnok_299 rfl) (f299_ok fnok_300 rfl (fun _ _ hr => f300_ok hr) hc) rfl ?_
   refine Qd rfl ?_
   exact Exists.intro (!x13) (And.intro h (E0 rfl))
  ·have h := cond_f hb h
   refine Qk 9 hb rfl ?_
   refine Qd rfl ?_
   exact Exists.intro false (And.intro h (E0 rfl))
theorem f104_ok {K : Nat} {a0 : Net} {a1 : List Int} {r : Bool × Int} (h : f104 K a0 a1 = some r) : CallOK Tryz.prog 104 [.agg (Net.cl a0), .lst 1 (a1.map icl)] [] (.tup [Ab r.1, Ai r.2]) [] := by
 refine CallOK.of_tri Tryz.func104 rfl rfl (Nat.le_of_ble_eq_true rfl) ?_
 unfold f104 at h
 refine Tp rfl ?_
 refine Tri.seq ?_
 refine Tri.seq ?_
 refine Tri.drawn [[], [], [1], [], [1, 2, 3], [1, 2, 3, 4], [0, 1, 2, 3, 4, 5], [0, 1, 2, 3, 4, 5, 6]] hmix (by kernel_rfl) ?_
 refine Qe 4 rfl ?_
 obtain ⟨x11, hc, h⟩ := bind_some h
 refine Qc rfl rfl rfl (args := [Ai a0.Nodes, .lst 1 (a1.map icl)]) (r := Ab x11) (calv rfl rfl fnok_224 rfl) (f224_ok hc) rfl ?_
 refine Q1 rfl rfl rfl (v := .lst 1 (([x11] : List Bool).map bcl)) (Ax.sl (xs := ([x11] : List Bool)) rfl slc_191 rfl rfl ⟨Sub.refl _, trivial⟩ rfl bcl_len bcl_one bcl_im) ?_
 obtain ⟨x13, hc_1, h⟩ := bind_some h
 refine Qc rfl rfl rfl (args := [.agg (Net.cl a0), .lst 1 (([x11] : List Bool).map bcl)]) (r := Ai x13) (calv rfl rfl fnok_223 rfl) (f223_ok hc_1) rfl ?_
 refine Qe 1 rfl ?_
 refine RunD.done ⟨by kernel_rfl, freshL_of [] (by kernel_rfl) (by kernel_rfl), ?_⟩
 refine Tp rfl ?_
 refine Tri.cond (b := (x13 != 0)) rfl (fun hb => ?_) (fun hb => ?_)
 ·have h := cond_t hb h
  refine Tp rfl ?_
  refine Tri.ret ?_
  refine Rr (fun r => .tup [Ab r.1, Ai r.2]) (fun r => []) [] h ?_ trivial
  rfl
 ·have h := cond_f hb h
  refine Tri.skip ?_
  refine Tr ?_
  refine Qe 2 rfl ?_
  obtain ⟨x19, hc_2, h⟩ := bind_some h
  refine Qc rfl rfl rfl (args := [.agg (Net.cl a0), .lst 1 (a1.map icl)]) (r := Ab x19) (calv rfl rfl fnok_225 rfl) (f225_ok hc_2) rfl ?_
  refine Qd rfl ?_
  refine Tri.ret ?_
  refine Rr (fun r => .tup [Ab r.1, Ai r.2]) (fun r => []) [] h ?_ trivial
  rfl
theorem f26_ok {K : Nat} {a0 : Scene} {a1 : List (List Int)} {r : Int} (h : f26 K a0 a1 = some r) : CallOK Tryz.prog 26 [.agg (Scene.cl a0), .lst 1 (a1.map cl26)] [] (Ai r) [] := by
 refine CallOK.of_tri Tryz.func26 rfl rfl (Nat.le_of_ble_eq_true rfl) ?_
 unfold f26 at h
 refine Tp rfl ?_
 refine Tri.seq ?_
 refine Tr ?_
 refine Qe 1 rfl ?_
 obtain ⟨x12, hc, h⟩ := bind_some h
 refine Qc rfl rfl rfl (args := [.agg (Scene.cl a0)]) (r := Ai x12) (calv rfl rfl fnok_66 rfl) (f66_ok hc) rfl ?_
 refine Qd rfl ?_
 refine Tp rfl ?_
 refine Tri.cond (b := (x12 != 0)) rfl (fun hb => ?_) (fun hb => ?_)
 ·have h := cond_t hb h
  refine Tp rfl ?_
  refine Tri.ret ?_
  exact Ri h rfl
 ·have h := cond_f hb h
  refine Tri.skip ?_
  refine Tri.seq ?_
  refine Tr ?_
  refine Qe 1 rfl ?_
  refine Q1 rfl rfl rfl (Ax.ln (cl := cl26) rfl slc_44 rfl) ?_
  refine Qe 2 rfl ?_
  refine Q1 rfl rfl rfl (Ax.ln (cl := icl) rfl slc_26 rfl) ?_
  refine Qd rfl ?_
  refine Tri.cond (b := ((a1.length : Int) != (a0.Days.length : Int))) rfl (fun hb_1 => ?_) (fun hb_1 => ?_)
  ·have h := cond_t hb_1 h
   refine Tp rfl ?_
   refine Tri.ret ?_
   exact Ri h rfl
  ·have h := cond_f hb_1 h
   refine Tri.skip ?_
   refine Tr ?_
   refine Qn rfl rfl rfl (v := .hnd 22) (x := some (.arr 3 1 (([0] : List Int).map icl))) (Ax.so (xs := ([0] : List Int)) rfl rfl slc_26 rfl rfl ⟨Sub.refl _, trivial⟩ rfl icl_len icl_one icl_im) rfl rfl rfl rfl rfl ?_
   refine Qd rfl ?_
   refine Tri.seq ?_
   refine Tr ?_
   refine Qe 1 rfl ?_
   refine Q1 rfl rfl rfl (Ax.ln (cl := cl26) rfl slc_44 rfl) ?_
   refine Qd rfl ?_
   obtain ⟨j, hj, h⟩ := jo h
   refine Tri.rngL h (fun p => ⟨[(2, .ipt (Scene.cl a0) 0), (6, .hnd 22), (23, .lst 1 (a1.map cl26)), (24, Ai (a1.length : Int)), (25, Ai p.1)], [(22, some (.arr 3 1 (p.2.map icl)))]⟩) (fun y => j y = some r) (fun (y : List Int) => ⟨[(2, .ipt (Scene.cl a0) 0), (6, .hnd 22)], [(22, some (.arr 3 1 (y.map icl)))]⟩) (Ee [22] rfl ⟨im_flat icl_im ([0] : List Int), trivial⟩) ?_ ?_ ?_
   ·rintro vo6_1 h
    subst hj
    refine Tri.seq ?_
    refine Tr ?_
    refine Qe 1 rfl ?_
    obtain ⟨x42, hc_1, h⟩ := bind_some h
    refine Qc rfl rfl rfl (args := [.agg (Scene.cl a0)]) (r := .ipt (Laid_basin.cl x42) 0) (calv rfl rfl fnok_102 rfl) (f102_ok hc_1) rfl ?_
    refine Q1 rfl rfl rfl (Ax.nil_ipt rfl rfl) ?_
    refine Qe 3 rfl ?_
    obtain ⟨⟨x47_0, x47_1⟩, hc_2, h⟩ := bind_some h
    refine Ql [22] rfl rfl rfl (args := [.agg (Net.cl x42.net), .hnd 22]) (args' := [.agg (Net.cl x42.net), .lst 1 (vo6_1.map icl)]) (r := .tup [Ab x47_0, Ai x47_1]) (calv rfl rfl fnok_104 rfl) ⟨.im rfl, .hnd (List.Mem.head _) rfl (im_flat icl_im vo6_1), trivial⟩ (f104_ok hc_2) rfl rfl ?_
    refine Qd rfl ?_
    refine Tri.seq ?_
    refine Tri.join1 ⟨[(55, Ab ((x47_1 != 0) || (!x47_0)))], []⟩ ?_ ?_
    ·refine Tri.cond (b := ((x47_1 != 0) || (!x47_0))) rfl (fun hb_2 => ?_) (fun hb_2 => ?_)
     ·have h := cond_t hb_2 h
      refine Tp rfl ?_
      refine Tri.ret ?_
      exact Ri h rfl
     ·have h := cond_f hb_2 h
      refine Tri.skip ?_
      refine Tp rfl ?_
      refine Tri.ret ?_
      exact Ri h rfl
    ·refine Tri.region ?_
     refine Qe 3 rfl ?_
     rcases b2 (x47_1 != 0) with hb_3 | hb_3
     ·refine Qk 52 hb_3 rfl ?_
      refine Qd rfl ?_
      exact (Es0 [55] rfl ⟨.imm (Sub.of_eq (show Ab ((x47_1 != 0) || (!x47_0)) = Ab true by simp only [cond_true, cond_false, Bool.true_or, Bool.false_or, Bool.true_and, Bool.false_and, Bool.or_true, Bool.or_false, Bool.and_true, Bool.and_false, hb, hb_1, hb_3])) rfl, trivial⟩)
     ·refine Qk 52 hb_3 rfl ?_
      refine Qd rfl ?_
      exact (Es0 [55] rfl ⟨.imm (Sub.of_eq (show Ab ((x47_1 != 0) || (!x47_0)) = Ab (!x47_0) by simp only [cond_true, cond_false, Bool.true_or, Bool.false_or, Bool.true_and, Bool.false_and, Bool.or_true, Bool.or_false, Bool.and_true, Bool.and_false, hb, hb_1, hb_3])) rfl, trivial⟩)
   ·rintro v25 vo6 hi h
    refine Tp rfl ?_
    refine Tri.seq ?_
    refine Tri.cond (b := (decide (v25 < (a1.length : Int)))) rfl (fun hb_4 => ?_) (fun hb_4 => ?_)
    ·exact (lt_f hi hb_4).elim
    ·refine Tri.exit ?_
     exact Exists.intro vo6 (And.intro h (Ee [22] rfl ⟨imf icl_im, trivial⟩))
   ·rintro nx x v25 vo6 _ hi hw hx h
    refine Tp rfl ?_
    refine Tri.seq ?_
    refine Tri.cond (b := (decide (v25 < (a1.length : Int)))) rfl (fun hb_5 => ?_) (fun hb_5 => ?_)
    ·refine Tri.skip ?_
     refine Tri.seq ?_
     refine Tri.block ?_
     refine Tr ?_
     refine Q1 rfl rfl rfl (Ax.ix (cl := cl26) rfl slc_44 rfl rfl hx) ?_
     refine Qd rfl ?_
     refine Tri.seq ?_
     refine Tr ?_
     refine Qe 1 rfl ?_
     refine Q1 rfl rfl rfl (Ax.ln (cl := icl) rfl slc_26 rfl) ?_
     refine Qe 3 rfl ?_
     refine Q1 rfl rfl rfl (Ax.ln (cl := Cell.cl) rfl slc_22 rfl) ?_
     refine Qd rfl ?_
     refine Tri.cond (b := ((x.length : Int) != (a0.Basin.Cells.length : Int))) rfl (fun hb_6 => ?_) (fun hb_6 => ?_)
     ·have h := cond_t hb_6 h
      refine Tp rfl ?_
      refine Tri.ret ?_
      exact Ri h rfl
     ·have h := cond_f hb_6 h
      refine Tri.skip ?_
      refine Tri.region ?_
      refine Qe 2 rfl ?_
      obtain ⟨z38, hz, h⟩ := bind_some h
      refine Qa rfl rfl rfl (v := .hnd 38) (x := some (.arr 3 1 (z38.map icl))) (Ax.app_l (cl := icl) rfl rfl slc_26 rfl rfl rfl icl_one icl_im hz rfl rfl) rfl rfl rfl rfl rfl ?_
      refine Qd rfl ?_
      refine Tq rfl ?_
      exact Exists.intro (v25 + 1, z38) (And.intro (And.intro rfl h) (Es [38] [25] rfl ⟨imf icl_im, trivial⟩ ⟨.imm (Sub.of_eq (show Ai (v25 + 1) = Ai (W (v25 + 1)) from congrArg Ai hw.symm)) rfl, trivial⟩))
    ·exact (lt_t hi hb_5).elim
theorem f113_ok {K : Nat} {a0 : Scene} {a1 : List Int} {a2 : Int} {r : List Spot_basin × Int} (h : f113 K a0 a1 a2 = some r) : CallOK Tryz.prog 113 [.agg (Scene.cl a0), .lst 1 (a1.map icl), Ai a2] [] (.tup [.lst 2 (r.1.map Spot_basin.cl), Ai r.2]) [] := by
 refine CallOK.of_tri Tryz.func113 rfl rfl (Nat.le_of_ble_eq_true rfl) ?_
 unfold f113 at h
 refine Tr ?_
 refine Qe 1 rfl ?_
 refine Q1 rfl rfl rfl (v := .lst 2 (([] : List Spot_basin).map Spot_basin.cl)) (Ax.nl 2 rfl rfl) ?_
 refine Qd rfl ?_
 refine Tri.seq ?_
 refine Tr ?_
 refine Qe 1 rfl ?_
 obtain ⟨x15, hc, h⟩ := bind_some h
 refine Qc rfl rfl rfl (args := [.agg (Scene.cl a0)]) (r := Ai x15) (calv rfl rfl fnok_66 rfl) (f66_ok hc) rfl ?_
 refine Qd rfl ?_
 refine Tp rfl ?_
 refine Tri.cond (b := (x15 != 0)) rfl (fun hb => ?_) (fun hb => ?_)
 ·have h := cond_t hb h
  refine Tr ?_
  refine Qe 1 rfl ?_
  refine Q1 rfl rfl rfl (v := .lst 2 (([] : List Spot_basin).map Spot_basin.cl)) (Ax.nl 2 rfl rfl) ?_
  refine Qd rfl ?_
  refine Tri.ret ?_
  refine Rr (fun r => .tup [.lst 2 (r.1.map Spot_basin.cl), Ai r.2]) (fun r => []) [] h ?_ trivial
  rfl
 ·have h := cond_f hb h
  refine Tri.skip ?_
  refine Tr ?_
  refine Qe 3 rfl ?_
  obtain ⟨x22, hc_1, h⟩ := bind_some h
  refine Qc rfl rfl rfl (args := [.lst 1 (a0.Days.map icl), Ai a2]) (r := Ai x22) (calv rfl rfl fnok_194 rfl) (f194_ok hc_1) rfl ?_
  refine Qd rfl ?_
  refine Tri.seq ?_
  refine Tri.seq ?_
  obtain ⟨v34, hj_1, h⟩ := bind_some h
  refine Tri.joinv v34 (fun (y : Bool) => ⟨[(1, .lst 1 (a1.map icl)), (3, .ipt (Scene.cl a0) 0), (9, Ai x22), (34, Ab y)], []⟩) ?_ ?_
  ·refine Tri.cond (b := v34) rfl (fun hb_1 => ?_) (fun hb_1 => ?_)
   ·have h := cond_t hb_1 h
    refine Tr ?_
    refine Q1 rfl rfl rfl (v := .lst 2 (([] : List Spot_basin).map Spot_basin.cl)) (Ax.nl 2 rfl rfl) ?_
    refine Qd rfl ?_
    refine Tri.ret ?_
    refine Rr (fun r => .tup [.lst 2 (r.1.map Spot_basin.cl), Ai r.2]) (fun r => []) [] h ?_ trivial
    rfl
   ·have h := cond_f hb_1 h
    refine Tri.skip ?_
    refine Tr ?_
    refine Qn rfl rfl rfl (v := .hnd 10) (x := some (.arr 190 2 (([] : List Spot_basin).map Spot_basin.cl))) (Ax.nil_new 190 2 (.inr rfl) rfl) rfl rfl rfl rfl rfl ?_
    refine RunD.done ?_
    refine Tri.seq ?_
    refine Tr ?_
    refine Qe 1 rfl ?_
    refine Q1 rfl rfl rfl (Ax.ln (cl := icl) rfl slc_26 rfl) ?_
    refine Qd rfl ?_
    obtain ⟨j, hj, h⟩ := jo h
    refine Tri.rngL h (fun p => ⟨[(3, .ipt (Scene.cl a0) 0), (9, Ai x22), (10, .hnd 10), (35, .lst 1 (a1.map icl)), (36, Ai (a1.length : Int)), (37, Ai p.1)], [(10, some (.arr 190 2 (p.2.map Spot_basin.cl)))]⟩) (fun y => j y = some r) (fun (y : List Spot_basin) => ⟨[(10, .hnd 10)], [(10, some (.arr 190 2 (y.map Spot_basin.cl)))]⟩) (Ee [10] rfl ⟨im_flat Spot_basin_im ([] : List Spot_basin), trivial⟩) ?_ ?_ ?_
    ·rintro vo10_1 h
     subst hj
     refine Tp rfl ?_
     refine Tri.ret ?_
     refine RetQ.eq2 (fun r => .tup [.lst 2 (r.1.map Spot_basin.cl), Ai r.2]) (fun r => []) (Option.some.inj h) ?_
     exact RetQ.mk (vs := [.hnd 10, Ai 0]) (.inr rfl) ⟨_, _, rfl, .tmp rfl, ⟨_, _, rfl, .tmp rfl, rfl⟩⟩ [10] [] rfl rfl trivial (.tupV ⟨.frz (.hnd (List.Mem.head _) rfl (im_flat Spot_basin_im vo10_1)) rfl, .rfl' rfl, trivial⟩)
    ·rintro v37 vo10 hi h
     refine Tp rfl ?_
     refine Tri.seq ?_
     refine Tri.cond (b := (decide (v37 < (a1.length : Int)))) rfl (fun hb_2 => ?_) (fun hb_2 => ?_)
     ·exact (lt_f hi hb_2).elim
     ·refine Tri.exit ?_
      exact Exists.intro vo10 (And.intro h (Ee [10] rfl ⟨imf Spot_basin_im, trivial⟩))
    ·rintro nx x v37 vo10 _ hi hw hx h
     refine Tp rfl ?_
     refine Tri.seq ?_
     refine Tri.cond (b := (decide (v37 < (a1.length : Int)))) rfl (fun hb_3 => ?_) (fun hb_3 => ?_)
     ·refine Tri.skip ?_
      refine Tri.seq ?_
      refine Tri.block ?_
      refine Tr ?_
      refine Q1 rfl rfl rfl (Ax.ix (cl := icl) rfl slc_26 rfl rfl hx) ?_
      refine Qd rfl ?_
      refine Tr ?_
      refine Qe 3 rfl ?_
      obtain ⟨x44, hc_2, h⟩ := bind_some h
      refine Qc rfl rfl rfl (args := [.agg (Basin.cl a0.Basin), Ai x]) (r := Ai x44) (calv rfl rfl fnok_221 rfl) (f221_ok hc_2) rfl ?_
      refine Qd rfl ?_
      refine Tri.seq ?_
      refine Tp rfl ?_
      refine Tri.cond (b := (decide (x44 < 0))) rfl (fun hb_4 => ?_) (fun hb_4 => ?_)
      ·have h := cond_t hb_4 h
       refine Tr ?_
       refine Q1 rfl rfl rfl (v := .lst 2 (([] : List Spot_basin).map Spot_basin.cl)) (Ax.nl 2 rfl rfl) ?_
       refine Qd rfl ?_
       refine Tri.ret ?_
       refine Rr (fun r => .tup [.lst 2 (r.1.map Spot_basin.cl), Ai r.2]) (fun r => []) [] h ?_ trivial
       rfl
      ·have h := cond_f hb_4 h
       refine Tri.skip ?_
       refine Tri.region ?_
       refine Qe 3 rfl ?_
       refine Q1 rfl rfl rfl (v := .agg (Spot_basin.cl (⟨x44, x22⟩ : Spot_basin))) (Ax.build rfl zer_190 (bld plc_190 zer_190) rfl ⟨Sub.refl _, Sub.refl _, trivial⟩) ?_
       refine Q1 rfl rfl rfl (v := .lst 2 (([(⟨x44, x22⟩ : Spot_basin)] : List Spot_basin).map Spot_basin.cl)) (Ax.sl (xs := ([(⟨x44, x22⟩ : Spot_basin)] : List Spot_basin)) rfl slc_180 rfl rfl ⟨Sub.refl _, Sub.refl _, trivial⟩ rfl Spot_basin_len Spot_basin_one Spot_basin_im) ?_
       obtain ⟨z52, hz, h⟩ := bind_some h
       refine Qa rfl rfl rfl (v := .hnd 52) (x := some (.arr 190 2 (z52.map Spot_basin.cl))) (Ax.app_l (cl := Spot_basin.cl) rfl rfl slc_180 rfl rfl rfl Spot_basin_one Spot_basin_im hz rfl rfl) rfl rfl rfl rfl rfl ?_
       refine Qd rfl ?_
       refine Tq rfl ?_
       exact Exists.intro (v37 + 1, z52) (And.intro (And.intro rfl h) (Es [52] [37] rfl ⟨imf Spot_basin_im, trivial⟩ ⟨.imm (Sub.of_eq (show Ai (v37 + 1) = Ai (W (v37 + 1)) from congrArg Ai hw.symm)) rfl, trivial⟩))
     ·exact (lt_t hi hb_3).elim
  ·have h := hj_1
   refine Tri.region ?_
   refine Qe 3 rfl ?_
   rcases b2 (decide (x22 < 0)) with hb_5 | hb_5
   ·have h := cond_t hb_5 h
    refine Qk 25 hb_5 rfl ?_
    refine Qd rfl ?_
    exact Exists.intro true (And.intro h (E0 rfl))
   ·have h := cond_f hb_5 h
    refine Qk 25 hb_5 rfl ?_
    refine Qe 1 rfl ?_
    refine Q1 rfl rfl rfl (Ax.ln (cl := icl) rfl slc_26 rfl) ?_
    refine Qe 3 rfl ?_
    rcases b2 ((a1.length : Int) == 0) with hb_6 | hb_6
    ·have h := cond_t hb_6 h
     refine Qk 30 hb_6 rfl ?_
     refine Qd rfl ?_
     exact Exists.intro true (And.intro h (E0 rfl))
    ·have h := cond_f hb_6 h
     refine Qk 30 hb_6 rfl ?_
     refine Qe 1 rfl ?_
     obtain ⟨x32, hc_3, h⟩ := bind_some h
     refine Qc rfl rfl rfl (args := [.lst 1 (a1.map icl)]) (r := Ab x32) (calv rfl rfl fnok_174 rfl) (f174_ok hc_3) rfl ?_
     refine Qd rfl ?_
     exact Exists.intro (!x32) (And.intro h (E0 rfl))
theorem f85_ok {K : Nat} {a0 : List Int} {r : List Int} (h : f85 K a0 = some r) : CallOK Tryz.prog 85 [.lst 1 (a0.map icl)] [] (.lst 1 (r.map icl)) [] := by
 unfold f85 at h
 have hr := (app_spec h).2
 rw [List.nil_append] at hr
 subst hr
 cases r with
 | nil =>
  refine CallOK.lst0 fun a cap => ?_
  refine CallOK.of_tri Tryz.func85 rfl rfl (Nat.le_of_ble_eq_true rfl) ?_
  refine Tr ?_
  refine Q1 rfl rfl rfl (v := .lst 1 (([] : List Int).map icl)) (Ax.nl 1 rfl rfl) ?_
  refine RunD.done ?_
  refine Tri.seq ?_
  refine Tr ?_
  refine Q1 rfl rfl rfl (v := .sc (.slice a 0 cap)) (Ax.mv rfl rfl) ?_
  refine Q1 rfl rfl rfl (v := Ab a.isNone) (Ax.nilc rfl uns_26 rfl rfl) ?_
  refine RunD.done ?_
  refine Tri.cond (b := a.isNone) rfl (fun hb => ?_) (fun hb => ?_)
  ·refine Tr ?_
   refine Q1 rfl rfl rfl (v := .lst 1 (([] : List Int).map icl)) (Ax.nl 1 rfl rfl) ?_
   refine RunD.done ?_
   refine Tri.ret ?_
   exact RetQ.mk (vs := [.lst 1 (([] : List Int).map icl)]) (.inr rfl) ⟨_, _, rfl, .tmp rfl, rfl⟩ [] [] rfl rfl trivial (.rfl' rfl)
  ·refine Tri.skip ?_
   refine Tr ?_
   refine Qn rfl rfl rfl (v := .hnd 5) (x := some (.arr 3 1 (([] : List Int).map icl))) (Ax.slice_new rfl rfl slc_26) rfl rfl rfl rfl rfl ?_
   refine Q1 rfl rfl rfl (v := .lst 1 (([] : List Int).map icl)) (Ax.move (.inl rfl) (Sub.lstE _ _ _)) ?_
   refine Qa rfl rfl rfl (v := .hnd 7) (x := some (.arr 3 1 (([] : List Int).map icl))) (Ax.app_l (cl := icl) rfl rfl slc_26 rfl rfl rfl icl_one icl_im h rfl rfl) rfl rfl rfl rfl rfl ?_
   refine Q1 rfl rfl rfl (v := .hnd 7) (Ax.as rfl rfl) ?_
   refine RunD.done ?_
   refine Tri.ret ?_
   exact RetQ.mk (vs := [.hnd 7]) (.inr rfl) ⟨_, _, rfl, .tmp rfl, rfl⟩ [7] [] rfl rfl trivial (.frz (.hnd (List.Mem.head _) rfl (im_flat icl_im [])) rfl)
 | cons x xs =>
  refine CallOK.of_tri Tryz.func85 rfl rfl (Nat.le_of_ble_eq_true rfl) ?_
  refine Tr ?_
  refine Q1 rfl rfl rfl (v := .lst 1 (([] : List Int).map icl)) (Ax.nl 1 rfl rfl) ?_
  refine RunD.done ?_
  refine Tri.seq ?_
  refine Tr ?_
  refine Q1 rfl rfl rfl (v := .lst 1 ((x :: xs : List Int).map icl)) (Ax.mv rfl rfl) ?_
  refine Q1 rfl rfl rfl (v := Ab false) (Ax.nilcmp rfl uns_26 rfl (by simp)) ?_
  refine RunD.done ?_
  refine Tri.cond_f rfl ?_
  refine Tri.skip ?_
  refine Tr ?_
  refine Qn rfl rfl rfl (v := .hnd 5) (x := some (.arr 3 1 (([] : List Int).map icl))) (Ax.slice_new rfl rfl slc_26) rfl rfl rfl rfl rfl ?_
  refine Q1 rfl rfl rfl (v := .lst 1 (((x :: xs) : List Int).map icl)) (Ax.mv rfl rfl) ?_
  refine Qa rfl rfl rfl (v := .hnd 7) (x := some (.arr 3 1 (((x :: xs) : List Int).map icl))) (Ax.app_l (cl := icl) rfl rfl slc_26 rfl rfl rfl icl_one icl_im h rfl rfl) rfl rfl rfl rfl rfl ?_
  refine Q1 rfl rfl rfl (v := .hnd 7) (Ax.as rfl rfl) ?_
  refine RunD.done ?_
  refine Tri.ret ?_
  exact RetQ.mk (vs := [.hnd 7]) (.inr rfl) ⟨_, _, rfl, .tmp rfl, rfl⟩ [7] [] rfl rfl trivial (.frz (.hnd (List.Mem.head _) rfl (im_flat icl_im (x :: xs))) rfl)
theorem f85_fr {K : Nat} {a0 : List Int} {r : List Int} (h : f85 K a0 = some r) : CallOK Tryz.prog 85 [.lst 1 (a0.map icl)] [] (.hnd 20260000) [(20260000, .arr 3 1 (r.map icl))] := by
 unfold f85 at h
 have hr := (app_spec h).2
 rw [List.nil_append] at hr
 subst hr
 cases r with
 | nil =>
  refine CallOK.lst0 fun a cap => ?_
  refine CallOK.of_tri Tryz.func85 rfl rfl (Nat.le_of_ble_eq_true rfl) ?_
  refine Tr ?_
  refine Q1 rfl rfl rfl (v := .lst 1 (([] : List Int).map icl)) (Ax.nl 1 rfl rfl) ?_
  refine RunD.done ?_
  refine Tri.seq ?_
  refine Tr ?_
  refine Q1 rfl rfl rfl (v := .sc (.slice a 0 cap)) (Ax.mv rfl rfl) ?_
  refine Q1 rfl rfl rfl (v := Ab a.isNone) (Ax.nilc rfl uns_26 rfl rfl) ?_
  refine RunD.done ?_
  refine Tri.cond (b := a.isNone) rfl (fun hb => ?_) (fun hb => ?_)
  ·refine Tr ?_
   refine Qn rfl rfl rfl (v := .hnd 2) (x := some (.arr 3 1 (([] : List Int).map icl))) (Ax.nil_new 3 1 (.inr rfl) rfl) rfl rfl rfl rfl rfl ?_
   refine RunD.done ?_
   refine Tri.ret ?_
   exact RetQ.mk (vs := [.hnd 2]) (.inr rfl) ⟨_, _, rfl, .tmp rfl, rfl⟩ [] [(20260000, 2, .arr 3 1 (([] : List Int).map icl))] rfl rfl ⟨⟨_, rfl, .arr (im_flat icl_im [])⟩, trivial⟩ (.hnd (List.Mem.head _))
  ·refine Tri.skip ?_
   refine Tr ?_
   refine Qn rfl rfl rfl (v := .hnd 5) (x := some (.arr 3 1 (([] : List Int).map icl))) (Ax.slice_new rfl rfl slc_26) rfl rfl rfl rfl rfl ?_
   refine Q1 rfl rfl rfl (v := .lst 1 (([] : List Int).map icl)) (Ax.move (.inl rfl) (Sub.lstE _ _ _)) ?_
   refine Qa rfl rfl rfl (v := .hnd 7) (x := some (.arr 3 1 (([] : List Int).map icl))) (Ax.app_l (cl := icl) rfl rfl slc_26 rfl rfl rfl icl_one icl_im h rfl rfl) rfl rfl rfl rfl rfl ?_
   refine Q1 rfl rfl rfl (v := .hnd 7) (Ax.as rfl rfl) ?_
   refine RunD.done ?_
   refine Tri.ret ?_
   exact RetQ.mk (vs := [.hnd 7]) (.inr rfl) ⟨_, _, rfl, .tmp rfl, rfl⟩ [] [(20260000, 7, .arr 3 1 (([] : List Int).map icl))] rfl rfl ⟨⟨_, rfl, .arr (im_flat icl_im [])⟩, trivial⟩ (.hnd (List.Mem.head _))
 | cons x xs =>
  refine CallOK.of_tri Tryz.func85 rfl rfl (Nat.le_of_ble_eq_true rfl) ?_
  refine Tr ?_
  refine Q1 rfl rfl rfl (v := .lst 1 (([] : List Int).map icl)) (Ax.nl 1 rfl rfl) ?_
  refine RunD.done ?_
  refine Tri.seq ?_
  refine Tr ?_
  refine Q1 rfl rfl rfl (v := .lst 1 ((x :: xs : List Int).map icl)) (Ax.mv rfl rfl) ?_
  refine Q1 rfl rfl rfl (v := Ab false) (Ax.nilcmp rfl uns_26 rfl (by simp)) ?_
  refine RunD.done ?_
  refine Tri.cond_f rfl ?_
  refine Tri.skip ?_
  refine Tr ?_
  refine Qn rfl rfl rfl (v := .hnd 5) (x := some (.arr 3 1 (([] : List Int).map icl))) (Ax.slice_new rfl rfl slc_26) rfl rfl rfl rfl rfl ?_
  refine Q1 rfl rfl rfl (v := .lst 1 (((x :: xs) : List Int).map icl)) (Ax.mv rfl rfl) ?_
  refine Qa rfl rfl rfl (v := .hnd 7) (x := some (.arr 3 1 (((x :: xs) : List Int).map icl))) (Ax.app_l (cl := icl) rfl rfl slc_26 rfl rfl rfl icl_one icl_im h rfl rfl) rfl rfl rfl rfl rfl ?_
  refine Q1 rfl rfl rfl (v := .hnd 7) (Ax.as rfl rfl) ?_
  refine RunD.done ?_
  refine Tri.ret ?_
  exact RetQ.mk (vs := [.hnd 7]) (.inr rfl) ⟨_, _, rfl, .tmp rfl, rfl⟩ [] [(20260000, 7, .arr 3 1 (((x :: xs) : List Int).map icl))] rfl rfl ⟨⟨_, rfl, .arr (im_flat icl_im (x :: xs))⟩, trivial⟩ (.hnd (List.Mem.head _))
theorem f218_ok {K : Nat} {a0 : Laid_basin} {a1 : List Int} {r : List (List Int)} (h : f218 K a0 a1 = some r) : CallOK Tryz.prog 218 [.ipt (Laid_basin.cl a0) 0, .lst 1 (a1.map icl)] [] (.lst 1 (r.map cl26)) [] := by
 refine CallOK.of_tri Tryz.func218 rfl rfl (Nat.le_of_ble_eq_true rfl) ?_
 unfold f218 at h
 refine Tr ?_
 refine Qn rfl rfl rfl (v := .hnd 4) (x := some (.arr 26 1 (([] : List (List Int)).map cl26))) (Ax.nil_new 26 1 (.inr rfl) rfl) rfl rfl rfl rfl rfl ?_
 refine RunD.done ?_
 refine Tr ?_
 refine Qe 1 rfl ?_
 refine Q1 rfl rfl rfl (Ax.nil_ipt rfl rfl) ?_
 refine Qe 4 rfl ?_
 refine Q1 rfl rfl rfl (Ax.ln (cl := Cell.cl) rfl slc_22 rfl) ?_
 refine Qd rfl ?_
 refine Tri.seq ?_
 refine Tr ?_
 refine Qe 1 rfl ?_
 refine Q1 rfl rfl rfl (Ax.nil_ipt rfl rfl) ?_
 refine Qe 3 rfl ?_
 refine Q1 rfl rfl rfl (Ax.ln (cl := icl) rfl slc_26 rfl) ?_
 refine Qd rfl ?_
 obtain ⟨vo4_1, hj, h⟩ := bind_some h
 refine Tri.rngNv hj (fun p => ⟨[(1, .lst 1 (a1.map icl)), (4, .hnd 4), (5, Ai (a0.s.Basin.Cells.length : Int)), (19, Ai (a0.s.Days.length : Int)), (20, Ai p.1)], [(4, some (.arr 26 1 (p.2.map cl26)))]⟩) (fun (y : List (List Int)) => ⟨[(4, .hnd 4)], [(4, some (.arr 26 1 (y.map cl26)))]⟩) (Ee [4] rfl ⟨im_flat cl26_im ([] : List (List Int)), trivial⟩) ?_ ?_ ?_
 ·refine Tp rfl ?_
  refine Tri.ret ?_
  refine RetQ.eq2 (fun r => .lst 1 (r.map cl26)) (fun r => []) (Option.some.inj h) ?_
  exact RetQ.mk (vs := [.hnd 4]) (.inr rfl) ⟨_, _, rfl, .tmp rfl, rfl⟩ [4] [] rfl rfl trivial (.frz (.hnd (List.Mem.head _) rfl (im_flat cl26_im vo4_1)) rfl)
 ·rintro v20 vo4 hi _ h
  refine Tp rfl ?_
  refine Tri.seq ?_
  refine Tri.cond (b := (decide (v20 < (a0.s.Days.length : Int)))) rfl (fun hb => ?_) (fun hb => ?_)
  ·exact (lt_f hi hb).elim
  ·refine Tri.exit ?_
   exact Exists.intro vo4 (And.intro h (Ee [4] rfl ⟨imf cl26_im, trivial⟩))
 ·rintro nx v20 vo4 _ hi hw h
  refine Tp rfl ?_
  refine Tri.seq ?_
  refine Tri.cond (b := (decide (v20 < (a0.s.Days.length : Int)))) rfl (fun hb_1 => ?_) (fun hb_1 => ?_)
  ·refine Tri.skip ?_
   refine Tri.seq ?_
   refine Tri.block ?_
   refine Tp rfl ?_
   refine Tri.region ?_
   refine Qe 11 rfl ?_
   obtain ⟨z34, hz, h⟩ := bind_some h
   refine Q1 rfl rfl rfl (v := .lst 1 (z34.map icl)) (Ax.sb rfl slc_26 rfl rfl rfl hz) ?_
   obtain ⟨x35, hc, h⟩ := bind_some h
   refine Qc rfl rfl rfl (args := [.lst 1 (z34.map icl)]) (r := .lst 1 (x35.map icl)) (calv rfl rfl fnok_85 rfl) (f85_ok hc) rfl ?_
   refine Q1 rfl rfl rfl (v := .lst 1 (([x35] : List (List Int)).map cl26)) (Ax.sl (xs := ([x35] : List (List Int))) rfl slc_44 rfl rfl ⟨Sub.refl _, trivial⟩ rfl cl26_len cl26_one cl26_im) ?_
   obtain ⟨z37, hz_1, h⟩ := bind_some h
   refine Qa rfl rfl rfl (v := .hnd 37) (x := some (.arr 26 1 (z37.map cl26))) (Ax.app_l (cl := cl26) rfl rfl slc_44 rfl rfl rfl cl26_one cl26_im hz_1 rfl rfl) rfl rfl rfl rfl rfl ?_
   refine Qd rfl ?_
   refine Tq rfl ?_
   exact Exists.intro (v20 + 1, z37) (And.intro (And.intro rfl h) (Es [37] [20] rfl ⟨imf cl26_im, trivial⟩ ⟨.imm (Sub.of_eq (show Ai (v20 + 1) = Ai (W (v20 + 1)) from congrArg Ai hw.symm)) rfl, trivial⟩))
  ·exact (lt_t hi hb_1).elim
theorem f107_ok {K : Nat} {a0 : Scene} {a1 : Net → Option (List Int × Int)} {g1 : Nat} {caps1 : List AV} {r : List (List Int) × Int} (hg1 : FnOK Tryz.prog g1) (ho1 : (AV.fn g1 caps1).only [] = true) (hp1 : ∀ x0 r, a1 x0 = some r → CallOK Tryz.prog g1 ([.agg (Net.cl x0)] ++ caps1) [] (.tup [.lst 1 (r.1.map icl), Ai r.2]) []) (h : f107 K a0 a1 = some r) : CallOK Tryz.prog 107 [.agg (Scene.cl a0), .fn g1 caps1] [] (.tup [.lst 1 (r.1.map cl26), Ai r.2]) [] := by
 refine CallOK.of_tri Tryz.func107 rfl rfl (Nat.le_of_ble_eq_true rfl) ?_
 unfold f107 at h
 refine Tr ?_
 refine Qe 1 rfl ?_
 refine Q1 rfl rfl rfl (v := .lst 1 (([] : List (List Int)).map cl26)) (Ax.nl 1 rfl rfl) ?_
 refine Qd rfl ?_
 refine Tri.seq ?_
 refine Tr ?_
 refine Qe 1 rfl ?_
 obtain ⟨x11, hc, h⟩ := bind_some h
 refine Qc rfl rfl rfl (args := [.agg (Scene.cl a0)]) (r := Ai x11) (calv rfl rfl fnok_66 rfl) (f66_ok hc) rfl ?_
 refine Qd rfl ?_
 refine Tp rfl ?_
 refine Tri.cond (b := (x11 != 0)) rfl (fun hb => ?_) (fun hb => ?_)
 ·have h := cond_t hb h
  refine Tr ?_
  refine Qe 1 rfl ?_
  refine Q1 rfl rfl rfl (v := .lst 1 (([] : List (List Int)).map cl26)) (Ax.nl 1 rfl rfl) ?_
  refine Qd rfl ?_
  refine Tri.ret ?_
  refine Rr (fun r => .tup [.lst 1 (r.1.map cl26), Ai r.2]) (fun r => []) [] h ?_ trivial
  rfl
 ·have h := cond_f hb h
  refine Tri.skip ?_
  refine Tr ?_
  refine Qe 1 rfl ?_
  obtain ⟨x16, hc_1, h⟩ := bind_some h
  refine Qc rfl rfl rfl (args := [.agg (Scene.cl a0)]) (r := .ipt (Laid_basin.cl x16) 0) (calv rfl rfl fnok_102 rfl) (f102_ok hc_1) rfl ?_
  refine Qd rfl ?_
  refine Tr ?_
  refine Qe 2 rfl ?_
  refine Q1 rfl rfl rfl (Ax.nil_ipt rfl rfl) ?_
  refine Qe 2 rfl ?_
  obtain ⟨⟨x23_0, x23_1⟩, hc_2, h⟩ := bind_some h
  refine Qc rfl rfl rfl (args := [.agg (Net.cl x16.net)] ++ caps1) (r := .tup [.lst 1 (x23_0.map icl), Ai x23_1]) (calv rfl rfl hg1 rfl) (hp1 _ _ hc_2) rfl ?_
  refine Qd rfl ?_
  refine Tri.seq ?_
  refine Tp rfl ?_
  refine Tri.cond (b := (x23_1 != 0)) rfl (fun hb_1 => ?_) (fun hb_1 => ?_)
  ·have h := cond_t hb_1 h
   refine Tr ?_
   refine Qe 1 rfl ?_
   refine Q1 rfl rfl rfl (v := .lst 1 (([] : List (List Int)).map cl26)) (Ax.nl 1 rfl rfl) ?_
   refine Qd rfl ?_
   refine Tri.ret ?_
   refine Rr (fun r => .tup [.lst 1 (r.1.map cl26), Ai r.2]) (fun r => []) [] h ?_ trivial
   rfl
  ·have h := cond_f hb_1 h
   refine Tri.skip ?_
   refine Tr ?_
   refine Qe 2 rfl ?_
   obtain ⟨x31, hc_3, h⟩ := bind_some h
   refine Qc rfl rfl rfl (args := [.ipt (Laid_basin.cl x16) 0, .lst 1 (x23_0.map icl)]) (r := .lst 1 (x31.map cl26)) (calv rfl rfl fnok_218 rfl) (f218_ok hc_3) rfl ?_
   refine Qd rfl ?_
   refine Tri.ret ?_
   refine Rr (fun r => .tup [.lst 1 (r.1.map cl26), Ai r.2]) (fun r => []) [] h ?_ trivial
   rfl
theorem f368_ok {K : Nat} {a0 : Int} {a1 : Int} {r : Int × Int} (h : f368 K a0 a1 = some r) : CallOK Tryz.prog 368 [.sc (.int .u64 a0), .sc (.int .u64 a1)] [] (.tup [.sc (.int .u64 r.1), .sc (.int .u64 r.2)]) [] := by
 refine CallOK.of_tri Tryz.func368 rfl rfl (Nat.le_of_ble_eq_true rfl) ?_
 unfold f368 at h
 refine Tp rfl ?_
 refine Tr ?_
 refine Qe 1 rfl ?_
 refine Q1 rfl rfl rfl (v := .sc (.int .u64 (andU a0 4294967295))) (Ax.andu rfl rfl rfl) ?_
 refine Qd rfl ?_
 refine Tr ?_
 refine Qe 1 rfl ?_
 refine Q1 rfl rfl rfl (v := .sc (.int .u64 (shrU a0 32))) (Ax.shr (m := 32) rfl rfl rfl (by decide)) ?_
 refine Qd rfl ?_
 refine Tr ?_
 refine Qe 1 rfl ?_
 refine Q1 rfl rfl rfl (v := .sc (.int .u64 (andU a1 4294967295))) (Ax.andu rfl rfl rfl) ?_
 refine Qd rfl ?_
 refine Tr ?_
 refine Qe 1 rfl ?_
 refine Q1 rfl rfl rfl (v := .sc (.int .u64 (shrU a1 32))) (Ax.shr (m := 32) rfl rfl rfl (by decide)) ?_
 refine Qd rfl ?_
 refine Tp rfl ?_
 refine Tr ?_
 refine Qe 4 rfl ?_
 refine Q1 rfl rfl rfl (v := .sc (.int .u64 (shrU (IntKind.wrap .u64 ((andU a0 4294967295) * (andU a1 4294967295))) 32))) (Ax.shr (m := 32) rfl rfl rfl (by decide)) ?_
 refine Qd rfl ?_
 refine Tr ?_
 refine Qe 1 rfl ?_
 refine Q1 rfl rfl rfl (v := .sc (.int .u64 (andU (IntKind.wrap .u64 ((IntKind.wrap .u64 ((shrU a0 32) * (andU a1 4294967295))) + (shrU (IntKind.wrap .u64 ((andU a0 4294967295) * (andU a1 4294967295))) 32))) 4294967295))) (Ax.andu rfl rfl rfl) ?_
 refine Qd rfl ?_
 refine Tr ?_
 refine Qe 1 rfl ?_
 refine Q1 rfl rfl rfl (v := .sc (.int .u64 (shrU (IntKind.wrap .u64 ((IntKind.wrap .u64 ((shrU a0 32) * (andU a1 4294967295))) + (shrU (IntKind.wrap .u64 ((andU a0 4294967295) * (andU a1 4294967295))) 32))) 32))) (Ax.shr (m := 32) rfl rfl rfl (by decide)) ?_
 refine Qd rfl ?_
 refine Tp rfl ?_
 refine Tr ?_
 refine Qe 6 rfl ?_
 refine Q1 rfl rfl rfl (v := .sc (.int .u64 (shrU (IntKind.wrap .u64 ((andU (IntKind.wrap .u64 ((IntKind.wrap .u64 ((shrU a0 32) * (andU a1 4294967295))) + (shrU (IntKind.wrap .u64 ((andU a0 4294967295) * (andU a1 4294967295))) 32))) 4294967295) + (IntKind.wrap .u64 ((andU a0 4294967295) * (shrU a1 32))))) 32))) (Ax.shr (m := 32) rfl rfl rfl (by decide)) ?_
 refine Qd rfl ?_
 refine Tp rfl ?_
 refine Tri.ret ?_
 refine Rr (fun r => .tup [.sc (.int .u64 r.1), .sc (.int .u64 r.2)]) (fun r => []) [] h ?_ trivial
 rfl
theorem f361_ok {K : Nat} {a0 : Int} {a1 : Int} {r : Int × Int} (h : f361 K a0 a1 = some r) : CallOK Tryz.prog 361 [.sc (.int .u64 a0), .sc (.int .u64 a1)] [] (.tup [.sc (.int .u64 r.1), .sc (.int .u64 r.2)]) [] := by
 refine CallOK.of_tri Tryz.func361 rfl rfl (Nat.le_of_ble_eq_true rfl) ?_
 unfold f361 at h
 refine Tp rfl ?_
 refine Tri.seq ?_
 refine Tri.cond_f rfl ?_
 refine Tri.skip ?_
 refine Tr ?_
 refine Qe 2 rfl ?_
 obtain ⟨⟨x25_0, x25_1⟩, hc, h⟩ := bind_some h
 refine Qc rfl rfl rfl (args := [.sc (.int .u64 a0), .sc (.int .u64 a1)]) (r := .tup [.sc (.int .u64 x25_0), .sc (.int .u64 x25_1)]) (calv rfl rfl fnok_368 rfl) (f368_ok hc) rfl ?_
 refine Qd rfl ?_
 refine Tp rfl ?_
 refine Tri.ret ?_
 refine Rr (fun r => .tup [.sc (.int .u64 r.1), .sc (.int .u64 r.2)]) (fun r => []) [] h ?_ trivial
 rfl
end Go.Proofs.YthlchdnbokhclaaGreat.Ql

import Derived.Test.YthlchdnbokhclaaGreatQt
import Derived.Test.YthlchdnbokhclaaGreatQg3
import Derived.Test.YthlchdnbokhclaaGreatQg2
import Derived.Test.YthlchdnbokhclaaGreatQg1
set_option linter.all false
namespace Go.Proofs.YthlchdnbokhclaaGreat.Ql
open Go Go.Proofs
set_option maxRecDepth 100000
set_option maxHeartbeats 0
theorem f341_ok {K : Nat} {a0 : Use_diffs} {a1 : Int} {a2 : List Int} {r : Bool × Use_diffs × List Int} (h : f341 K a0 a1 a2 = some r) : CallOK Tryz.prog 341 [.ptr 80307000 0, Ai a1, .hnd 20260200] [(80307003, .arr 3 1 (a0.flow.map icl)), (80307004, .arr 3 1 (a0.want.map icl)), (80307000, .box [Ai a0.Net.Nodes, .lst 3 (a0.Net.Diffs.map Diff.cl), .hnd 80307003, .hnd 80307004]), (20260200, .arr 3 1 (a2.map icl))] (Ab r.1) [(80307003, .arr 3 1 (r.2.1.flow.map icl)), (80307004, .arr 3 1 (r.2.1.want.map icl)), (80307000, .box [Ai r.2.1.Net.Nodes, .lst 3 (r.2.1.Net.Diffs.map Diff.cl), .hnd 80307003, .hnd 80307004]), (20260200, .arr 3 1 (r.2.2.map icl))] := by
 refine CallOK.of_tri Tryz.func341 rfl rfl (Nat.le_of_ble_eq_true rfl) ?_
 unfold f341 at h
 refine Tp rfl ?_
 refine Tr ?_
 refine Qe 1 rfl ?_
 obtain ⟨x19, hc, h⟩ := bind_some h
 refine Qlf [80307000, 80307003, 80307004] [(3605000, .arr 174 3 (x19.map Diff.cl))] [3605000] rfl rfl rfl (args := [.ptr 80307000 0]) (args' := [.ipt (Use_diffs.cl a0) 0]) (r := .hnd 3605000) (calv rfl rfl fnok_359 rfl) ⟨.ptrV (List.Mem.head _) rfl ⟨.imm rfl, .imm rfl, .hnd (List.Mem.tail _ (List.Mem.head _)) rfl (im_flat icl_im a0.flow), .hnd (List.Mem.tail _ (List.Mem.tail _ (List.Mem.head _))) rfl (im_flat icl_im a0.want), trivial⟩, trivial⟩ (f359_fr hc) rfl rfl rfl (by first | rfl | (simp only [List.all_cons, List.all_nil, AO.solid, Bool.and_true, Bool.and_self, solid_flat (cl := Diff.cl) (fun _ => rfl)])) rfl rfl rfl rfl ?_
 refine Qe 1 rfl ?_
 obtain ⟨x21, hc_1, h⟩ := bind_some h
 refine Qlf [80307000, 80307003, 80307004] [(3615000, .arr 3 1 (x21.map icl))] [3615000] rfl rfl rfl (args := [.ptr 80307000 0]) (args' := [.ipt (Use_diffs.cl a0) 0]) (r := .hnd 3615000) (calv rfl rfl fnok_360 rfl) ⟨.ptrV (List.Mem.head _) rfl ⟨.imm rfl, .imm rfl, .hnd (List.Mem.tail _ (List.Mem.head _)) rfl (im_flat icl_im a0.flow), .hnd (List.Mem.tail _ (List.Mem.tail _ (List.Mem.head _))) rfl (im_flat icl_im a0.want), trivial⟩, trivial⟩ (f360_fr hc_1) rfl rfl rfl (by first | rfl | (simp only [List.all_cons, List.all_nil, AO.solid, Bool.and_true, Bool.and_self, solid_flat (cl := icl) (fun _ => rfl)])) rfl rfl rfl rfl ?_
 refine Qd rfl ?_
 refine Tr ?_
 refine Qe 1 rfl ?_
 refine Q1 rfl rfl rfl (v := .ifc 302 (.ptr 80307000 0)) (Ax.ifc' rfl nif_302 rfl) ?_
 refine Qe 1 rfl ?_
 obtain ⟨⟨x26_0, x26_1⟩, hc_2, h⟩ := bind_some h
 refine Qlf [80307000, 80307003, 80307004, 20260200] [(3125001, .arr 3 1 (x26_0.long.map icl)), (3125002, .arr 4 1 (x26_0.has.map bcl)), (3125003, .arr 3 1 (x26_0.last.map icl))] [3125001, 3125002, 3125003] rfl rfl rfl (args := [.ifc 302 (.ptr 80307000 0), .hnd 20260200]) (args' := [.ifc 302 (.fz (.ipt (Use_diffs.cl a0) 0)), .lst 1 (a2.map icl)]) (r := .tup [.agg [.hnd 3125001, .hnd 3125002, .hnd 3125003], Ai x26_1]) (calv rfl rfl fnok_311 rfl) ⟨.ifc (.fz (.ptrV (List.Mem.head _) rfl ⟨.imm rfl, .imm rfl, .hnd (List.Mem.tail _ (List.Mem.head _)) rfl (im_flat icl_im a0.flow), .hnd (List.Mem.tail _ (List.Mem.tail _ (List.Mem.head _))) rfl (im_flat icl_im a0.want), trivial⟩)), .hnd (List.Mem.tail _ (List.Mem.tail _ (List.Mem.tail _ (List.Mem.head _)))) rfl (im_flat icl_im a2), trivial⟩ (f311_fr ⟨⟨359, fnok_359, meth_302_359, fun _ hr => (f359_ok (K := K) hr).fz1⟩, ⟨385, fnok_385, meth_302_385, fun _ hr => (f385_ok (K := K) hr).fz1⟩, rfl, rfl⟩ hc_2) rfl rfl rfl (by first | rfl | (simp only [List.all_cons, List.all_nil, AO.solid, Bool.and_true, Bool.and_self, solid_flat (cl := icl) (fun _ => rfl), solid_flat (cl := bcl) (fun _ => rfl), solid_flat (cl := icl) (fun _ => rfl)])) rfl rfl rfl rfl ?_
 refine Qe 3 rfl ?_
 refine Qn rfl rfl rfl (v := .ptr 9 0) (x := some (.box (Tree_diffs.cl (⟨([] : List Int), ([] : List Bool), ([] : List Int)⟩ : Tree_diffs)))) (Ax.alloc rfl rfl zer_318 rfl ⟨Sub.nil _, Sub.nil _, Sub.nil _, trivial⟩) rfl rfl rfl rfl rfl ?_
 refine Qs rfl rfl (x := some (.box [.hnd 3125001, .hnd 3125002, .hnd 3125003])) (Ax.st_box rfl siz_318 rfl rfl rfl rfl rfl rfl rfl) ?_
 refine Qd rfl ?_
 refine Tri.seq ?_
 refine Tr ?_
 refine Qe 3 rfl ?_
 obtain ⟨y, hy, h⟩ := bind_some h
 refine Q1 rfl rfl rfl (Ax.ixh (cl := bcl) rfl slc_191 rfl rfl rfl hy) ?_
 refine Q1 rfl rfl rfl (Ax.l1_arr (cl := bcl) rfl siz_4 rfl rfl hy rfl) ?_
 refine Qd rfl ?_
 refine Tri.cond (b := (!y)) rfl (fun hb => ?_) (fun hb => ?_)
 ·have h := cond_t hb h
  refine Tp rfl ?_
  refine Tri.ret ?_
  refine Rr (fun r => Ab r.1) (fun r => [(80307003, .arr 3 1 (r.2.1.flow.map icl)), (80307004, .arr 3 1 (r.2.1.want.map icl)), (80307000, .box [Ai r.2.1.Net.Nodes, .lst 3 (r.2.1.Net.Diffs.map Diff.cl), .hnd 80307003, .hnd 80307004]), (20260200, .arr 3 1 (r.2.2.map icl))]) [80307003, 80307004, 80307000, 20260200] h ?_ ?_
  ·rfl
  exact ⟨imf icl_im, imf icl_im, imf icl_im, trivial⟩
 ·have h := cond_f hb h
  refine Tri.skip ?_
  refine Tr ?_
  refine Qn rfl rfl rfl (v := .hnd 11) (x := some (.arr 3 1 (([] : List Int).map icl))) (Ax.nil_new 3 1 (.inr rfl) rfl) rfl rfl rfl rfl rfl ?_
  refine RunD.done ?_
  refine Tp rfl ?_
  refine Tri.seq ?_
  obtain ⟨⟨vo11_1, v12_1⟩, hj, h⟩ := bind_some h
  refine Tri.whlv hj (fun p => ⟨[(0, .ptr 80307000 0), (1, Ai a1), (7, .hnd 3605000), (8, .hnd 3615000), (9, .ptr 9 0), (11, .hnd 11), (12, Ai p.2)], [(80307003, some (.arr 3 1 (a0.flow.map icl))), (80307004, some (.arr 3 1 (a0.want.map icl))), (80307000, some (.box [Ai a0.Net.Nodes, .lst 3 (a0.Net.Diffs.map Diff.cl), .hnd 80307003, .hnd 80307004])), (3605000, some (.arr 174 3 (x19.map Diff.cl))), (3615000, some (.arr 3 1 (x21.map icl))), (3125001, some (.arr 3 1 (x26_0.long.map icl))), (3125002, some (.arr 4 1 (x26_0.has.map bcl))), (3125003, some (.arr 3 1 (x26_0.last.map icl))), (9, some (.box [.hnd 3125001, .hnd 3125002, .hnd 3125003])), (11, some (.arr 3 1 (p.1.map icl))), (20260200, some (.arr 3 1 (a2.map icl)))]⟩) (fun (y : List Int × Int) => ⟨[(0, .ptr 80307000 0), (1, Ai a1), (8, .hnd 3615000), (11, .hnd 11), (12, Ai y.2)], [(80307003, some (.arr 3 1 (a0.flow.map icl))), (80307004, some (.arr 3 1 (a0.want.map icl))), (80307000, some (.box [Ai a0.Net.Nodes, .lst 3 (a0.Net.Diffs.map Diff.cl), .hnd 80307003, .hnd 80307004])), (3615000, some (.arr 3 1 (x21.map icl))), (11, some (.arr 3 1 (y.1.map icl))), (20260200, some (.arr 3 1 (a2.map icl)))]⟩) (Ee [80307003, 80307004, 80307000, 3605000, 3615000, 3125001, 3125002, 3125003, 9, 11, 20260200] rfl ⟨imf icl_im, imf icl_im, imf Diff_im, imf icl_im, imf icl_im, imf bcl_im, imf icl_im, im_flat icl_im ([] : List Int), imf icl_im, trivial⟩) ?_ ?_
  ·refine Tp rfl ?_
   refine Tri.seq ?_
   refine Tp rfl ?_
   obtain ⟨v13, hj_8, h⟩ := bind_some h
   refine Tri.joinv v13 (fun (y : Int) => ⟨[(0, .ptr 80307000 0), (1, Ai a1), (8, .hnd 3615000), (11, .hnd 11), (12, Ai v12_1), (13, Ai y)], [(80307003, some (.arr 3 1 (a0.flow.map icl))), (80307004, some (.arr 3 1 (a0.want.map icl))), (80307000, some (.box [Ai a0.Net.Nodes, .lst 3 (a0.Net.Diffs.map Diff.cl), .hnd 80307003, .hnd 80307004])), (3615000, some (.arr 3 1 (x21.map icl))), (11, some (.arr 3 1 (vo11_1.map icl))), (20260200, some (.arr 3 1 (a2.map icl)))]⟩) ?_ ?_
   ·refine Tri.seq ?_
    refine Tp rfl ?_
    obtain ⟨v13_1, hj_7, h⟩ := bind_some h
    refine Tri.joinv v13_1 (fun (y : Int) => ⟨[(0, .ptr 80307000 0), (1, Ai a1), (8, .hnd 3615000), (11, .hnd 11), (12, Ai v12_1), (13, Ai y)], [(80307003, some (.arr 3 1 (a0.flow.map icl))), (80307004, some (.arr 3 1 (a0.want.map icl))), (80307000, some (.box [Ai a0.Net.Nodes, .lst 3 (a0.Net.Diffs.map Diff.cl), .hnd 80307003, .hnd 80307004])), (3615000, some (.arr 3 1 (x21.map icl))), (11, some (.arr 3 1 (vo11_1.map icl))), (20260200, some (.arr 3 1 (a2.map icl)))]⟩) ?_ ?_
    ·refine Tri.seq ?_
     refine Tr ?_
     refine Qe 1 rfl ?_
     refine Q1 rfl rfl rfl (Ax.lnh (cl := icl) rfl slc_26 rfl rfl) ?_
     refine Qd rfl ?_
     obtain ⟨v13_3, hj_1, h⟩ := bind_some h
     refine Tri.rngLv hj_1 (fun p => ⟨[(0, .ptr 80307000 0), (1, Ai a1), (8, .hnd 3615000), (11, .hnd 11), (12, Ai v12_1), (13, Ai p.2), (80, .hnd 11), (81, Ai (vo11_1.length : Int)), (82, Ai p.1)], [(80307003, some (.arr 3 1 (a0.flow.map icl))), (80307004, some (.arr 3 1 (a0.want.map icl))), (80307000, some (.box [Ai a0.Net.Nodes, .lst 3 (a0.Net.Diffs.map Diff.cl), .hnd 80307003, .hnd 80307004])), (3615000, some (.arr 3 1 (x21.map icl))), (11, some (.arr 3 1 (vo11_1.map icl))), (20260200, some (.arr 3 1 (a2.map icl)))]⟩) (fun (y : Int) => ⟨[(0, .ptr 80307000 0), (1, Ai a1), (8, .hnd 3615000), (11, .hnd 11), (12, Ai v12_1), (13, Ai y)], [(80307003, some (.arr 3 1 (a0.flow.map icl))), (80307004, some (.arr 3 1 (a0.want.map icl))), (80307000, some (.box [Ai a0.Net.Nodes, .lst 3 (a0.Net.Diffs.map Diff.cl), .hnd 80307003, .hnd 80307004])), (3615000, some (.arr 3 1 (x21.map icl))), (11, some (.arr 3 1 (vo11_1.map icl))), (20260200, some (.arr 3 1 (a2.map icl)))]⟩) (Ee [80307003, 80307004, 80307000, 3615000, 11, 20260200] rfl ⟨imf icl_im, imf icl_im, imf icl_im, imf icl_im, imf icl_im, trivial⟩) ?_ ?_ ?_
     ·refine Tri.seq ?_
      refine Tr ?_
      refine Qe 1 rfl ?_
      refine Q1 rfl rfl rfl (Ax.lnh (cl := icl) rfl slc_26 rfl rfl) ?_
      refine Qd rfl ?_
      obtain ⟨voo0_2_1, hj_2, h⟩ := bind_some h
      refine Tri.rngLv hj_2 (fun p => ⟨[(0, .ptr 80307000 0), (1, Ai a1), (8, .hnd 3615000), (12, Ai v12_1), (13, Ai v13_3), (114, .hnd 11), (115, Ai (vo11_1.length : Int)), (116, Ai p.1)], [(80307003, some (.arr 3 1 (p.2.map icl))), (80307004, some (.arr 3 1 (a0.want.map icl))), (80307000, some (.box [Ai a0.Net.Nodes, .lst 3 (a0.Net.Diffs.map Diff.cl), .hnd 80307003, .hnd 80307004])), (3615000, some (.arr 3 1 (x21.map icl))), (11, some (.arr 3 1 (vo11_1.map icl))), (20260200, some (.arr 3 1 (a2.map icl)))]⟩) (fun (y : List Int) => ⟨[(0, .ptr 80307000 0), (1, Ai a1), (12, Ai v12_1), (13, Ai v13_3)], [(80307003, some (.arr 3 1 (y.map icl))), (80307004, some (.arr 3 1 (a0.want.map icl))), (80307000, some (.box [Ai a0.Net.Nodes, .lst 3 (a0.Net.Diffs.map Diff.cl), .hnd 80307003, .hnd 80307004])), (20260200, some (.arr 3 1 (a2.map icl)))]⟩) (Ee [80307003, 80307004, 80307000, 3615000, 11, 20260200] rfl ⟨imf icl_im, imf icl_im, imf icl_im, imf icl_im, imf icl_im, trivial⟩) ?_ ?_ ?_
      ·refine Tri.seq ?_
       refine Tp rfl ?_
       obtain ⟨voo0_3, hj_4, h⟩ := bind_some h
       refine Tri.joinv voo0_3 (fun (y : List Int) => ⟨[(0, .ptr 80307000 0), (12, Ai v12_1), (13, Ai v13_3)], [(80307003, some (.arr 3 1 (voo0_2_1.map icl))), (80307004, some (.arr 3 1 (y.map icl))), (80307000, some (.box [Ai a0.Net.Nodes, .lst 3 (a0.Net.Diffs.map Diff.cl), .hnd 80307003, .hnd 80307004])), (20260200, some (.arr 3 1 (a2.map icl)))]⟩) ?_ ?_
       ·refine Tri.seq ?_
        refine Tp rfl ?_
        obtain ⟨vook0_3, hj_3, h⟩ := bind_some h
        refine Tri.joinv vook0_3 (fun (y : List Int) => ⟨[], [(80307003, some (.arr 3 1 (voo0_2_1.map icl))), (80307004, some (.arr 3 1 (y.map icl))), (80307000, some (.box [Ai a0.Net.Nodes, .lst 3 (a0.Net.Diffs.map Diff.cl), .hnd 80307003, .hnd 80307004])), (20260200, some (.arr 3 1 (a2.map icl)))]⟩) ?_ ?_
        ·refine Tp rfl ?_
         refine Tri.ret ?_
         refine Rr (fun r => Ab r.1) (fun r => [(80307003, .arr 3 1 (r.2.1.flow.map icl)), (80307004, .arr 3 1 (r.2.1.want.map icl)), (80307000, .box [Ai r.2.1.Net.Nodes, .lst 3 (r.2.1.Net.Diffs.map Diff.cl), .hnd 80307003, .hnd 80307004]), (20260200, .arr 3 1 (r.2.2.map icl))]) [80307003, 80307004, 80307000, 20260200] h ?_ ?_
         ·rfl
         exact ⟨imf icl_im, imf icl_im, imf icl_im, trivial⟩
        ·have h := hj_3
         refine Tri.cond (b := (v12_1 != 0)) rfl (fun hb_1 => ?_) (fun hb_1 => ?_)
         ·have h := cond_t hb_1 h
          refine Tri.region ?_
          refine Qe 1 rfl ?_
          refine Q1 rfl rfl rfl (Ax.nil_ptr rfl rfl rfl) ?_
          refine Qe 3 rfl ?_
          obtain ⟨y_1, hy_1, h⟩ := bind_some h
          refine Q1 rfl rfl rfl (Ax.ixh (cl := icl) rfl slc_26 rfl rfl rfl hy_1) ?_
          refine Q1 rfl rfl rfl (Ax.l1_arr (cl := icl) rfl siz_3 rfl rfl hy_1 rfl) ?_
          refine Qe 2 rfl ?_
          refine Q1 rfl rfl rfl (Ax.ixh (cl := icl) rfl slc_26 rfl rfl rfl hy_1) ?_
          refine Qs rfl rfl (x := some (.arr 3 1 ((voo0_3.set (Int.toNat v12_1) (W (y_1 + v13_3))).map icl))) (Ax.st_arr (cl := icl) (q := (W (y_1 + v13_3))) rfl siz_3 rfl rfl hy_1 rfl rfl rfl rfl rfl rfl) ?_
          refine RunD.done ?_
          exact Exists.intro (voo0_3.set (Int.toNat v12_1) (W (y_1 + v13_3))) (And.intro h (Ee [80307003, 80307004, 80307000, 20260200] rfl ⟨imf icl_im, imf icl_im, imf icl_im, trivial⟩))
         ·have h := cond_f hb_1 h
          refine Tri.skip ?_
          exact Exists.intro voo0_3 (And.intro h (Ee [80307003, 80307004, 80307000, 20260200] rfl ⟨imf icl_im, imf icl_im, imf icl_im, trivial⟩))
       ·have h := hj_4
        refine Tri.cond (b := (a1 != 0)) rfl (fun hb_2 => ?_) (fun hb_2 => ?_)
        ·have h := cond_t hb_2 h
         refine Tri.region ?_
         refine Qe 1 rfl ?_
         refine Q1 rfl rfl rfl (Ax.nil_ptr rfl rfl rfl) ?_
         refine Qe 3 rfl ?_
         obtain ⟨y_2, hy_2, h⟩ := bind_some h
         refine Q1 rfl rfl rfl (Ax.ixh (cl := icl) rfl slc_26 rfl rfl rfl hy_2) ?_
         refine Q1 rfl rfl rfl (Ax.l1_arr (cl := icl) rfl siz_3 rfl rfl hy_2 rfl) ?_
         refine Qe 2 rfl ?_
         refine Q1 rfl rfl rfl (Ax.ixh (cl := icl) rfl slc_26 rfl rfl rfl hy_2) ?_
         refine Qs rfl rfl (x := some (.arr 3 1 ((a0.want.set (Int.toNat a1) (W (y_2 - v13_3))).map icl))) (Ax.st_arr (cl := icl) (q := (W (y_2 - v13_3))) rfl siz_3 rfl rfl hy_2 rfl rfl rfl rfl rfl rfl) ?_
         refine RunD.done ?_
         exact Exists.intro (a0.want.set (Int.toNat a1) (W (y_2 - v13_3))) (And.intro h (Ee [80307003, 80307004, 80307000, 20260200] rfl ⟨imf icl_im, imf icl_im, imf icl_im, trivial⟩))
        ·have h := cond_f hb_2 h
         refine Tri.skip ?_
         exact Exists.intro a0.want (And.intro h (Ee [80307003, 80307004, 80307000, 20260200] rfl ⟨imf icl_im, imf icl_im, imf icl_im, trivial⟩))
      ·rintro v116 voo0_2 hi_2 h
       refine Tp rfl ?_
       refine Tri.seq ?_
       refine Tri.cond (b := (decide (v116 < (vo11_1.length : Int)))) rfl (fun hb_3 => ?_) (fun hb_3 => ?_)
       ·exact (lt_f hi_2 hb_3).elim
       ·refine Tri.exit ?_
        exact Exists.intro voo0_2 (And.intro h (Ee [80307003, 80307004, 80307000, 20260200] rfl ⟨imf icl_im, imf icl_im, imf icl_im, trivial⟩))
      ·rintro nx_2 x_1 v116 voo0_2 _ hi_2 hw_2 hx_1 h
       refine Tp rfl ?_
       refine Tri.seq ?_
       refine Tri.cond (b := (decide (v116 < (vo11_1.length : Int)))) rfl (fun hb_4 => ?_) (fun hb_4 => ?_)
       ·refine Tri.skip ?_
        refine Tri.seq ?_
        refine Tri.block ?_
        refine Tr ?_
        refine Q1 rfl rfl rfl (Ax.ixh (cl := icl) rfl slc_26 rfl rfl rfl hx_1) ?_
        refine Q1 rfl rfl rfl (Ax.l1_arr (cl := icl) rfl siz_3 rfl rfl hx_1 rfl) ?_
        refine Qd rfl ?_
        refine Tr ?_
        refine Qe 2 rfl ?_
        refine Q1 rfl rfl rfl (Ax.nil_ptr rfl rfl rfl) ?_
        refine Qe 3 rfl ?_
        refine Q1 rfl rfl rfl (Ax.ln (cl := Diff.cl) rfl slc_32 rfl) ?_
        refine Qd rfl ?_
        obtain ⟨voo0_2_2, hj_5, h⟩ := bind_some h
        refine Tri.joinv voo0_2_2 (fun (y : List Int) => ⟨[(0, .ptr 80307000 0), (1, Ai a1), (8, .hnd 3615000), (12, Ai v12_1), (13, Ai v13_3), (114, .hnd 11), (115, Ai (vo11_1.length : Int)), (116, Ai v116)], [(80307003, some (.arr 3 1 (y.map icl))), (80307004, some (.arr 3 1 (a0.want.map icl))), (80307000, some (.box [Ai a0.Net.Nodes, .lst 3 (a0.Net.Diffs.map Diff.cl), .hnd 80307003, .hnd 80307004])), (3615000, some (.arr 3 1 (x21.map icl))), (11, some (.arr 3 1 (vo11_1.map icl))), (20260200, some (.arr 3 1 (a2.map icl)))]⟩) ?_ ?_
        ·refine Tq rfl ?_
         exact Exists.intro (v116 + 1, voo0_2_2) (And.intro (And.intro rfl h) (Es [80307003, 80307004, 80307000, 3615000, 11, 20260200] [116] rfl ⟨imf icl_im, imf icl_im, imf icl_im, imf icl_im, imf icl_im, trivial⟩ ⟨.imm (Sub.of_eq (show Ai (v116 + 1) = Ai (W (v116 + 1)) from congrArg Ai hw_2.symm)) rfl, trivial⟩))
        ·have h := hj_5
         refine Tri.cond (b := (decide (x_1 ≥ (a0.Net.Diffs.length : Int)))) rfl (fun hb_5 => ?_) (fun hb_5 => ?_)
         ·have h := cond_t hb_5 h
          refine Tri.drawn [[], [0], [0, 1], [0, 1, 2], [], [], [], [6], [6, 7], [6, 7, 8], [6, 7, 8, 9], [6, 7, 8, 9, 10], [5, 6, 7, 8, 9, 10, 11], [4, 5, 6, 7, 8, 9, 10, 11, 12], [4, 5, 6, 7, 8, 9, 10, 11, 12, 13], [0, 1, 2, 3, 4, 5, 6, 7, 8, 9, 10, 11, 12, 13, 14], [0, 1, 2, 3, 4, 5, 6, 7, 8, 9, 10, 11, 12, 13, 14, 15], [], [0, 1, 2, 3, 4, 5, 6, 7, 8, 9, 10, 11, 12, 13, 14, 15, 16, 17], [0, 1, 2, 3, 4, 5, 6, 7, 8, 9, 10, 11, 12, 13, 14, 15, 16, 17, 18], [0, 1, 2, 3, 4, 5, 6, 7, 8, 9, 10, 11, 12, 13, 14, 15, 16, 17, 18, 19]] hmix (by kernel_rfl) ?_
          refine Qe 1 rfl ?_
          refine Q1 rfl rfl rfl (Ax.nil_ptr rfl rfl rfl) ?_
          refine Qe 5 rfl ?_
          refine Q1 rfl rfl rfl (Ax.nil_ptr rfl rfl rfl) ?_
          refine Qe 3 rfl ?_
          refine Q1 rfl rfl rfl (Ax.ln (cl := Diff.cl) rfl slc_32 rfl) ?_
          refine Qe 1 rfl ?_
          obtain ⟨y_3, hy_3, h⟩ := bind_some h
          refine Q1 rfl rfl rfl (Ax.ixh (cl := icl) rfl slc_26 rfl rfl rfl hy_3) ?_
          refine Q1 rfl rfl rfl (Ax.l1_arr (cl := icl) rfl siz_3 rfl rfl hy_3 rfl) ?_
          obtain ⟨y_4, hy_4, h⟩ := bind_some h
          refine Q1 rfl rfl rfl (Ax.ixh (cl := icl) rfl slc_26 rfl rfl rfl hy_4) ?_
          refine Q1 rfl rfl rfl (Ax.l1_arr (cl := icl) rfl siz_3 rfl rfl hy_4 rfl) ?_
          refine Qe 2 rfl ?_
          refine Q1 rfl rfl rfl (Ax.ixh (cl := icl) rfl slc_26 rfl rfl rfl hy_4) ?_
          refine Qs rfl rfl (x := some (.arr 3 1 ((voo0_2.set (Int.toNat y_3) (W (y_4 - v13_3))).map icl))) (Ax.st_arr (cl := icl) (q := (W (y_4 - v13_3))) rfl siz_3 rfl rfl hy_4 rfl rfl rfl rfl rfl rfl) ?_
          refine RunD.done ⟨by kernel_rfl, freshL_of [] (by kernel_rfl) (by kernel_rfl), ?_⟩
          exact Exists.intro (voo0_2.set (Int.toNat y_3) (W (y_4 - v13_3))) (And.intro h (Ee [80307003, 80307004, 80307000, 3615000, 11, 20260200] rfl ⟨imf icl_im, imf icl_im, imf icl_im, imf icl_im, imf icl_im, trivial⟩))
         ·have h := cond_f hb_5 h
          refine Tri.region ?_
          refine Qe 1 rfl ?_
          refine Q1 rfl rfl rfl (Ax.nil_ptr rfl rfl rfl) ?_
          refine Qe 3 rfl ?_
          obtain ⟨y_5, hy_5, h⟩ := bind_some h
          refine Q1 rfl rfl rfl (Ax.ixh (cl := icl) rfl slc_26 rfl rfl rfl hy_5) ?_
          refine Q1 rfl rfl rfl (Ax.l1_arr (cl := icl) rfl siz_3 rfl rfl hy_5 rfl) ?_
          refine Qe 2 rfl ?_
          refine Q1 rfl rfl rfl (Ax.ixh (cl := icl) rfl slc_26 rfl rfl rfl hy_5) ?_
          refine Qs rfl rfl (x := some (.arr 3 1 ((voo0_2.set (Int.toNat x_1) (W (y_5 + v13_3))).map icl))) (Ax.st_arr (cl := icl) (q := (W (y_5 + v13_3))) rfl siz_3 rfl rfl hy_5 rfl rfl rfl rfl rfl rfl) ?_
          refine RunD.done ?_
          exact Exists.intro (voo0_2.set (Int.toNat x_1) (W (y_5 + v13_3))) (And.intro h (Ee [80307003, 80307004, 80307000, 3615000, 11, 20260200] rfl ⟨imf icl_im, imf icl_im, imf icl_im, imf icl_im, imf icl_im, trivial⟩))
       ·exact (lt_t hi_2 hb_4).elim
     ·rintro v82 v13_2 hi_1 h
      refine Tp rfl ?_
      refine Tri.seq ?_
      refine Tri.cond (b := (decide (v82 < (vo11_1.length : Int)))) rfl (fun hb_6 => ?_) (fun hb_6 => ?_)
      ·exact (lt_f hi_1 hb_6).elim
      ·refine Tri.exit ?_
       exact Exists.intro v13_2 (And.intro h (Ee [80307003, 80307004, 80307000, 3615000, 11, 20260200] rfl ⟨imf icl_im, imf icl_im, imf icl_im, imf icl_im, imf icl_im, trivial⟩))
     ·rintro nx_1 x v82 v13_2 _ hi_1 hw_1 hx h
      refine Tp rfl ?_
      refine Tri.seq ?_
      refine Tri.cond (b := (decide (v82 < (vo11_1.length : Int)))) rfl (fun hb_7 => ?_) (fun hb_7 => ?_)
      ·refine Tri.skip ?_
       refine Tri.seq ?_
       refine Tri.block ?_
       refine Tr ?_
       refine Q1 rfl rfl rfl (Ax.ixh (cl := icl) rfl slc_26 rfl rfl rfl hx) ?_
       refine Q1 rfl rfl rfl (Ax.l1_arr (cl := icl) rfl siz_3 rfl rfl hx rfl) ?_
       refine Qd rfl ?_
       refine Tr ?_
       refine Qe 2 rfl ?_
       refine Q1 rfl rfl rfl (Ax.nil_ptr rfl rfl rfl) ?_
       refine Qe 3 rfl ?_
       refine Q1 rfl rfl rfl (Ax.ln (cl := Diff.cl) rfl slc_32 rfl) ?_
       refine Qd rfl ?_
       obtain ⟨v13_4, hj_6, h⟩ := bind_some h
       refine Tri.joinv v13_4 (fun (y : Int) => ⟨[(0, .ptr 80307000 0), (1, Ai a1), (8, .hnd 3615000), (11, .hnd 11), (12, Ai v12_1), (13, Ai y), (80, .hnd 11), (81, Ai (vo11_1.length : Int)), (82, Ai v82)], [(80307003, some (.arr 3 1 (a0.flow.map icl))), (80307004, some (.arr 3 1 (a0.want.map icl))), (80307000, some (.box [Ai a0.Net.Nodes, .lst 3 (a0.Net.Diffs.map Diff.cl), .hnd 80307003, .hnd 80307004])), (3615000, some (.arr 3 1 (x21.map icl))), (11, some (.arr 3 1 (vo11_1.map icl))), (20260200, some (.arr 3 1 (a2.map icl)))]⟩) ?_ ?_
       ·refine Tq rfl ?_
        exact Exists.intro (v82 + 1, v13_4) (And.intro (And.intro rfl h) (Es [80307003, 80307004, 80307000, 3615000, 11, 20260200] [82] rfl ⟨imf icl_im, imf icl_im, imf icl_im, imf icl_im, imf icl_im, trivial⟩ ⟨.imm (Sub.of_eq (show Ai (v82 + 1) = Ai (W (v82 + 1)) from congrArg Ai hw_1.symm)) rfl, trivial⟩))
       ·have h := hj_6
        refine Tri.cond (b := (decide (x ≥ (a0.Net.Diffs.length : Int)))) rfl (fun hb_8 => ?_) (fun hb_8 => ?_)
        ·have h := cond_t hb_8 h
         refine Tri.drawn [[], [], [1], [1, 2], [1, 2, 3], [], [], [], [7], [7, 8], [7, 8, 9], [7, 8, 9, 10], [7, 8, 9, 10, 11], [6, 7, 8, 9, 10, 11, 12], [5, 6, 7, 8, 9, 10, 11, 12, 13], [5, 6, 7, 8, 9, 10, 11, 12, 13, 14], [1, 2, 3, 4, 5, 6, 7, 8, 9, 10, 11, 12, 13, 14, 15], [1, 2, 3, 4, 5, 6, 7, 8, 9, 10, 11, 12, 13, 14, 15, 16], [0, 1, 2, 3, 4, 5, 6, 7, 8, 9, 10, 11, 12, 13, 14, 15, 16, 17], []] hmix (by kernel_rfl) ?_
         refine Qe 2 rfl ?_
         refine Q1 rfl rfl rfl (Ax.nil_ptr rfl rfl rfl) ?_
         refine Qe 5 rfl ?_
         refine Q1 rfl rfl rfl (Ax.nil_ptr rfl rfl rfl) ?_
         refine Qe 3 rfl ?_
         refine Q1 rfl rfl rfl (Ax.ln (cl := Diff.cl) rfl slc_32 rfl) ?_
         refine Qe 1 rfl ?_
         obtain ⟨y_6, hy_6, h⟩ := bind_some h
         refine Q1 rfl rfl rfl (Ax.ixh (cl := icl) rfl slc_26 rfl rfl rfl hy_6) ?_
         refine Q1 rfl rfl rfl (Ax.l1_arr (cl := icl) rfl siz_3 rfl rfl hy_6 rfl) ?_
         obtain ⟨y_7, hy_7, h⟩ := bind_some h
         refine Q1 rfl rfl rfl (Ax.ixh (cl := icl) rfl slc_26 rfl rfl rfl hy_7) ?_
         refine Q1 rfl rfl rfl (Ax.l1_arr (cl := icl) rfl siz_3 rfl rfl hy_7 rfl) ?_
         refine Q1 rfl rfl rfl (v := Ai (if y_7 < v13_2 then y_7 else v13_2)) (Ax.min rfl rfl rfl) ?_
         refine Qe 1 rfl ?_
         refine RunD.done ⟨by kernel_rfl, freshL_of [] (by kernel_rfl) (by kernel_rfl), ?_⟩
         exact Exists.intro (if y_7 < v13_2 then y_7 else v13_2) (And.intro h (Ee [80307003, 80307004, 80307000, 3615000, 11, 20260200] rfl ⟨imf icl_im, imf icl_im, imf icl_im, imf icl_im, imf icl_im, trivial⟩))
        ·have h := cond_f hb_8 h
         refine Tri.skip ?_
         exact Exists.intro v13_2 (And.intro h (Ee [80307003, 80307004, 80307000, 3615000, 11, 20260200] rfl ⟨imf icl_im, imf icl_im, imf icl_im, imf icl_im, imf icl_im, trivial⟩))
      ·exact (lt_t hi_1 hb_7).elim
    ·have h := hj_7
     refine Tri.cond (b := (v12_1 != 0)) rfl (fun hb_9 => ?_) (fun hb_9 => ?_)
     ·have h := cond_t hb_9 h
      refine Tri.region ?_
      refine Qe 2 rfl ?_
      refine Q1 rfl rfl rfl (Ax.nil_ptr rfl rfl rfl) ?_
      refine Qe 3 rfl ?_
      obtain ⟨y_8, hy_8, h⟩ := bind_some h
      refine Q1 rfl rfl rfl (Ax.ixh (cl := icl) rfl slc_26 rfl rfl rfl hy_8) ?_
      refine Q1 rfl rfl rfl (Ax.l1_arr (cl := icl) rfl siz_3 rfl rfl hy_8 rfl) ?_
      refine Qe 1 rfl ?_
      refine Q1 rfl rfl rfl (v := Ai (if (W (-y_8)) < v13 then (W (-y_8)) else v13)) (Ax.min rfl rfl rfl) ?_
      refine Qd rfl ?_
      exact Exists.intro (if (W (-y_8)) < v13 then (W (-y_8)) else v13) (And.intro h (Ee [80307003, 80307004, 80307000, 3615000, 11, 20260200] rfl ⟨imf icl_im, imf icl_im, imf icl_im, imf icl_im, imf icl_im, trivial⟩))
     ·have h := cond_f hb_9 h
      refine Tri.skip ?_
      exact Exists.intro v13 (And.intro h (Ee [80307003, 80307004, 80307000, 3615000, 11, 20260200] rfl ⟨imf icl_im, imf icl_im, imf icl_im, imf icl_im, imf icl_im, trivial⟩))
   ·have h := hj_8
    refine Tri.cond (b := (a1 != 0)) rfl (fun hb_10 => ?_) (fun hb_10 => ?_)
    ·have h := cond_t hb_10 h
     refine Tri.region ?_
     refine Qe 1 rfl ?_
     refine Q1 rfl rfl rfl (Ax.nil_ptr rfl rfl rfl) ?_
     refine Qe 3 rfl ?_
     obtain ⟨y_9, hy_9, h⟩ := bind_some h
     refine Q1 rfl rfl rfl (Ax.ixh (cl := icl) rfl slc_26 rfl rfl rfl hy_9) ?_
     refine Q1 rfl rfl rfl (Ax.l1_arr (cl := icl) rfl siz_3 rfl rfl hy_9 rfl) ?_
     refine Qd rfl ?_
     exact Exists.intro y_9 (And.intro h (Ee [80307003, 80307004, 80307000, 3615000, 11, 20260200] rfl ⟨imf icl_im, imf icl_im, imf icl_im, imf icl_im, imf icl_im, trivial⟩))
    ·have h := cond_f hb_10 h
     refine Tri.skip ?_
     exact Exists.intro 1152921504606846976 (And.intro h (Ee [80307003, 80307004, 80307000, 3615000, 11, 20260200] rfl ⟨imf icl_im, imf icl_im, imf icl_im, imf icl_im, imf icl_im, trivial⟩))
  ·rintro nx ⟨vo11, v12⟩ h
   refine Tri.seq ?_
   refine Tr ?_
   refine Qe 3 rfl ?_
   obtain ⟨y_10, hy_10, h⟩ := bind_some h
   refine Q1 rfl rfl rfl (Ax.ixh (cl := icl) rfl slc_26 rfl rfl rfl hy_10) ?_
   refine Q1 rfl rfl rfl (Ax.l1_arr (cl := icl) rfl siz_3 rfl rfl hy_10 rfl) ?_
   refine Qd rfl ?_
   refine Tri.cond (b := (decide (y_10 ≥ 0))) rfl (fun hb_11 => ?_) (fun hb_11 => ?_)
   ·have h := cond_t hb_11 h
    refine Tri.skip ?_
    refine Tri.seq ?_
    refine Tri.block ?_
    refine Tri.region ?_
    refine Qe 4 rfl ?_
    refine Q1 rfl rfl rfl (Ax.ixh (cl := icl) rfl slc_26 rfl rfl rfl hy_10) ?_
    refine Q1 rfl rfl rfl (Ax.l1_arr (cl := icl) rfl siz_3 rfl rfl hy_10 rfl) ?_
    refine Q1 rfl rfl rfl (v := .lst 1 (([y_10] : List Int).map icl)) (Ax.sl (xs := ([y_10] : List Int)) rfl slc_26 rfl rfl ⟨Sub.refl _, trivial⟩ rfl icl_len icl_one icl_im) ?_
    obtain ⟨z58, hz, h⟩ := bind_some h
    refine Qa rfl rfl rfl (v := .hnd 58) (x := some (.arr 3 1 (z58.map icl))) (Ax.app_l (cl := icl) rfl rfl slc_26 rfl rfl rfl icl_one icl_im hz rfl rfl) rfl rfl rfl rfl rfl ?_
    refine Qd rfl ?_
    refine Tri.region ?_
    refine Qe 4 rfl ?_
    refine Q1 rfl rfl rfl (Ax.ixh (cl := icl) rfl slc_26 rfl rfl rfl hy_10) ?_
    refine Q1 rfl rfl rfl (Ax.l1_arr (cl := icl) rfl siz_3 rfl rfl hy_10 rfl) ?_
    obtain ⟨y_11, hy_11, h⟩ := bind_some h
    refine Q1 rfl rfl rfl (Ax.ixh (cl := Diff.cl) rfl slc_32 rfl rfl rfl hy_11) ?_
    refine Q1 rfl rfl rfl (v := .eptr 3605000 3 (Int.toNat y_10) 0) (Ax.field_eptr rfl fld_174_0 rfl rfl) ?_
    refine Q1 rfl rfl rfl (Ax.l1_arr (cl := Diff.cl) rfl siz_3 rfl rfl hy_11 rfl) ?_
    refine Qd rfl ?_
    exact Exists.intro (z58, y_11.From) (And.intro h (Ee [80307003, 80307004, 80307000, 3605000, 3615000, 3125001, 3125002, 3125003, 9, 58, 20260200] rfl ⟨imf icl_im, imf icl_im, imf Diff_im, imf icl_im, imf icl_im, imf bcl_im, imf icl_im, imf icl_im, imf icl_im, trivial⟩))
   ·have h := cond_f hb_11 h
    refine Tri.exit ?_
    exact Exists.intro (vo11, v12) (And.intro h (Ee [80307003, 80307004, 80307000, 3615000, 11, 20260200] rfl ⟨imf icl_im, imf icl_im, imf icl_im, imf icl_im, imf icl_im, trivial⟩))
theorem f342_fr {K : Nat} {a0 : Use_diffs} {r : List Int} (h : f342 K a0 = some r) : CallOK Tryz.prog 342 [.ipt (Use_diffs.cl a0) 0] [] (.hnd 20260200) [(20260200, .arr 3 1 (r.map icl))] := by
 refine CallOK.of_tri Tryz.func342 rfl rfl (Nat.le_of_ble_eq_true rfl) ?_
 unfold f342 at h
 refine Tr ?_
 refine Qn rfl rfl rfl (v := .hnd 2) (x := some (.arr 3 1 (([] : List Int).map icl))) (Ax.nil_new 3 1 (.inr rfl) rfl) rfl rfl rfl rfl rfl ?_
 refine RunD.done ?_
 refine Tr ?_
 refine Qn rfl rfl rfl (v := .hnd 6) (x := some (.arr 3 1 (([0] : List Int).map icl))) (Ax.so (xs := ([0] : List Int)) rfl rfl slc_26 rfl rfl ⟨Sub.refl _, trivial⟩ rfl icl_len icl_one icl_im) rfl rfl rfl rfl rfl ?_
 refine Qd rfl ?_
 refine Tri.seq ?_
 refine Tr ?_
 refine Qe 1 rfl ?_
 refine Q1 rfl rfl rfl (Ax.nil_ipt rfl rfl) ?_
 refine Qe 2 rfl ?_
 refine Q1 rfl rfl rfl (Ax.ln (cl := icl) rfl slc_26 rfl) ?_
 refine Qd rfl ?_
 obtain ⟨vo3_1, hj, h⟩ := bind_some h
 refine Tri.rngLv hj (fun p => ⟨[(3, .hnd 6), (10, .lst 1 (a0.want.map icl)), (11, Ai (a0.want.length : Int)), (12, Ai p.1)], [(6, some (.arr 3 1 (p.2.map icl)))]⟩) (fun (y : List Int) => ⟨[(3, .hnd 6)], [(6, some (.arr 3 1 (y.map icl)))]⟩) (Ee [6] rfl ⟨im_flat icl_im ([0] : List Int), trivial⟩) ?_ ?_ ?_
 ·refine Tp rfl ?_
  refine Tri.ret ?_
  refine Rr (fun r => .hnd 20260200) (fun r => [(20260200, .arr 3 1 (r.map icl))]) [6] h ?_ ?_
  ·rfl
  exact ⟨imf icl_im, trivial⟩
 ·rintro v12 vo3 hi h
  refine Tp rfl ?_
  refine Tri.seq ?_
  refine Tri.cond (b := (decide (v12 < (a0.want.length : Int)))) rfl (fun hb => ?_) (fun hb => ?_)
  ·exact (lt_f hi hb).elim
  ·refine Tri.exit ?_
   exact Exists.intro vo3 (And.intro h (Ee [6] rfl ⟨imf icl_im, trivial⟩))
 ·rintro nx x v12 vo3 _ hi hw hx h
  refine Tp rfl ?_
  refine Tri.seq ?_
  refine Tri.cond (b := (decide (v12 < (a0.want.length : Int)))) rfl (fun hb_1 => ?_) (fun hb_1 => ?_)
  ·refine Tri.skip ?_
   refine Tri.seq ?_
   refine Tri.block ?_
   refine Tr ?_
   refine Qe 1 rfl ?_
   refine Q1 rfl rfl rfl (Ax.ix (cl := icl) rfl slc_26 rfl rfl hx) ?_
   refine Qd rfl ?_
   refine Tri.seq ?_
   refine Tri.join1 ⟨[(3, .hnd 6), (4, Ai v12), (10, .lst 1 (a0.want.map icl)), (11, Ai (a0.want.length : Int)), (12, Ai v12), (22, Ab ((decide (v12 > 0)) && (decide (x < 0))))], [(6, some (.arr 3 1 (vo3.map icl)))]⟩ ?_ ?_
   ·obtain ⟨vo3_2, hj_1, h⟩ := bind_some h
    refine Tri.joinv vo3_2 (fun (y : List Int) => ⟨[(3, .hnd 26), (10, .lst 1 (a0.want.map icl)), (11, Ai (a0.want.length : Int)), (12, Ai v12)], [(26, some (.arr 3 1 (y.map icl)))]⟩) ?_ ?_
    ·refine Tq rfl ?_
     exact Exists.intro (v12 + 1, vo3_2) (And.intro (And.intro rfl h) (Es [26] [12] rfl ⟨imf icl_im, trivial⟩ ⟨.imm (Sub.of_eq (show Ai (v12 + 1) = Ai (W (v12 + 1)) from congrArg Ai hw.symm)) rfl, trivial⟩))
    ·have h := hj_1
     refine Tri.cond (b := ((decide (v12 > 0)) && (decide (x < 0)))) rfl (fun hb_2 => ?_) (fun hb_2 => ?_)
     ·have h := cond_t hb_2 h
      refine Tri.region ?_
      refine Qe 2 rfl ?_
      refine Q1 rfl rfl rfl (v := .lst 1 (([v12] : List Int).map icl)) (Ax.sl (xs := ([v12] : List Int)) rfl slc_26 rfl rfl ⟨Sub.refl _, trivial⟩ rfl icl_len icl_one icl_im) ?_
      obtain ⟨z26, hz, h⟩ := bind_some h
      refine Qa rfl rfl rfl (v := .hnd 26) (x := some (.arr 3 1 (z26.map icl))) (Ax.app_l (cl := icl) rfl rfl slc_26 rfl rfl rfl icl_one icl_im hz rfl rfl) rfl rfl rfl rfl rfl ?_
      refine Qd rfl ?_
      exact Exists.intro z26 (And.intro h (Ee [26] rfl ⟨imf icl_im, trivial⟩))
     ·have h := cond_f hb_2 h
      refine Tri.skip ?_
      exact Exists.intro vo3 (And.intro h (Ee [6] rfl ⟨imf icl_im, trivial⟩))
   ·refine Tri.region ?_
    refine Qe 3 rfl ?_
    rcases b2 (decide (v12 > 0)) with hb_3 | hb_3
    ·refine Qk 19 hb_3 rfl ?_
     refine Qd rfl ?_
     exact (Es [6] [22] rfl ⟨imf icl_im, trivial⟩ ⟨.imm (Sub.of_eq (show Ab ((decide (v12 > 0)) && (decide (x < 0))) = Ab (decide (x < 0)) by simp only [cond_true, cond_false, Bool.true_or, Bool.false_or, Bool.true_and, Bool.false_and, Bool.or_true, Bool.or_false, Bool.and_true, Bool.and_false, hb_1, hb_3])) rfl, trivial⟩)
    ·refine Qk 19 hb_3 rfl ?_
     refine Qd rfl ?_
     exact (Es [6] [22] rfl ⟨imf icl_im, trivial⟩ ⟨.imm (Sub.of_eq (show Ab ((decide (v12 > 0)) && (decide (x < 0))) = Ab false by simp only [cond_true, cond_false, Bool.true_or, Bool.false_or, Bool.true_and, Bool.false_and, Bool.or_true, Bool.or_false, Bool.and_true, Bool.and_false, hb_1, hb_3])) rfl, trivial⟩)
  ·exact (lt_t hi hb_1).elim
theorem f303_ok {K : Nat} {a0 : Use_diffs} {r : Bool × Use_diffs} (h : f303 K a0 = some r) : CallOK Tryz.prog 303 [.ptr 80307000 0] [(80307003, .arr 3 1 (a0.flow.map icl)), (80307004, .arr 3 1 (a0.want.map icl)), (80307000, .box [Ai a0.Net.Nodes, .lst 3 (a0.Net.Diffs.map Diff.cl), .hnd 80307003, .hnd 80307004])] (Ab r.1) [(80307003, .arr 3 1 (r.2.flow.map icl)), (80307004, .arr 3 1 (r.2.want.map icl)), (80307000, .box [Ai r.2.Net.Nodes, .lst 3 (r.2.Net.Diffs.map Diff.cl), .hnd 80307003, .hnd 80307004])] := by
 refine CallOK.of_tri Tryz.func303 rfl rfl (Nat.le_of_ble_eq_true rfl) ?_
 unfold f303 at h
 refine Tp rfl ?_
 refine Tri.seq ?_
 refine Tp rfl ?_
 obtain ⟨j, hj, h⟩ := jo h
 refine Tri.whl h (fun p => ⟨[(0, .ptr 80307000 0), (3, Ai p.2.2.2.2)], [(80307003, some (.arr 3 1 (p.2.2.1.map icl))), (80307004, some (.arr 3 1 (p.2.2.2.1.map icl))), (80307000, some (.box [Ai p.1, .lst 3 (p.2.1.map Diff.cl), .hnd 80307003, .hnd 80307004]))]⟩) (fun y => j y = some r) (fun (y : Int × List Diff × List Int × List Int) => ⟨[(0, .ptr 80307000 0)], [(80307003, some (.arr 3 1 (y.2.2.1.map icl))), (80307004, some (.arr 3 1 (y.2.2.2.map icl))), (80307000, some (.box [Ai y.1, .lst 3 (y.2.1.map Diff.cl), .hnd 80307003, .hnd 80307004]))]⟩) (Ee [80307003, 80307004, 80307000] rfl ⟨imf icl_im, imf icl_im, trivial⟩) ?_ ?_
 ·rintro ⟨vo0_0_1, vo0_1_1, voo0_2_1, voo0_3_1⟩ h
  subst hj
  refine Tri.seq ?_
  refine Tp rfl ?_
  obtain ⟨j_1, hj_1, h⟩ := jo h
  refine Tri.whl h (fun p => ⟨[(0, .ptr 80307000 0), (4, Ai p.2.2.2.2)], [(80307003, some (.arr 3 1 (p.2.2.1.map icl))), (80307004, some (.arr 3 1 (p.2.2.2.1.map icl))), (80307000, some (.box [Ai p.1, .lst 3 (p.2.1.map Diff.cl), .hnd 80307003, .hnd 80307004]))]⟩) (fun y => j_1 y = some r) (fun (y : Int × List Diff × List Int × List Int) => ⟨[], [(80307003, some (.arr 3 1 (y.2.2.1.map icl))), (80307004, some (.arr 3 1 (y.2.2.2.map icl))), (80307000, some (.box [Ai y.1, .lst 3 (y.2.1.map Diff.cl), .hnd 80307003, .hnd 80307004]))]⟩) (Ee [80307003, 80307004, 80307000] rfl ⟨imf icl_im, imf icl_im, trivial⟩) ?_ ?_
  ·rintro ⟨vok0_0, vok0_1, vook0_2, vook0_3⟩ h
   subst hj_1
   refine Tp rfl ?_
   refine Tri.ret ?_
   refine Rr (fun r => Ab r.1) (fun r => [(80307003, .arr 3 1 (r.2.flow.map icl)), (80307004, .arr 3 1 (r.2.want.map icl)), (80307000, .box [Ai r.2.Net.Nodes, .lst 3 (r.2.Net.Diffs.map Diff.cl), .hnd 80307003, .hnd 80307004])]) [80307003, 80307004, 80307000] h ?_ ?_
   ·rfl
   exact ⟨imf icl_im, imf icl_im, trivial⟩
  ·rintro nx_1 ⟨vo0_0_2, vo0_1_2, voo0_2_2, voo0_3_2, v4⟩ h
   refine Tri.seq ?_
   refine Tr ?_
   refine Qe 2 rfl ?_
   refine Q1 rfl rfl rfl (Ax.nil_ptr rfl rfl rfl) ?_
   refine Qd rfl ?_
   refine Tri.cond (b := (decide (v4 < vo0_0_2))) rfl (fun hb => ?_) (fun hb => ?_)
   ·have h := cond_t hb h
    refine Tri.skip ?_
    refine Tri.seq ?_
    refine Tri.block ?_
    obtain ⟨j_2, hj_2, h⟩ := jo h
    refine Tri.whl h (fun p => ⟨[(0, .ptr 80307000 0), (4, Ai v4)], [(80307003, some (.arr 3 1 (p.2.2.1.map icl))), (80307004, some (.arr 3 1 (p.2.2.2.map icl))), (80307000, some (.box [Ai p.1, .lst 3 (p.2.1.map Diff.cl), .hnd 80307003, .hnd 80307004]))]⟩) (fun y => j_2 y = some r) (fun (y : Int × List Diff × List Int × List Int) => ⟨[(0, .ptr 80307000 0), (4, Ai v4)], [(80307003, some (.arr 3 1 (y.2.2.1.map icl))), (80307004, some (.arr 3 1 (y.2.2.2.map icl))), (80307000, some (.box [Ai y.1, .lst 3 (y.2.1.map Diff.cl), .hnd 80307003, .hnd 80307004]))]⟩) (Ee [80307003, 80307004, 80307000] rfl ⟨imf icl_im, imf icl_im, trivial⟩) ?_ ?_
    ·rintro ⟨vo0_0_4, vo0_1_4, voo0_2_4, voo0_3_4⟩ h
     subst hj_2
     refine Tq rfl ?_
     exact Exists.intro (vo0_0_4, vo0_1_4, voo0_2_4, voo0_3_4, (W (v4 + 1))) (And.intro h (Ee [80307003, 80307004, 80307000] rfl ⟨imf icl_im, imf icl_im, trivial⟩))
    ·rintro nx_2 ⟨vo0_0_3, vo0_1_3, voo0_2_3, voo0_3_3⟩ h
     refine Tri.seq ?_
     refine Tr ?_
     refine Qe 1 rfl ?_
     refine Q1 rfl rfl rfl (Ax.nil_ptr rfl rfl rfl) ?_
     refine Qe 3 rfl ?_
     obtain ⟨y, hy, h⟩ := bind_some h
     refine Q1 rfl rfl rfl (Ax.ixh (cl := icl) rfl slc_26 rfl rfl rfl hy) ?_
     refine Q1 rfl rfl rfl (Ax.l1_arr (cl := icl) rfl siz_3 rfl rfl hy rfl) ?_
     refine Qd rfl ?_
     refine Tri.cond (b := (decide (y < 0))) rfl (fun hb_1 => ?_) (fun hb_1 => ?_)
     ·have h := cond_t hb_1 h
      refine Tri.skip ?_
      refine Tri.block ?_
      refine Tr ?_
      refine Qe 2 rfl ?_
      refine Qn rfl rfl rfl (v := .hnd 20260200) (x := some (.arr 3 1 (([v4] : List Int).map icl))) (Ax.so2 (xs := ([v4] : List Int)) rfl slc_26 rfl rfl ⟨Sub.refl _, trivial⟩ rfl icl_len icl_one icl_im) rfl rfl rfl rfl rfl ?_
      obtain ⟨⟨x48_0, x48_1, x48_2⟩, hc, h⟩ := bind_some h
      refine Qo [(80307003, .arr 3 1 (voo0_2_3.map icl)), (80307004, .arr 3 1 (voo0_3_3.map icl)), (80307000, .box [Ai vo0_0_3, .lst 3 (vo0_1_3.map Diff.cl), .hnd 80307003, .hnd 80307004]), (20260200, .arr 3 1 (([v4] : List Int).map icl))] [(80307003, .arr 3 1 (x48_1.flow.map icl)), (80307004, .arr 3 1 (x48_1.want.map icl)), (80307000, .box [Ai x48_1.Net.Nodes, .lst 3 (x48_1.Net.Diffs.map Diff.cl), .hnd 80307003, .hnd 80307004]), (20260200, .arr 3 1 (x48_2.map icl))] [] rfl rfl rfl (args := [.ptr 80307000 0, Ai 0, .hnd 20260200]) (r := Ab x48_0) (calv rfl rfl fnok_341 rfl) (f341_ok hc) ⟨rfl, rfl, rfl, rfl, trivial⟩ rfl rfl rfl rfl rfl ?_
      refine Qd rfl ?_
      refine Tri.cond (b := (!x48_0)) rfl (fun hb_2 => ?_) (fun hb_2 => ?_)
      ·have h := cond_t hb_2 h
       refine Tp rfl ?_
       refine Tri.ret ?_
       refine Rr (fun r => Ab r.1) (fun r => [(80307003, .arr 3 1 (r.2.flow.map icl)), (80307004, .arr 3 1 (r.2.want.map icl)), (80307000, .box [Ai r.2.Net.Nodes, .lst 3 (r.2.Net.Diffs.map Diff.cl), .hnd 80307003, .hnd 80307004])]) [80307003, 80307004, 80307000] h ?_ ?_
       ·rfl
       exact ⟨imf icl_im, imf icl_im, trivial⟩
      ·have h := cond_f hb_2 h
       refine Tri.skip ?_
       exact Exists.intro (x48_1.Net.Nodes, x48_1.Net.Diffs, x48_1.flow, x48_1.want) (And.intro h (Ee [80307003, 80307004, 80307000] rfl ⟨imf icl_im, imf icl_im, trivial⟩))
     ·have h := cond_f hb_1 h
      refine Tri.exit ?_
      exact Exists.intro (vo0_0_3, vo0_1_3, voo0_2_3, voo0_3_3) (And.intro h (Ee [80307003, 80307004, 80307000] rfl ⟨imf icl_im, imf icl_im, trivial⟩))
   ·have h := cond_f hb h
    refine Tri.exit ?_
    exact Exists.intro (vo0_0_2, vo0_1_2, voo0_2_2, voo0_3_2) (And.intro h (Ee [80307003, 80307004, 80307000] rfl ⟨imf icl_im, imf icl_im, trivial⟩))
 ·rintro nx ⟨vo0_0, vo0_1, voo0_2, voo0_3, v3⟩ h
  refine Tri.seq ?_
  refine Tr ?_
  refine Qe 2 rfl ?_
  refine Q1 rfl rfl rfl (Ax.nil_ptr rfl rfl rfl) ?_
  refine Qd rfl ?_
  refine Tri.cond (b := (decide (v3 < vo0_0))) rfl (fun hb_3 => ?_) (fun hb_3 => ?_)
  ·have h := cond_t hb_3 h
   refine Tri.skip ?_
   refine Tri.seq ?_
   refine Tri.block ?_
   obtain ⟨j_3, hj_3, h⟩ := jo h
   refine Tri.whl h (fun p => ⟨[(0, .ptr 80307000 0), (3, Ai v3)], [(80307003, some (.arr 3 1 (p.2.2.1.map icl))), (80307004, some (.arr 3 1 (p.2.2.2.map icl))), (80307000, some (.box [Ai p.1, .lst 3 (p.2.1.map Diff.cl), .hnd 80307003, .hnd 80307004]))]⟩) (fun y => j_3 y = some r) (fun (y : Int × List Diff × List Int × List Int) => ⟨[(0, .ptr 80307000 0), (3, Ai v3)], [(80307003, some (.arr 3 1 (y.2.2.1.map icl))), (80307004, some (.arr 3 1 (y.2.2.2.map icl))), (80307000, some (.box [Ai y.1, .lst 3 (y.2.1.map Diff.cl), .hnd 80307003, .hnd 80307004]))]⟩) (Ee [80307003, 80307004, 80307000] rfl ⟨imf icl_im, imf icl_im, trivial⟩) ?_ ?_
   ·rintro ⟨vo0_0_6, vo0_1_6, voo0_2_6, voo0_3_6⟩ h
    subst hj_3
    refine Tq rfl ?_
    exact Exists.intro (vo0_0_6, vo0_1_6, voo0_2_6, voo0_3_6, (W (v3 + 1))) (And.intro h (Ee [80307003, 80307004, 80307000] rfl ⟨imf icl_im, imf icl_im, trivial⟩))
   ·rintro nx_3 ⟨vo0_0_5, vo0_1_5, voo0_2_5, voo0_3_5⟩ h
    refine Tri.seq ?_
    refine Tr ?_
    refine Qe 1 rfl ?_
    refine Q1 rfl rfl rfl (Ax.nil_ptr rfl rfl rfl) ?_
    refine Qe 3 rfl ?_
    obtain ⟨y_1, hy_1, h⟩ := bind_some h
    refine Q1 rfl rfl rfl (Ax.ixh (cl := icl) rfl slc_26 rfl rfl rfl hy_1) ?_
    refine Q1 rfl rfl rfl (Ax.l1_arr (cl := icl) rfl siz_3 rfl rfl hy_1 rfl) ?_
    refine Qd rfl ?_
    refine Tri.cond (b := (decide (y_1 > 0))) rfl (fun hb_4 => ?_) (fun hb_4 => ?_)
    ·have h := cond_t hb_4 h
     refine Tri.skip ?_
     refine Tri.block ?_
     refine Tr ?_
     refine Qe 3 rfl ?_
     obtain ⟨x25, hc_1, h⟩ := bind_some h
     refine Qlf [80307000, 80307003, 80307004] [(20260200, .arr 3 1 (x25.map icl))] [20260200] rfl rfl rfl (args := [.ptr 80307000 0]) (args' := [.ipt (Use_diffs.cl (⟨(⟨vo0_0_5, vo0_1_5⟩ : Net), voo0_2_5, voo0_3_5⟩ : Use_diffs)) 0]) (r := .hnd 20260200) (calv rfl rfl fnok_342 rfl) ⟨.ptrV (List.Mem.head _) rfl ⟨.imm rfl, .imm rfl, .hnd (List.Mem.tail _ (List.Mem.head _)) rfl (im_flat icl_im voo0_2_5), .hnd (List.Mem.tail _ (List.Mem.tail _ (List.Mem.head _))) rfl (im_flat icl_im voo0_3_5), trivial⟩, trivial⟩ (f342_fr hc_1) rfl rfl rfl (by first | rfl | (simp only [List.all_cons, List.all_nil, AO.solid, Bool.and_true, Bool.and_self, solid_flat (cl := icl) (fun _ => rfl)])) rfl rfl rfl rfl ?_
     obtain ⟨⟨x26_0, x26_1, x26_2⟩, hc_2, h⟩ := bind_some h
     refine Qo [(80307003, .arr 3 1 (voo0_2_5.map icl)), (80307004, .arr 3 1 (voo0_3_5.map icl)), (80307000, .box [Ai vo0_0_5, .lst 3 (vo0_1_5.map Diff.cl), .hnd 80307003, .hnd 80307004]), (20260200, .arr 3 1 (x25.map icl))] [(80307003, .arr 3 1 (x26_1.flow.map icl)), (80307004, .arr 3 1 (x26_1.want.map icl)), (80307000, .box [Ai x26_1.Net.Nodes, .lst 3 (x26_1.Net.Diffs.map Diff.cl), .hnd 80307003, .hnd 80307004]), (20260200, .arr 3 1 (x26_2.map icl))] [] rfl rfl rfl (args := [.ptr 80307000 0, Ai v3, .hnd 20260200]) (r := Ab x26_0) (calv rfl rfl fnok_341 rfl) (f341_ok hc_2) ⟨rfl, rfl, rfl, rfl, trivial⟩ rfl rfl rfl rfl rfl ?_
     refine Qd rfl ?_
     refine Tri.cond (b := (!x26_0)) rfl (fun hb_5 => ?_) (fun hb_5 => ?_)
     ·have h := cond_t hb_5 h
      refine Tp rfl ?_
      refine Tri.ret ?_
      refine Rr (fun r => Ab r.1) (fun r => [(80307003, .arr 3 1 (r.2.flow.map icl)), (80307004, .arr 3 1 (r.2.want.map icl)), (80307000, .box [Ai r.2.Net.Nodes, .lst 3 (r.2.Net.Diffs.map Diff.cl), .hnd 80307003, .hnd 80307004])]) [80307003, 80307004, 80307000] h ?_ ?_
      ·rfl
      exact ⟨imf icl_im, imf icl_im, trivial⟩
     ·have h := cond_f hb_5 h
      refine Tri.skip ?_
      exact Exists.intro (x26_1.Net.Nodes, x26_1.Net.Diffs, x26_1.flow, x26_1.want) (And.intro h (Ee [80307003, 80307004, 80307000] rfl ⟨imf icl_im, imf icl_im, trivial⟩))
    ·have h := cond_f hb_4 h
     refine Tri.exit ?_
     exact Exists.intro (vo0_0_5, vo0_1_5, voo0_2_5, voo0_3_5) (And.intro h (Ee [80307003, 80307004, 80307000] rfl ⟨imf icl_im, imf icl_im, trivial⟩))
  ·have h := cond_f hb_3 h
   refine Tri.exit ?_
   exact Exists.intro (vo0_0, vo0_1, voo0_2, voo0_3) (And.intro h (Ee [80307003, 80307004, 80307000] rfl ⟨imf icl_im, imf icl_im, trivial⟩))
theorem f235_ok {K : Nat} {a0 : Net} {a1 : List Int} {r : (Option Use_diffs) × Bool × Int} (h : f235 K a0 a1 = some r) : CallOK Tryz.prog 235 [.agg (Net.cl a0), .lst 1 (a1.map icl)] [] (.tup [optr Use_diffs.cl r.1, Ab r.2.1, Ai r.2.2]) [] := by
 refine CallOK.of_tri Tryz.func235 rfl rfl (Nat.le_of_ble_eq_true rfl) ?_
 unfold f235 at h
 refine Tp rfl ?_
 refine Tri.seq ?_
 refine Tri.seq ?_
 refine Tri.drawn [[], [], [], [1, 2], [1, 2, 3], [0, 1, 2, 3, 4], [0, 1, 2, 3, 4, 5]] hmix (by kernel_rfl) ?_
 refine Qe 3 rfl ?_
 obtain ⟨x16, hc, h⟩ := bind_some h
 refine Qc rfl rfl rfl (args := [.agg (Net.cl a0), .lst 1 (a1.map icl)]) (r := Ab x16) (calv rfl rfl fnok_294 rfl) (f294_ok hc) rfl ?_
 refine Q1 rfl rfl rfl (v := .lst 1 (([x16] : List Bool).map bcl)) (Ax.sl (xs := ([x16] : List Bool)) rfl slc_191 rfl rfl ⟨Sub.refl _, trivial⟩ rfl bcl_len bcl_one bcl_im) ?_
 obtain ⟨x18, hc_1, h⟩ := bind_some h
 refine Qc rfl rfl rfl (args := [.agg (Net.cl a0), .lst 1 (([x16] : List Bool).map bcl)]) (r := Ai x18) (calv rfl rfl fnok_223 rfl) (f223_ok hc_1) rfl ?_
 refine Qe 1 rfl ?_
 refine RunD.done ⟨by kernel_rfl, freshL_of [] (by kernel_rfl) (by kernel_rfl), ?_⟩
 refine Tp rfl ?_
 refine Tri.cond (b := (x18 != 0)) rfl (fun hb => ?_) (fun hb => ?_)
 ·have h := cond_t hb h
  refine Tp rfl ?_
  refine Tri.ret ?_
  refine RetQ.eq2 (fun r => .tup [optr Use_diffs.cl r.1, Ab r.2.1, Ai r.2.2]) (fun r => []) (Option.some.inj h) ?_
  exact RetQ.mk (vs := [.sc (.pointer none), Ab false, Ai x18]) (.inr rfl) ⟨_, _, rfl, .tmp rfl, ⟨_, _, rfl, .tmp rfl, ⟨_, _, rfl, .tmp rfl, rfl⟩⟩⟩ [] [] rfl rfl trivial (.tupV ⟨.frz (.fz (.imm rfl)) rfl, .rfl' rfl, .rfl' rfl, trivial⟩)
 ·have h := cond_f hb h
  refine Tri.skip ?_
  refine Tri.seq ?_
  refine Tr ?_
  refine Qe 1 rfl ?_
  refine Q1 rfl rfl rfl (v := .agg (Plain_diffs.cl (⟨a0⟩ : Plain_diffs))) (Ax.build rfl zer_322 (bld plc_322 zer_322) rfl ⟨Sub.refl _, Sub.refl _, trivial⟩) ?_
  refine Q1 rfl rfl rfl (v := .ifc 322 (.agg (Plain_diffs.cl (⟨a0⟩ : Plain_diffs)))) (Ax.ifc' rfl nif_322 rfl) ?_
  obtain ⟨⟨x26_0, x26_1, x26_2⟩, hc_2, h⟩ := bind_some h
  refine Qc rfl rfl rfl (args := [.ifc 322 (.fz (.agg (Plain_diffs.cl (⟨a0⟩ : Plain_diffs))))]) (r := .tup [.lst 1 (x26_0.map icl), .agg (Tree_diffs.cl x26_1), Ai x26_2]) (calw rfl rfl fnok_251 ⟨Sub.fz rfl, trivial⟩) (f251_ok ⟨⟨386, fnok_386, meth_322_386, fun _ hr => (f386_ok (K := K) hr).fz1⟩, ⟨387, fnok_387, meth_322_387, fun _ hr => (f387_ok (K := K) hr).fz1⟩, rfl, rfl⟩ hc_2) rfl ?_
  refine Qe 4 rfl ?_
  refine Qn rfl rfl rfl (v := .ptr 9 0) (x := some (.box (Tree_diffs.cl (⟨([] : List Int), ([] : List Bool), ([] : List Int)⟩ : Tree_diffs)))) (Ax.alloc rfl rfl zer_318 rfl ⟨Sub.nil _, Sub.nil _, Sub.nil _, trivial⟩) rfl rfl rfl rfl rfl ?_
  refine Qe 1 rfl ?_
  refine Qs rfl rfl (x := some (.box (Tree_diffs.cl x26_1))) (Ax.st_box rfl siz_318 rfl rfl rfl rfl rfl rfl rfl) ?_
  refine Qd rfl ?_
  refine Tp rfl ?_
  refine Tri.cond (b := (decide (x26_2 ≥ 0))) rfl (fun hb_1 => ?_) (fun hb_1 => ?_)
  ·have h := cond_t hb_1 h
   refine Tp rfl ?_
   refine Tri.ret ?_
   refine RetQ.eq2 (fun r => .tup [optr Use_diffs.cl r.1, Ab r.2.1, Ai r.2.2]) (fun r => []) (Option.some.inj h) ?_
   exact RetQ.mk (vs := [.sc (.pointer none), Ab false, Ai 41]) (.inr rfl) ⟨_, _, rfl, .tmp rfl, ⟨_, _, rfl, .tmp rfl, ⟨_, _, rfl, .tmp rfl, rfl⟩⟩⟩ [] [] rfl rfl trivial (.tupV ⟨.frz (.fz (.imm rfl)) rfl, .rfl' rfl, .rfl' rfl, trivial⟩)
  ·have h := cond_f hb_1 h
   refine Tri.skip ?_
   refine Tri.seq ?_
   refine Tri.drawn [[], [], [1], [1, 2], [1, 2, 3], [], [5], [0, 1, 2, 3, 4, 5, 6], [0, 1, 2, 3, 4, 5, 6, 7], [0, 1, 2, 3, 4, 5, 6, 7, 8]] hmix (by kernel_rfl) ?_
   refine Qe 3 rfl ?_
   refine Q1 rfl rfl rfl (Ax.ln (cl := Diff.cl) rfl slc_32 rfl) ?_
   obtain ⟨z36, hz, h⟩ := bind_some h
   refine Qn rfl rfl rfl (v := .hnd 36) (x := some (.arr 3 1 (z36.map icl))) (Ax.mk (cl := icl) rfl rfl slc_26 rfl rfl hz rfl rfl rfl) rfl rfl rfl rfl rfl ?_
   refine Qe 1 rfl ?_
   obtain ⟨x38, hc_3, h⟩ := bind_some h
   refine Qo [] [(20260000, .arr 3 1 (x38.map icl))] [20260000] rfl rfl rfl (args := [.lst 1 (a1.map icl)]) (r := .hnd 20260000) (calv rfl rfl fnok_85 rfl) (f85_fr hc_3) trivial rfl rfl rfl rfl rfl ?_
   refine Q1 rfl rfl rfl (v := .agg [Ai a0.Nodes, .lst 3 (a0.Diffs.map Diff.cl), .hnd 36, .hnd 20260000]) (Ax.build rfl zer_307 (bld plc_307 zer_307) rfl ⟨Sub.refl _, Sub.refl _, Sub.refl _, Sub.refl _, trivial⟩) ?_
   refine Qn rfl rfl rfl (v := .ptr 40 0) (x := some (.box [Ai a0.Nodes, .lst 3 (a0.Diffs.map Diff.cl), .hnd 36, .hnd 20260000])) (Ax.box_ptr rfl rfl rfl rfl) rfl rfl rfl rfl rfl ?_
   refine Qe 1 rfl ?_
   refine RunD.done ⟨by kernel_rfl, freshL_of [36, 20260000, 40] (by kernel_rfl) (by kernel_rfl), ?_⟩
   refine Tri.seq ?_
   refine Tri.ent (Ent.norm [] [(80307000, 40, .box [Ai a0.Nodes, .lst 3 (a0.Diffs.map Diff.cl), .hnd 80307003, .hnd 80307004]), (80307003, 36, .arr 3 1 (z36.map icl)), (80307004, 20260000, .arr 3 1 (x38.map icl))] [(11, .ptr 80307000 0)] rfl ⟨⟨_, rfl, .boxV ⟨.rfl' rfl, .rfl' rfl, .hnd (List.Mem.tail _ (List.Mem.head _)), .hnd (List.Mem.tail _ (List.Mem.tail _ (List.Mem.head _))), trivial⟩⟩, ⟨_, rfl, .arr (im_flat icl_im z36)⟩, ⟨_, rfl, .arr (im_flat icl_im x38)⟩, trivial⟩ ⟨.ptr (List.Mem.head _), trivial⟩) ?_
   refine Tri.region ?_
   refine Qe 1 rfl ?_
   obtain ⟨⟨x42_0, x42_1⟩, hc_4, h⟩ := bind_some h
   refine Qo [(80307003, .arr 3 1 (z36.map icl)), (80307004, .arr 3 1 (x38.map icl)), (80307000, .box [Ai a0.Nodes, .lst 3 (a0.Diffs.map Diff.cl), .hnd 80307003, .hnd 80307004])] [(80307003, .arr 3 1 (x42_1.flow.map icl)), (80307004, .arr 3 1 (x42_1.want.map icl)), (80307000, .box [Ai x42_1.Net.Nodes, .lst 3 (x42_1.Net.Diffs.map Diff.cl), .hnd 80307003, .hnd 80307004])] [] rfl rfl rfl (args := [.ptr 80307000 0]) (r := Ab x42_0) (calv rfl rfl fnok_303 rfl) (f303_ok hc_4) ⟨rfl, rfl, rfl, trivial⟩ rfl rfl rfl rfl rfl ?_
   refine Qd rfl ?_
   refine Tp rfl ?_
   refine Tri.ret ?_
   refine RetQ.eq2 (fun r => .tup [optr Use_diffs.cl r.1, Ab r.2.1, Ai r.2.2]) (fun r => []) (Option.some.inj h) ?_
   exact RetQ.mk (vs := [.ptr 80307000 0, Ab x42_0, Ai 0]) (.inr rfl) ⟨_, _, rfl, .tmp rfl, ⟨_, _, rfl, .tmp rfl, ⟨_, _, rfl, .tmp rfl, rfl⟩⟩⟩ [80307000, 80307003, 80307004] [] rfl rfl trivial (.tupV ⟨.frz (.fz (.ptrV (List.Mem.head _) rfl ⟨(.imm rfl), (.imm rfl), (.hnd (List.Mem.tail _ (List.Mem.head _)) rfl (im_flat icl_im x42_1.flow)), (.hnd (List.Mem.tail _ (List.Mem.tail _ (List.Mem.head _))) rfl (im_flat icl_im x42_1.want)), trivial⟩)) rfl, .rfl' rfl, .rfl' rfl, trivial⟩)
theorem f236_ok {K : Nat} {a0 : Net} {a1 : List Int} {r : Int} (h : f236 K a0 a1 = some r) : CallOK Tryz.prog 236 [.agg (Net.cl a0), .lst 1 (a1.map icl)] [] (Ai r) [] := by
 refine CallOK.of_tri Tryz.func236 rfl rfl (Nat.le_of_ble_eq_true rfl) ?_
 unfold f236 at h
 refine Tp rfl ?_
 refine Tp rfl ?_
 refine Tri.seq ?_
 refine Tr ?_
 refine Qe 2 rfl ?_
 refine Q1 rfl rfl rfl (Ax.ln (cl := Diff.cl) rfl slc_32 rfl) ?_
 refine Qd rfl ?_
 obtain ⟨v5_1, hj, h⟩ := bind_some h
 refine Tri.rngLv hj (fun p => ⟨[(1, .lst 1 (a1.map icl)), (5, Ai p.2), (9, .lst 3 (a0.Diffs.map Diff.cl)), (10, Ai (a0.Diffs.length : Int)), (11, Ai p.1)], []⟩) (fun (y : Int) => ⟨[(5, Ai y)], []⟩) (E0 rfl) ?_ ?_ ?_
 ·refine Tp rfl ?_
  refine Tri.ret ?_
  exact Ri h rfl
 ·rintro v11 v5 hi h
  refine Tp rfl ?_
  refine Tri.seq ?_
  refine Tri.cond (b := (decide (v11 < (a0.Diffs.length : Int)))) rfl (fun hb => ?_) (fun hb => ?_)
  ·exact (lt_f hi hb).elim
  ·refine Tri.exit ?_
   exact Exists.intro v5 (And.intro h (E0 rfl))
 ·rintro nx x v11 v5 _ hi hw hx h
  refine Tp rfl ?_
  refine Tri.seq ?_
  refine Tri.cond (b := (decide (v11 < (a0.Diffs.length : Int)))) rfl (fun hb_1 => ?_) (fun hb_1 => ?_)
  ·refine Tri.skip ?_
   refine Tri.seq ?_
   refine Tri.block ?_
   refine Tr ?_
   refine Qe 1 rfl ?_
   refine Q1 rfl rfl rfl (Ax.ix (cl := Diff.cl) rfl slc_32 rfl rfl hx) ?_
   refine Qe 1 rfl ?_
   refine Qn rfl rfl rfl (v := .ptr 7 0) (x := some (.box (Diff.cl (⟨0, 0, 0⟩ : Diff)))) (Ax.alloc rfl rfl zer_174 rfl ⟨Sub.refl _, Sub.refl _, Sub.refl _, trivial⟩) rfl rfl rfl rfl rfl ?_
   refine Qe 1 rfl ?_
   refine Qs rfl rfl (x := some (.box (Diff.cl x))) (Ax.st_box rfl siz_174 rfl rfl rfl rfl rfl rfl rfl) ?_
   refine RunD.done ?_
   refine Tri.drawn [] hmix (by kernel_rfl) ?_
   refine Qe 3 rfl ?_
   obtain ⟨y, hy, h⟩ := bind_some h
   refine Q1 rfl rfl rfl (Ax.ix (cl := icl) rfl slc_26 rfl rfl hy) ?_
   refine Qe 6 rfl ?_
   refine RunD.done ⟨by kernel_rfl, freshL_of [] (by kernel_rfl) (by kernel_rfl), ?_⟩
   refine Tq rfl ?_
   exact Exists.intro (v11 + 1, (W (v5 + (W (y * x.Most))))) (And.intro (And.intro rfl h) (Es0 [11] rfl ⟨.imm (Sub.of_eq (show Ai (v11 + 1) = Ai (W (v11 + 1)) from congrArg Ai hw.symm)) rfl, trivial⟩))
  ·exact (lt_t hi hb_1).elim
theorem f121_ok {K : Nat} {a0 : Net} {a1 : List Int} {r : Int × Bool × Int} (h : f121 K a0 a1 = some r) : CallOK Tryz.prog 121 [.agg (Net.cl a0), .lst 1 (a1.map icl)] [] (.tup [Ai r.1, Ab r.2.1, Ai r.2.2]) [] := by
 refine CallOK.of_tri Tryz.func121 rfl rfl (Nat.le_of_ble_eq_true rfl) ?_
 unfold f121 at h
 refine Tp rfl ?_
 refine Tr ?_
 refine Qe 2 rfl ?_
 obtain ⟨⟨x13_0, x13_1, x13_2⟩, hc, h⟩ := bind_some h
 refine Qc rfl rfl rfl (args := [.agg (Net.cl a0), .lst 1 (a1.map icl)]) (r := .tup [optr Use_diffs.cl x13_0, Ab x13_1, Ai x13_2]) (calv rfl rfl fnok_235 rfl) (f235_ok hc) rfl ?_
 refine Qd rfl ?_
 refine Tri.seq ?_
 refine Tri.seq ?_
 refine Tri.join1 ⟨[(2, .ipt (Net.cl a0) 0), (7, optr Use_diffs.cl x13_0), (9, Ai x13_2), (22, Ab ((x13_2 != 0) || (!x13_1)))], []⟩ ?_ ?_
 ·refine Tri.cond (b := ((x13_2 != 0) || (!x13_1))) rfl (fun hb => ?_) (fun hb => ?_)
  ·have h := cond_t hb h
   refine Tp rfl ?_
   refine Tri.ret ?_
   refine Rr (fun r => .tup [Ai r.1, Ab r.2.1, Ai r.2.2]) (fun r => []) [] h ?_ trivial
   rfl
  ·have h := cond_f hb h
   refine Tri.skip ?_
   refine Tri.seq ?_
   refine Tri.drawn [[], [], [1], [1, 2], [1, 2, 3], [0, 1, 2, 3, 4], [0, 1, 2, 3, 4, 5], [0, 1, 2, 3, 4, 5, 6], [0, 1, 2, 3, 4, 5, 6, 7]] hmix (by kernel_rfl) ?_
   refine Qe 2 rfl ?_
   obtain ⟨y, hy, h⟩ := bind_some h
   refine Q1 rfl rfl rfl (v := .ipt (Use_diffs.cl y) 0) (Ax.nil_fz rfl (optr_some hy)) ?_
   refine Qe 2 rfl ?_
   obtain ⟨x29, hc_1, h⟩ := bind_some h
   refine Qc rfl rfl rfl (args := [.agg (Net.cl a0), .lst 1 (y.flow.map icl)]) (r := Ai x29) (calv rfl rfl fnok_236 rfl) (f236_ok hc_1) rfl ?_
   refine Qe 3 rfl ?_
   refine RunD.done ⟨by kernel_rfl, freshL_of [] (by kernel_rfl) (by kernel_rfl), ?_⟩
   refine Tri.ret ?_
   refine Rr (fun r => .tup [Ai r.1, Ab r.2.1, Ai r.2.2]) (fun r => []) [] h ?_ trivial
   rfl
 ·refine Tri.region ?_
  refine Qe 3 rfl ?_
  rcases b2 (x13_2 != 0) with hb_1 | hb_1
  ·refine Qk 19 hb_1 rfl ?_
   refine Qd rfl ?_
   exact (Es0 [22] rfl ⟨.imm (Sub.of_eq (show Ab ((x13_2 != 0) || (!x13_1)) = Ab true by simp only [cond_true, cond_false, Bool.true_or, Bool.false_or, Bool.true_and, Bool.false_and, Bool.or_true, Bool.or_false, Bool.and_true, Bool.and_false, hb_1])) rfl, trivial⟩)
  ·refine Qk 19 hb_1 rfl ?_
   refine Qd rfl ?_
   exact (Es0 [22] rfl ⟨.imm (Sub.of_eq (show Ab ((x13_2 != 0) || (!x13_1)) = Ab (!x13_1) by simp only [cond_true, cond_false, Bool.true_or, Bool.false_or, Bool.true_and, Bool.false_and, Bool.or_true, Bool.or_false, Bool.and_true, Bool.and_false, hb_1])) rfl, trivial⟩)
theorem f40_ok {K : Nat} {a0 : Scene} {a1 : List Int} {a2 : Int} {a3 : Int} {r : Span × Int} (h : f40 K a0 a1 a2 a3 = some r) : CallOK Tryz.prog 40 [.agg (Scene.cl a0), .lst 1 (a1.map icl), Ai a2, Ai a3] [] (.tup [.agg (Span.cl r.1), Ai r.2]) [] := by
 refine CallOK.of_tri Tryz.func40 rfl rfl (Nat.le_of_ble_eq_true rfl) ?_
 unfold f40 at h
 refine Tr ?_
 refine Qe 1 rfl ?_
 refine Qn rfl rfl rfl (v := .ptr 8 0) (x := some (.box (Span.cl (⟨0, 0⟩ : Span)))) (Ax.alloc rfl rfl zer_49 rfl ⟨Sub.refl _, Sub.refl _, trivial⟩) rfl rfl rfl rfl rfl ?_
 refine Qd rfl ?_
 refine Tr ?_
 refine Qn rfl rfl rfl (v := .ptr 10 0) (x := some (.box (Arr2_3.cl (⟨0, 0⟩ : Arr2_3)))) (Ax.alloc rfl rfl zer_97 rfl ⟨Sub.refl _, Sub.refl _, trivial⟩) rfl rfl rfl rfl rfl ?_
 refine RunD.done ?_
 refine Tri.seq ?_
 refine Tr ?_
 refine Q1 rfl rfl rfl (v := .lst 1 (([false, true] : List Bool).map bcl)) (Ax.sl (xs := ([false, true] : List Bool)) rfl slc_191 rfl rfl ⟨Sub.refl _, Sub.refl _, trivial⟩ rfl bcl_len bcl_one bcl_im) ?_
 refine Q1 rfl rfl rfl (Ax.ln (cl := bcl) (xs := ([false, true] : List Bool)) rfl slc_191 rfl) ?_
 refine Qd rfl ?_
 refine Tri.block ?_
 refine Tri.rolled 3 ?_
 refine Rnds.step ?_
 refine Tp rfl ?_
 refine Tri.seq ?_
 refine Tri.cond_t rfl ?_
 refine Tri.skip ?_
 refine Tri.seq ?_
 refine Tri.block ?_
 refine Tr ?_
 refine Qe 1 rfl ?_
 refine Q1 rfl rfl rfl (Ax.ix (cl := bcl) rfl slc_191 rfl rfl rfl) ?_
 refine Qd rfl ?_
 refine Tr ?_
 refine Qe 5 rfl ?_
 obtain ⟨⟨x31_0, x31_1, x31_2⟩, hc, h⟩ := bind_some h
 refine Qc rfl rfl rfl (args := [.agg (Scene.cl a0), .lst 1 (a1.map icl), Ai a2, Ai a3, Ab false]) (r := .tup [optr Laid_basin.cl x31_0, .lst 1 (x31_1.map icl), Ai x31_2]) (calv rfl rfl fnok_120 rfl) (f120_ok hc) rfl ?_
 refine Qd rfl ?_
 refine Tri.seq ?_
 refine Tp rfl ?_
 refine Tri.cond (b := (x31_2 != 0)) rfl (fun hb => ?_) (fun hb => ?_)
 ·have h := cond_t hb h
  refine Tr ?_
  refine Q1 rfl rfl rfl (v := .agg (Span.cl (⟨0, 0⟩ : Span))) (Ax.build rfl zer_49 (bld plc_49 zer_49) rfl ⟨Sub.refl _, Sub.refl _, trivial⟩) ?_
  refine Qe 1 rfl ?_
  refine Qs rfl rfl (x := some (.box (Span.cl (⟨0, 0⟩ : Span)))) (Ax.st_box rfl siz_49 rfl rfl rfl rfl rfl rfl rfl) ?_
  refine Qd rfl ?_
  refine Tri.ret ?_
  refine Rr (fun r => .tup [.agg (Span.cl r.1), Ai r.2]) (fun r => []) [] h ?_ trivial
  rfl
 ·have h := cond_f hb h
  refine Tri.skip ?_
  refine Tr ?_
  refine Qe 1 rfl ?_
  obtain ⟨y, hy, h⟩ := bind_some h
  refine Q1 rfl rfl rfl (v := .ipt (Laid_basin.cl y) 0) (Ax.nil_fz rfl (optr_some hy)) ?_
  refine Qe 3 rfl ?_
  obtain ⟨⟨x45_0, x45_1, x45_2⟩, hc_1, h⟩ := bind_some h
  refine Qc rfl rfl rfl (args := [.agg (Net.cl y.net), .lst 1 (x31_1.map icl)]) (r := .tup [Ai x45_0, Ab x45_1, Ai x45_2]) (calv rfl rfl fnok_121 rfl) (f121_ok hc_1) rfl ?_
  refine Qd rfl ?_
  refine Tri.seq ?_
  refine Tp rfl ?_
  refine Tri.cond (b := (x45_2 != 0)) rfl (fun hb_1 => ?_) (fun hb_1 => ?_)
  ·have h := cond_t hb_1 h
   refine Tr ?_
   refine Q1 rfl rfl rfl (v := .agg (Span.cl (⟨0, 0⟩ : Span))) (Ax.build rfl zer_49 (bld plc_49 zer_49) rfl ⟨Sub.refl _, Sub.refl _, trivial⟩) ?_
   refine Qe 1 rfl ?_
   refine Qs rfl rfl (x := some (.box (Span.cl (⟨0, 0⟩ : Span)))) (Ax.st_box rfl siz_49 rfl rfl rfl rfl rfl rfl rfl) ?_
   refine Qd rfl ?_
   refine Tri.ret ?_
   refine Rr (fun r => .tup [.agg (Span.cl r.1), Ai r.2]) (fun r => []) [] h ?_ trivial
   rfl
  ·have h := cond_f hb_1 h
   refine Tri.skip ?_
   refine Tri.region ?_
   refine Qe 2 rfl ?_
   refine Q1 rfl rfl rfl (Ax.index_ptr (k := .i64) (n := 0) rfl arr_97 rfl rfl rfl (by decide) (by decide)) ?_
   refine Qs rfl rfl (x := some (.box (Arr2_3.cl (⟨x45_0, 0⟩ : Arr2_3)))) (Ax.st_box rfl siz_3 rfl rfl rfl rfl rfl rfl rfl) ?_
   refine RunD.done ?_
   refine Tq rfl ?_
   refine Rnds.step ?_
   refine Tp rfl ?_
   refine Tri.seq ?_
   refine Tri.cond_t rfl ?_
   refine Tri.skip ?_
   refine Tri.seq ?_
   refine Tri.block ?_
   refine Tr ?_
   refine Qe 1 rfl ?_
   refine Q1 rfl rfl rfl (Ax.ix (cl := bcl) rfl slc_191 rfl rfl rfl) ?_
   refine Qd rfl ?_
   refine Tr ?_
   refine Qe 5 rfl ?_
   obtain ⟨⟨x31_0_1, x31_1_1, x31_2_1⟩, hc_2, h⟩ := bind_some h
   refine Qc rfl rfl rfl (args := [.agg (Scene.cl a0), .lst 1 (a1.map icl), Ai a2, Ai a3, Ab true]) (r := .tup [optr Laid_basin.cl x31_0_1, .lst 1 (x31_1_1.map icl), Ai x31_2_1]) (calv rfl rfl fnok_120 rfl) (f120_ok hc_2) rfl ?_
   refine Qd rfl ?_
   refine Tri.seq ?_
   refine Tp rfl ?_
   refine Tri.cond (b := (x31_2_1 != 0)) rfl (fun hb_2 => ?_) (fun hb_2 => ?_)
   ·have h := cond_t hb_2 h
    refine Tr ?_
    refine Q1 rfl rfl rfl (v := .agg (Span.cl (⟨0, 0⟩ : Span))) (Ax.build rfl zer_49 (bld plc_49 zer_49) rfl ⟨Sub.refl _, Sub.refl _, trivial⟩) ?_
    refine Qe 1 rfl ?_
    refine Qs rfl rfl (x := some (.box (Span.cl (⟨0, 0⟩ : Span)))) (Ax.st_box rfl siz_49 rfl rfl rfl rfl rfl rfl rfl) ?_
    refine Qd rfl ?_
    refine Tri.ret ?_
    refine Rr (fun r => .tup [.agg (Span.cl r.1), Ai r.2]) (fun r => []) [] h ?_ trivial
    rfl
   ·have h := cond_f hb_2 h
    refine Tri.skip ?_
    refine Tr ?_
    refine Qe 1 rfl ?_
    obtain ⟨y_1, hy_1, h⟩ := bind_some h
    refine Q1 rfl rfl rfl (v := .ipt (Laid_basin.cl y_1) 0) (Ax.nil_fz rfl (optr_some hy_1)) ?_
    refine Qe 3 rfl ?_
    obtain ⟨⟨x45_0_1, x45_1_1, x45_2_1⟩, hc_3, h⟩ := bind_some h
    refine Qc rfl rfl rfl (args := [.agg (Net.cl y_1.net), .lst 1 (x31_1_1.map icl)]) (r := .tup [Ai x45_0_1, Ab x45_1_1, Ai x45_2_1]) (calv rfl rfl fnok_121 rfl) (f121_ok hc_3) rfl ?_
    refine Qd rfl ?_
    refine Tri.seq ?_
    refine Tp rfl ?_
    refine Tri.cond (b := (x45_2_1 != 0)) rfl (fun hb_3 => ?_) (fun hb_3 => ?_)
    ·have h := cond_t hb_3 h
     refine Tr ?_
     refine Q1 rfl rfl rfl (v := .agg (Span.cl (⟨0, 0⟩ : Span))) (Ax.build rfl zer_49 (bld plc_49 zer_49) rfl ⟨Sub.refl _, Sub.refl _, trivial⟩) ?_
     refine Qe 1 rfl ?_
     refine Qs rfl rfl (x := some (.box (Span.cl (⟨0, 0⟩ : Span)))) (Ax.st_box rfl siz_49 rfl rfl rfl rfl rfl rfl rfl) ?_
     refine Qd rfl ?_
     refine Tri.ret ?_
     refine Rr (fun r => .tup [.agg (Span.cl r.1), Ai r.2]) (fun r => []) [] h ?_ trivial
     rfl
    ·have h := cond_f hb_3 h
     refine Tri.skip ?_
     refine Tri.region ?_
     refine Qe 2 rfl ?_
     refine Q1 rfl rfl rfl (Ax.index_ptr (k := .i64) (n := 1) rfl arr_97 rfl rfl rfl (by decide) (by decide)) ?_
     refine Qs rfl rfl (x := some (.box (Arr2_3.cl (⟨x45_0, x45_0_1⟩ : Arr2_3)))) (Ax.st_box rfl siz_3 rfl rfl rfl rfl rfl rfl rfl) ?_
     refine RunD.done ?_
     refine Tq rfl ?_
     refine Rnds.step ?_
     refine Tp rfl ?_
     refine Tri.seq ?_
     refine Tri.cond_f rfl ?_
     refine Tri.exit ?_
     refine Tr ?_
     refine Q1 rfl rfl rfl (Ax.index_ptr (k := .i64) (n := 0) rfl arr_97 rfl rfl rfl (by decide) (by decide)) ?_
     refine Qe 2 rfl ?_
     refine Q1 rfl rfl rfl (Ax.index_ptr (k := .i64) (n := 1) rfl arr_97 rfl rfl rfl (by decide) (by decide)) ?_
     refine Qe 1 rfl ?_
     refine Q1 rfl rfl rfl (v := .agg (Span.cl (⟨(W (-x45_0)), x45_0_1⟩ : Span))) (Ax.build rfl zer_49 (bld plc_49 zer_49) rfl ⟨Sub.refl _, Sub.refl _, trivial⟩) ?_
     refine Qs rfl rfl (x := some (.box (Span.cl (⟨(W (-x45_0)), x45_0_1⟩ : Span)))) (Ax.st_box rfl siz_49 rfl rfl rfl rfl rfl rfl rfl) ?_
     refine Qd rfl ?_
     refine Tri.ret ?_
     refine Rr (fun r => .tup [.agg (Span.cl r.1), Ai r.2]) (fun r => []) [] h ?_ trivial
     rfl
theorem f42_fr {K : Nat} {a0 : List Sight} {r : List Sight} (h : f42 K a0 = some r) : CallOK Tryz.prog 42 [.lst 5 (a0.map Sight.cl)] [] (.hnd 20270000) [(20270000, .arr 64 5 (r.map Sight.cl))] := by
 unfold f42 at h
 have hr := (app_spec h).2
 rw [List.nil_append] at hr
 subst hr
 cases r with
 | nil =>
  refine CallOK.lst0 fun a cap => ?_
  refine CallOK.of_tri Tryz.func42 rfl rfl (Nat.le_of_ble_eq_true rfl) ?_
  refine Tr ?_
  refine Q1 rfl rfl rfl (v := .lst 5 (([] : List Sight).map Sight.cl)) (Ax.nl 5 rfl rfl) ?_
  refine RunD.done ?_
  refine Tri.seq ?_
  refine Tr ?_
  refine Q1 rfl rfl rfl (v := .sc (.slice a 0 cap)) (Ax.mv rfl rfl) ?_
  refine Q1 rfl rfl rfl (v := Ab a.isNone) (Ax.nilc rfl uns_27 rfl rfl) ?_
  refine RunD.done ?_
  refine Tri.cond (b := a.isNone) rfl (fun hb => ?_) (fun hb => ?_)
  ·refine Tr ?_
   refine Qn rfl rfl rfl (v := .hnd 2) (x := some (.arr 64 5 (([] : List Sight).map Sight.cl))) (Ax.nil_new 64 5 (.inr rfl) rfl) rfl rfl rfl rfl rfl ?_
   refine RunD.done ?_
   refine Tri.ret ?_
   exact RetQ.mk (vs := [.hnd 2]) (.inr rfl) ⟨_, _, rfl, .tmp rfl, rfl⟩ [] [(20270000, 2, .arr 64 5 (([] : List Sight).map Sight.cl))] rfl rfl ⟨⟨_, rfl, .arr (im_flat Sight_im [])⟩, trivial⟩ (.hnd (List.Mem.head _))
  ·refine Tri.skip ?_
   refine Tr ?_
   refine Qn rfl rfl rfl (v := .hnd 5) (x := some (.arr 64 5 (([] : List Sight).map Sight.cl))) (Ax.slice_new rfl rfl slc_27) rfl rfl rfl rfl rfl ?_
   refine Q1 rfl rfl rfl (v := .lst 5 (([] : List Sight).map Sight.cl)) (Ax.move (.inl rfl) (Sub.lstE _ _ _)) ?_
   refine Qa rfl rfl rfl (v := .hnd 7) (x := some (.arr 64 5 (([] : List Sight).map Sight.cl))) (Ax.app_l (cl := Sight.cl) rfl rfl slc_27 rfl rfl rfl Sight_one Sight_im h rfl rfl) rfl rfl rfl rfl rfl ?_
   refine Q1 rfl rfl rfl (v := .hnd 7) (Ax.as rfl rfl) ?_
   refine RunD.done ?_
   refine Tri.ret ?_
   exact RetQ.mk (vs := [.hnd 7]) (.inr rfl) ⟨_, _, rfl, .tmp rfl, rfl⟩ [] [(20270000, 7, .arr 64 5 (([] : List Sight).map Sight.cl))] rfl rfl ⟨⟨_, rfl, .arr (im_flat Sight_im [])⟩, trivial⟩ (.hnd (List.Mem.head _))
 | cons x xs =>
  refine CallOK.of_tri Tryz.func42 rfl rfl (Nat.le_of_ble_eq_true rfl) ?_
  refine Tr ?_
  refine Q1 rfl rfl rfl (v := .lst 5 (([] : List Sight).map Sight.cl)) (Ax.nl 5 rfl rfl) ?_
  refine RunD.done ?_
  refine Tri.seq ?_
  refine Tr ?_
  refine Q1 rfl rfl rfl (v := .lst 5 ((x :: xs : List Sight).map Sight.cl)) (Ax.mv rfl rfl) ?_
  refine Q1 rfl rfl rfl (v := Ab false) (Ax.nilcmp rfl uns_27 rfl (by simp)) ?_
  refine RunD.done ?_
  refine Tri.cond_f rfl ?_
  refine Tri.skip ?_
  refine Tr ?_
  refine Qn rfl rfl rfl (v := .hnd 5) (x := some (.arr 64 5 (([] : List Sight).map Sight.cl))) (Ax.slice_new rfl rfl slc_27) rfl rfl rfl rfl rfl ?_
  refine Q1 rfl rfl rfl (v := .lst 5 (((x :: xs) : List Sight).map Sight.cl)) (Ax.mv rfl rfl) ?_
  refine Qa rfl rfl rfl (v := .hnd 7) (x := some (.arr 64 5 (((x :: xs) : List Sight).map Sight.cl))) (Ax.app_l (cl := Sight.cl) rfl rfl slc_27 rfl rfl rfl Sight_one Sight_im h rfl rfl) rfl rfl rfl rfl rfl ?_
  refine Q1 rfl rfl rfl (v := .hnd 7) (Ax.as rfl rfl) ?_
  refine RunD.done ?_
  refine Tri.ret ?_
  exact RetQ.mk (vs := [.hnd 7]) (.inr rfl) ⟨_, _, rfl, .tmp rfl, rfl⟩ [] [(20270000, 7, .arr 64 5 (((x :: xs) : List Sight).map Sight.cl))] rfl rfl ⟨⟨_, rfl, .arr (im_flat Sight_im (x :: xs))⟩, trivial⟩ (.hnd (List.Mem.head _))
theorem f43_ok {K : Nat} {a0 : List Change} {r : List Change} (h : f43 K a0 = some r) : CallOK Tryz.prog 43 [.lst 5 (a0.map Change.cl)] [] (.lst 5 (r.map Change.cl)) [] := by
 unfold f43 at h
 have hr := (app_spec h).2
 rw [List.nil_append] at hr
 subst hr
 cases r with
 | nil =>
  refine CallOK.lst0 fun a cap => ?_
  refine CallOK.of_tri Tryz.func43 rfl rfl (Nat.le_of_ble_eq_true rfl) ?_
  refine Tr ?_
  refine Q1 rfl rfl rfl (v := .lst 5 (([] : List Change).map Change.cl)) (Ax.nl 5 rfl rfl) ?_
  refine RunD.done ?_
  refine Tri.seq ?_
  refine Tr ?_
  refine Q1 rfl rfl rfl (v := .sc (.slice a 0 cap)) (Ax.mv rfl rfl) ?_
  refine Q1 rfl rfl rfl (v := Ab a.isNone) (Ax.nilc rfl uns_28 rfl rfl) ?_
  refine RunD.done ?_
  refine Tri.cond (b := a.isNone) rfl (fun hb => ?_) (fun hb => ?_)
  ·refine Tr ?_
   refine Q1 rfl rfl rfl (v := .lst 5 (([] : List Change).map Change.cl)) (Ax.nl 5 rfl rfl) ?_
   refine RunD.done ?_
   refine Tri.ret ?_
   exact RetQ.mk (vs := [.lst 5 (([] : List Change).map Change.cl)]) (.inr rfl) ⟨_, _, rfl, .tmp rfl, rfl⟩ [] [] rfl rfl trivial (.rfl' rfl)
  ·refine Tri.skip ?_
   refine Tr ?_
   refine Qn rfl rfl rfl (v := .hnd 5) (x := some (.arr 67 5 (([] : List Change).map Change.cl))) (Ax.slice_new rfl rfl slc_28) rfl rfl rfl rfl rfl ?_
   refine Q1 rfl rfl rfl (v := .lst 5 (([] : List Change).map Change.cl)) (Ax.move (.inl rfl) (Sub.lstE _ _ _)) ?_
   refine Qa rfl rfl rfl (v := .hnd 7) (x := some (.arr 67 5 (([] : List Change).map Change.cl))) (Ax.app_l (cl := Change.cl) rfl rfl slc_28 rfl rfl rfl Change_one Change_im h rfl rfl) rfl rfl rfl rfl rfl ?_
   refine Q1 rfl rfl rfl (v := .hnd 7) (Ax.as rfl rfl) ?_
   refine RunD.done ?_
   refine Tri.ret ?_
   exact RetQ.mk (vs := [.hnd 7]) (.inr rfl) ⟨_, _, rfl, .tmp rfl, rfl⟩ [7] [] rfl rfl trivial (.frz (.hnd (List.Mem.head _) rfl (im_flat Change_im [])) rfl)
 | cons x xs =>
  refine CallOK.of_tri Tryz.func43 rfl rfl (Nat.le_of_ble_eq_true rfl) ?_
  refine Tr ?_
  refine Q1 rfl rfl rfl (v := .lst 5 (([] : List Change).map Change.cl)) (Ax.nl 5 rfl rfl) ?_
  refine RunD.done ?_
  refine Tri.seq ?_
  refine Tr ?_
  refine Q1 rfl rfl rfl (v := .lst 5 ((x :: xs : List Change).map Change.cl)) (Ax.mv rfl rfl) ?_
  refine Q1 rfl rfl rfl (v := Ab false) (Ax.nilcmp rfl uns_28 rfl (by simp)) ?_
  refine RunD.done ?_
  refine Tri.cond_f rfl ?_
  refine Tri.skip ?_
  refine Tr ?_
  refine Qn rfl rfl rfl (v := .hnd 5) (x := some (.arr 67 5 (([] : List Change).map Change.cl))) (Ax.slice_new rfl rfl slc_28) rfl rfl rfl rfl rfl ?_
  refine Q1 rfl rfl rfl (v := .lst 5 (((x :: xs) : List Change).map Change.cl)) (Ax.mv rfl rfl) ?_
  refine Qa rfl rfl rfl (v := .hnd 7) (x := some (.arr 67 5 (((x :: xs) : List Change).map Change.cl))) (Ax.app_l (cl := Change.cl) rfl rfl slc_28 rfl rfl rfl Change_one Change_im h rfl rfl) rfl rfl rfl rfl rfl ?_
  refine Q1 rfl rfl rfl (v := .hnd 7) (Ax.as rfl rfl) ?_
  refine RunD.done ?_
  refine Tri.ret ?_
  exact RetQ.mk (vs := [.hnd 7]) (.inr rfl) ⟨_, _, rfl, .tmp rfl, rfl⟩ [7] [] rfl rfl trivial (.frz (.hnd (List.Mem.head _) rfl (im_flat Change_im (x :: xs))) rfl)
theorem f249_ok {K : Nat} {a0 : List Cell} {r : List Cell} (h : f249 K a0 = some r) : CallOK Tryz.prog 249 [.lst 4 (a0.map Cell.cl)] [] (.lst 4 (r.map Cell.cl)) [] := by
 unfold f249 at h
 have hr := (app_spec h).2
 rw [List.nil_append] at hr
 subst hr
 cases r with
 | nil =>
  refine CallOK.lst0 fun a cap => ?_
  refine CallOK.of_tri Tryz.func249 rfl rfl (Nat.le_of_ble_eq_true rfl) ?_
  refine Tr ?_
  refine Q1 rfl rfl rfl (v := .lst 4 (([] : List Cell).map Cell.cl)) (Ax.nl 4 rfl rfl) ?_
  refine RunD.done ?_
  refine Tri.seq ?_
  refine Tr ?_
  refine Q1 rfl rfl rfl (v := .sc (.slice a 0 cap)) (Ax.mv rfl rfl) ?_
  refine Q1 rfl rfl rfl (v := Ab a.isNone) (Ax.nilc rfl uns_22 rfl rfl) ?_
  refine RunD.done ?_
  refine Tri.cond (b := a.isNone) rfl (fun hb => ?_) (fun hb => ?_)
  ·refine Tr ?_
   refine Q1 rfl rfl rfl (v := .lst 4 (([] : List Cell).map Cell.cl)) (Ax.nl 4 rfl rfl) ?_
   refine RunD.done ?_
   refine Tri.ret ?_
   exact RetQ.mk (vs := [.lst 4 (([] : List Cell).map Cell.cl)]) (.inr rfl) ⟨_, _, rfl, .tmp rfl, rfl⟩ [] [] rfl rfl trivial (.rfl' rfl)
  ·refine Tri.skip ?_
   refine Tr ?_
   refine Qn rfl rfl rfl (v := .hnd 5) (x := some (.arr 56 4 (([] : List Cell).map Cell.cl))) (Ax.slice_new rfl rfl slc_22) rfl rfl rfl rfl rfl ?_
   refine Q1 rfl rfl rfl (v := .lst 4 (([] : List Cell).map Cell.cl)) (Ax.move (.inl rfl) (Sub.lstE _ _ _)) ?_
   refine Qa rfl rfl rfl (v := .hnd 7) (x := some (.arr 56 4 (([] : List Cell).map Cell.cl))) (Ax.app_l (cl := Cell.cl) rfl rfl slc_22 rfl rfl rfl Cell_one Cell_im h rfl rfl) rfl rfl rfl rfl rfl ?_
   refine Q1 rfl rfl rfl (v := .hnd 7) (Ax.as rfl rfl) ?_
   refine RunD.done ?_
   refine Tri.ret ?_
   exact RetQ.mk (vs := [.hnd 7]) (.inr rfl) ⟨_, _, rfl, .tmp rfl, rfl⟩ [7] [] rfl rfl trivial (.frz (.hnd (List.Mem.head _) rfl (im_flat Cell_im [])) rfl)
 | cons x xs =>
  refine CallOK.of_tri Tryz.func249 rfl rfl (Nat.le_of_ble_eq_true rfl) ?_
  refine Tr ?_
  refine Q1 rfl rfl rfl (v := .lst 4 (([] : List Cell).map Cell.cl)) (Ax.nl 4 rfl rfl) ?_
  refine RunD.done ?_
  refine Tri.seq ?_
  refine Tr ?_
  refine Q1 rfl rfl rfl (v := .lst 4 ((x :: xs : List Cell).map Cell.cl)) (Ax.mv rfl rfl) ?_
  refine Q1 rfl rfl rfl (v := Ab false) (Ax.nilcmp rfl uns_22 rfl (by simp)) ?_
  refine RunD.done ?_
  refine Tri.cond_f rfl ?_
  refine Tri.skip ?_
  refine Tr ?_
  refine Qn rfl rfl rfl (v := .hnd 5) (x := some (.arr 56 4 (([] : List Cell).map Cell.cl))) (Ax.slice_new rfl rfl slc_22) rfl rfl rfl rfl rfl ?_
  refine Q1 rfl rfl rfl (v := .lst 4 (((x :: xs) : List Cell).map Cell.cl)) (Ax.mv rfl rfl) ?_
  refine Qa rfl rfl rfl (v := .hnd 7) (x := some (.arr 56 4 (((x :: xs) : List Cell).map Cell.cl))) (Ax.app_l (cl := Cell.cl) rfl rfl slc_22 rfl rfl rfl Cell_one Cell_im h rfl rfl) rfl rfl rfl rfl rfl ?_
  refine Q1 rfl rfl rfl (v := .hnd 7) (Ax.as rfl rfl) ?_
  refine RunD.done ?_
  refine Tri.ret ?_
  exact RetQ.mk (vs := [.hnd 7]) (.inr rfl) ⟨_, _, rfl, .tmp rfl, rfl⟩ [7] [] rfl rfl trivial (.frz (.hnd (List.Mem.head _) rfl (im_flat Cell_im (x :: xs))) rfl)
theorem f250_ok {K : Nat} {a0 : List Arr2_3} {r : List Arr2_3} (h : f250 K a0 = some r) : CallOK Tryz.prog 250 [.lst 2 (a0.map Arr2_3.cl)] [] (.lst 2 (r.map Arr2_3.cl)) [] := by
 unfold f250 at h
 have hr := (app_spec h).2
 rw [List.nil_append] at hr
 subst hr
 cases r with
 | nil =>
  refine CallOK.lst0 fun a cap => ?_
  refine CallOK.of_tri Tryz.func250 rfl rfl (Nat.le_of_ble_eq_true rfl) ?_
  refine Tr ?_
  refine Q1 rfl rfl rfl (v := .lst 2 (([] : List Arr2_3).map Arr2_3.cl)) (Ax.nl 2 rfl rfl) ?_
  refine RunD.done ?_
  refine Tri.seq ?_
  refine Tr ?_
  refine Q1 rfl rfl rfl (v := .sc (.slice a 0 cap)) (Ax.mv rfl rfl) ?_
  refine Q1 rfl rfl rfl (v := Ab a.isNone) (Ax.nilc rfl uns_23 rfl rfl) ?_
  refine RunD.done ?_
  refine Tri.cond (b := a.isNone) rfl (fun hb => ?_) (fun hb => ?_)
  ·refine Tr ?_
   refine Q1 rfl rfl rfl (v := .lst 2 (([] : List Arr2_3).map Arr2_3.cl)) (Ax.nl 2 rfl rfl) ?_
   refine RunD.done ?_
   refine Tri.ret ?_
   exact RetQ.mk (vs := [.lst 2 (([] : List Arr2_3).map Arr2_3.cl)]) (.inr rfl) ⟨_, _, rfl, .tmp rfl, rfl⟩ [] [] rfl rfl trivial (.rfl' rfl)
  ·refine Tri.skip ?_
   refine Tr ?_
   refine Qn rfl rfl rfl (v := .hnd 5) (x := some (.arr 97 2 (([] : List Arr2_3).map Arr2_3.cl))) (Ax.slice_new rfl rfl slc_23) rfl rfl rfl rfl rfl ?_
   refine Q1 rfl rfl rfl (v := .lst 2 (([] : List Arr2_3).map Arr2_3.cl)) (Ax.move (.inl rfl) (Sub.lstE _ _ _)) ?_
   refine Qa rfl rfl rfl (v := .hnd 7) (x := some (.arr 97 2 (([] : List Arr2_3).map Arr2_3.cl))) (Ax.app_l (cl := Arr2_3.cl) rfl rfl slc_23 rfl rfl rfl Arr2_3_one Arr2_3_im h rfl rfl) rfl rfl rfl rfl rfl ?_
   refine Q1 rfl rfl rfl (v := .hnd 7) (Ax.as rfl rfl) ?_
   refine RunD.done ?_
   refine Tri.ret ?_
   exact RetQ.mk (vs := [.hnd 7]) (.inr rfl) ⟨_, _, rfl, .tmp rfl, rfl⟩ [7] [] rfl rfl trivial (.frz (.hnd (List.Mem.head _) rfl (im_flat Arr2_3_im [])) rfl)
 | cons x xs =>
  refine CallOK.of_tri Tryz.func250 rfl rfl (Nat.le_of_ble_eq_true rfl) ?_
  refine Tr ?_
  refine Q1 rfl rfl rfl (v := .lst 2 (([] : List Arr2_3).map Arr2_3.cl)) (Ax.nl 2 rfl rfl) ?_
  refine RunD.done ?_
  refine Tri.seq ?_
  refine Tr ?_
  refine Q1 rfl rfl rfl (v := .lst 2 ((x :: xs : List Arr2_3).map Arr2_3.cl)) (Ax.mv rfl rfl) ?_
  refine Q1 rfl rfl rfl (v := Ab false) (Ax.nilcmp rfl uns_23 rfl (by simp)) ?_
  refine RunD.done ?_
  refine Tri.cond_f rfl ?_
  refine Tri.skip ?_
  refine Tr ?_
  refine Qn rfl rfl rfl (v := .hnd 5) (x := some (.arr 97 2 (([] : List Arr2_3).map Arr2_3.cl))) (Ax.slice_new rfl rfl slc_23) rfl rfl rfl rfl rfl ?_
  refine Q1 rfl rfl rfl (v := .lst 2 (((x :: xs) : List Arr2_3).map Arr2_3.cl)) (Ax.mv rfl rfl) ?_
  refine Qa rfl rfl rfl (v := .hnd 7) (x := some (.arr 97 2 (((x :: xs) : List Arr2_3).map Arr2_3.cl))) (Ax.app_l (cl := Arr2_3.cl) rfl rfl slc_23 rfl rfl rfl Arr2_3_one Arr2_3_im h rfl rfl) rfl rfl rfl rfl rfl ?_
  refine Q1 rfl rfl rfl (v := .hnd 7) (Ax.as rfl rfl) ?_
  refine RunD.done ?_
  refine Tri.ret ?_
  exact RetQ.mk (vs := [.hnd 7]) (.inr rfl) ⟨_, _, rfl, .tmp rfl, rfl⟩ [7] [] rfl rfl trivial (.frz (.hnd (List.Mem.head _) rfl (im_flat Arr2_3_im (x :: xs))) rfl)
theorem f131_ok {K : Nat} {a0 : Scene} {r : Scene} (h : f131 K a0 = some r) : CallOK Tryz.prog 131 [.agg (Scene.cl a0)] [] (.agg (Scene.cl r)) [] := by
 refine CallOK.of_tri Tryz.func131 rfl rfl (Nat.le_of_ble_eq_true rfl) ?_
 unfold f131 at h
 refine Tr ?_
 refine Qn rfl rfl rfl (v := .ptr 1 0) (x := some (.box (Scene.cl a0))) (Ax.box_ptr rfl rfl rfl rfl) rfl rfl rfl rfl rfl ?_
 refine Qn rfl rfl rfl (v := .ptr 2 0) (x := some (.box [.lst 4 (([] : List Cell).map Cell.cl), .lst 2 (([] : List Arr2_3).map Arr2_3.cl), Ai 0, Ai 0, Ai 0, .lst 1 (([] : List Int).map icl), .sc (.slice none 0 0), .lst 5 (([] : List Change).map Change.cl)])) (Ax.alloc rfl rfl zer_30 rfl ⟨Sub.nil _, Sub.nil _, Sub.refl _, Sub.refl _, Sub.refl _, Sub.nil _, Sub.refl _, Sub.nil _, trivial⟩) rfl rfl rfl rfl rfl ?_
 refine RunD.done ?_
 refine Tri.ent (Ent.ghost 2 6 900000206 64 5 (cells' := [.lst 4 (([] : List Cell).map Cell.cl), .lst 2 (([] : List Arr2_3).map Arr2_3.cl), Ai 0, Ai 0, Ai 0, .lst 1 (([] : List Int).map icl), .hnd 900000206, .lst 5 (([] : List Change).map Change.cl)]) rfl rfl rfl rfl) ?_
 refine Tr ?_
 refine Qe 3 rfl ?_
 obtain ⟨x6, hc, h⟩ := bind_some h
 refine Qc rfl rfl rfl (args := [.lst 4 (a0.Basin.Cells.map Cell.cl)]) (r := .lst 4 (x6.map Cell.cl)) (calv rfl rfl fnok_249 rfl) (f249_ok hc) rfl ?_
 refine Qe 2 rfl ?_
 refine Qs rfl rfl (x := some (.box (Scene.cl (⟨(⟨x6, a0.Basin.Pairs, a0.Basin.Gain, a0.Basin.Slack, a0.Basin.Deep⟩ : Basin), a0.Days, a0.Sights, a0.Changes⟩ : Scene)))) (Ax.st_box rfl siz_22 rfl rfl rfl rfl rfl rfl rfl) ?_
 refine RunD.done ?_
 refine Tr ?_
 refine Qe 3 rfl ?_
 obtain ⟨x12, hc_1, h⟩ := bind_some h
 refine Qc rfl rfl rfl (args := [.lst 2 (a0.Basin.Pairs.map Arr2_3.cl)]) (r := .lst 2 (x12.map Arr2_3.cl)) (calv rfl rfl fnok_250 rfl) (f250_ok hc_1) rfl ?_
 refine Qe 2 rfl ?_
 refine Qs rfl rfl (x := some (.box (Scene.cl (⟨(⟨x6, x12, a0.Basin.Gain, a0.Basin.Slack, a0.Basin.Deep⟩ : Basin), a0.Days, a0.Sights, a0.Changes⟩ : Scene)))) (Ax.st_box rfl siz_23 rfl rfl rfl rfl rfl rfl rfl) ?_
 refine RunD.done ?_
 refine Tr ?_
 refine Qe 2 rfl ?_
 obtain ⟨x17, hc_2, h⟩ := bind_some h
 refine Qc rfl rfl rfl (args := [.lst 1 (a0.Days.map icl)]) (r := .lst 1 (x17.map icl)) (calv rfl rfl fnok_85 rfl) (f85_ok hc_2) rfl ?_
 refine Qe 1 rfl ?_
 refine Qs rfl rfl (x := some (.box (Scene.cl (⟨(⟨x6, x12, a0.Basin.Gain, a0.Basin.Slack, a0.Basin.Deep⟩ : Basin), x17, a0.Sights, a0.Changes⟩ : Scene)))) (Ax.st_box rfl siz_26 rfl rfl rfl rfl rfl rfl rfl) ?_
 refine RunD.done ?_
 refine Tr ?_
 refine Qe 2 rfl ?_
 obtain ⟨x21, hc_3, h⟩ := bind_some h
 refine Qo [] [(20270000, .arr 64 5 (x21.map Sight.cl))] [20270000] rfl rfl rfl (args := [.lst 5 (a0.Sights.map Sight.cl)]) (r := .hnd 20270000) (calv rfl rfl fnok_42 rfl) (f42_fr hc_3) trivial rfl rfl rfl rfl rfl ?_
 refine Qe 1 rfl ?_
 refine Qs rfl rfl (x := some (.box [.lst 4 (x6.map Cell.cl), .lst 2 (x12.map Arr2_3.cl), Ai a0.Basin.Gain, Ai a0.Basin.Slack, Ai a0.Basin.Deep, .lst 1 (x17.map icl), .hnd 20270000, .lst 5 (a0.Changes.map Change.cl)])) (Ax.st_box rfl siz_27 rfl rfl rfl rfl rfl rfl rfl) ?_
 refine RunD.done ?_
 refine Tr ?_
 refine Qe 2 rfl ?_
 obtain ⟨x25, hc_4, h⟩ := bind_some h
 refine Qc rfl rfl rfl (args := [.lst 5 (a0.Changes.map Change.cl)]) (r := .lst 5 (x25.map Change.cl)) (calv rfl rfl fnok_43 rfl) (f43_ok hc_4) rfl ?_
 refine Qe 1 rfl ?_
 refine Qs rfl rfl (x := some (.box [.lst 4 (x6.map Cell.cl), .lst 2 (x12.map Arr2_3.cl), Ai a0.Basin.Gain, Ai a0.Basin.Slack, Ai a0.Basin.Deep, .lst 1 (x17.map icl), .hnd 20270000, .lst 5 (x25.map Change.cl)])) (Ax.st_box rfl siz_28 rfl rfl rfl rfl rfl rfl rfl) ?_
 refine RunD.done ?_
 refine Tr ?_
 refine Qe 1 rfl ?_
 refine Qs rfl rfl (x := some (.box [.lst 4 (x6.map Cell.cl), .lst 2 (x12.map Arr2_3.cl), Ai a0.Basin.Gain, Ai a0.Basin.Slack, Ai a0.Basin.Deep, .lst 1 (x17.map icl), .hnd 20270000, .lst 5 (x25.map Change.cl)])) (Ax.st_box rfl siz_30 rfl rfl rfl rfl rfl rfl rfl) ?_
 refine RunD.done ?_
 refine Tri.ret ?_
 refine RetQ.eq2 (fun r => .agg (Scene.cl r)) (fun r => []) (Option.some.inj h) ?_
 exact RetQ.mk (vs := [.agg [.lst 4 (x6.map Cell.cl), .lst 2 (x12.map Arr2_3.cl), Ai a0.Basin.Gain, Ai a0.Basin.Slack, Ai a0.Basin.Deep, .lst 1 (x17.map icl), .hnd 20270000, .lst 5 (x25.map Change.cl)]]) (.inr rfl) ⟨_, _, rfl, .cell_box rfl siz_30 rfl rfl rfl, rfl⟩ [20270000] [] rfl rfl trivial (.frz (.aggV ⟨(.imm rfl), (.imm rfl), (.imm rfl), (.imm rfl), (.imm rfl), (.imm rfl), (.hnd (List.Mem.head _) rfl (im_flat Sight_im x21)), (.imm rfl), trivial⟩) rfl)
theorem f131_fr {K : Nat} {a0 : Scene} {r : Scene} (h : f131 K a0 = some r) : CallOK Tryz.prog 131 [.agg (Scene.cl a0)] [] (.agg [.lst 4 (r.Basin.Cells.map Cell.cl), .lst 2 (r.Basin.Pairs.map Arr2_3.cl), Ai r.Basin.Gain, Ai r.Basin.Slack, Ai r.Basin.Deep, .lst 1 (r.Days.map icl), .hnd 1325007, .lst 5 (r.Changes.map Change.cl)]) [(1325007, .arr 64 5 (r.Sights.map Sight.cl))] := by
 refine CallOK.of_tri Tryz.func131 rfl rfl (Nat.le_of_ble_eq_true rfl) ?_
 unfold f131 at h
 refine Tr ?_
 refine Qn rfl rfl rfl (v := .ptr 1 0) (x := some (.box (Scene.cl a0))) (Ax.box_ptr rfl rfl rfl rfl) rfl rfl rfl rfl rfl ?_
 refine Qn rfl rfl rfl (v := .ptr 2 0) (x := some (.box [.lst 4 (([] : List Cell).map Cell.cl), .lst 2 (([] : List Arr2_3).map Arr2_3.cl), Ai 0, Ai 0, Ai 0, .lst 1 (([] : List Int).map icl), .sc (.slice none 0 0), .lst 5 (([] : List Change).map Change.cl)])) (Ax.alloc rfl rfl zer_30 rfl ⟨Sub.nil _, Sub.nil _, Sub.refl _, Sub.refl _, Sub.refl _, Sub.nil _, Sub.refl _, Sub.nil _, trivial⟩) rfl rfl rfl rfl rfl ?_
 refine RunD.done ?_
 refine Tri.ent (Ent.ghost 2 6 900000206 64 5 (cells' := [.lst 4 (([] : List Cell).map Cell.cl), .lst 2 (([] : List Arr2_3).map Arr2_3.cl), Ai 0, Ai 0, Ai 0, .lst 1 (([] : List Int).map icl), .hnd 900000206, .lst 5 (([] : List Change).map Change.cl)]) rfl rfl rfl rfl) ?_
 refine Tr ?_
 refine Qe 3 rfl ?_
 obtain ⟨x6, hc, h⟩ := bind_some h
 refine Qc rfl rfl rfl (args := [.lst 4 (a0.Basin.Cells.map Cell.cl)]) (r := .lst 4 (x6.map Cell.cl)) (calv rfl rfl fnok_249 rfl) (f249_ok hc) rfl ?_
 refine Qe 2 rfl ?_
 refine Qs rfl rfl (x := some (.box (Scene.cl (⟨(⟨x6, a0.Basin.Pairs, a0.Basin.Gain, a0.Basin.Slack, a0.Basin.Deep⟩ : Basin), a0.Days, a0.Sights, a0.Changes⟩ : Scene)))) (Ax.st_box rfl siz_22 rfl rfl rfl rfl rfl rfl rfl) ?_
 refine RunD.done ?_
 refine Tr ?_
 refine Qe 3 rfl ?_
 obtain ⟨x12, hc_1, h⟩ := bind_some h
 refine Qc rfl rfl rfl (args := [.lst 2 (a0.Basin.Pairs.map Arr2_3.cl)]) (r := .lst 2 (x12.map Arr2_3.cl)) (calv rfl rfl fnok_250 rfl) (f250_ok hc_1) rfl ?_
 refine Qe 2 rfl ?_
 refine Qs rfl rfl (x := some (.box (Scene.cl (⟨(⟨x6, x12, a0.Basin.Gain, a0.Basin.Slack, a0.Basin.Deep⟩ : Basin), a0.Days, a0.Sights, a0.Changes⟩ : Scene)))) (Ax.st_box rfl siz_23 rfl rfl rfl rfl rfl rfl rfl) ?_
 refine RunD.done ?_
 refine Tr ?_
 refine Qe 2 rfl ?_
 obtain ⟨x17, hc_2, h⟩ := bind_some h
 refine Qc rfl rfl rfl (args := [.lst 1 (a0.Days.map icl)]) (r := .lst 1 (x17.map icl)) (calv rfl rfl fnok_85 rfl) (f85_ok hc_2) rfl ?_
 refine Qe 1 rfl ?_
 refine Qs rfl rfl (x := some (.box (Scene.cl (⟨(⟨x6, x12, a0.Basin.Gain, a0.Basin.Slack, a0.Basin.Deep⟩ : Basin), x17, a0.Sights, a0.Changes⟩ : Scene)))) (Ax.st_box rfl siz_26 rfl rfl rfl rfl rfl rfl rfl) ?_
 refine RunD.done ?_
 refine Tr ?_
 refine Qe 2 rfl ?_
 obtain ⟨x21, hc_3, h⟩ := bind_some h
 refine Qo [] [(20270000, .arr 64 5 (x21.map Sight.cl))] [20270000] rfl rfl rfl (args := [.lst 5 (a0.Sights.map Sight.cl)]) (r := .hnd 20270000) (calv rfl rfl fnok_42 rfl) (f42_fr hc_3) trivial rfl rfl rfl rfl rfl ?_
 refine Qe 1 rfl ?_
 refine Qs rfl rfl (x := some (.box [.lst 4 (x6.map Cell.cl), .lst 2 (x12.map Arr2_3.cl), Ai a0.Basin.Gain, Ai a0.Basin.Slack, Ai a0.Basin.Deep, .lst 1 (x17.map icl), .hnd 20270000, .lst 5 (a0.Changes.map Change.cl)])) (Ax.st_box rfl siz_27 rfl rfl rfl rfl rfl rfl rfl) ?_
 refine RunD.done ?_
 refine Tr ?_
 refine Qe 2 rfl ?_
 obtain ⟨x25, hc_4, h⟩ := bind_some h
 refine Qc rfl rfl rfl (args := [.lst 5 (a0.Changes.map Change.cl)]) (r := .lst 5 (x25.map Change.cl)) (calv rfl rfl fnok_43 rfl) (f43_ok hc_4) rfl ?_
 refine Qe 1 rfl ?_
 refine Qs rfl rfl (x := some (.box [.lst 4 (x6.map Cell.cl), .lst 2 (x12.map Arr2_3.cl), Ai a0.Basin.Gain, Ai a0.Basin.Slack, Ai a0.Basin.Deep, .lst 1 (x17.map icl), .hnd 20270000, .lst 5 (x25.map Change.cl)])) (Ax.st_box rfl siz_28 rfl rfl rfl rfl rfl rfl rfl) ?_
 refine RunD.done ?_
 refine Tr ?_
 refine Qe 1 rfl ?_
 refine Qs rfl rfl (x := some (.box [.lst 4 (x6.map Cell.cl), .lst 2 (x12.map Arr2_3.cl), Ai a0.Basin.Gain, Ai a0.Basin.Slack, Ai a0.Basin.Deep, .lst 1 (x17.map icl), .hnd 20270000, .lst 5 (x25.map Change.cl)])) (Ax.st_box rfl siz_30 rfl rfl rfl rfl rfl rfl rfl) ?_
 refine RunD.done ?_
 refine Tri.ret ?_
 refine Rr (fun r => .agg [.lst 4 (r.Basin.Cells.map Cell.cl), .lst 2 (r.Basin.Pairs.map Arr2_3.cl), Ai r.Basin.Gain, Ai r.Basin.Slack, Ai r.Basin.Deep, .lst 1 (r.Days.map icl), .hnd 1325007, .lst 5 (r.Changes.map Change.cl)]) (fun r => [(1325007, .arr 64 5 (r.Sights.map Sight.cl))]) [20270000] h ?_ ?_
 ·rfl
 exact ⟨imf Sight_im, trivial⟩
theorem f53_ok {K : Nat} {a0 : Scene} {a1 : Sight} {r : Scene × Int} (h : f53 K a0 a1 = some r) : CallOK Tryz.prog 53 [.agg (Scene.cl a0), .agg (Sight.cl a1)] [] (.tup [.agg (Scene.cl r.1), Ai r.2]) [] := by
 refine CallOK.of_tri Tryz.func53 rfl rfl (Nat.le_of_ble_eq_true rfl) ?_
 unfold f53 at h
 refine Tr ?_
 refine Qe 2 rfl ?_
 refine Qn rfl rfl rfl (v := .ptr 4 0) (x := some (.box (Scene.cl (⟨(⟨([] : List Cell), ([] : List Arr2_3), 0, 0, 0⟩ : Basin), ([] : List Int), ([] : List Sight), ([] : List Change)⟩ : Scene)))) (Ax.alloc rfl rfl zer_30 rfl ⟨Sub.nil _, Sub.nil _, Sub.refl _, Sub.refl _, Sub.refl _, Sub.nil _, Sub.nil _, Sub.nil _, trivial⟩) rfl rfl rfl rfl rfl ?_
 refine Qd rfl ?_
 refine Tri.seq ?_
 refine Tr ?_
 refine Qe 1 rfl ?_
 obtain ⟨x9, hc, h⟩ := bind_some h
 refine Qc rfl rfl rfl (args := [.agg (Scene.cl a0)]) (r := Ai x9) (calv rfl rfl fnok_66 rfl) (f66_ok hc) rfl ?_
 refine Qd rfl ?_
 refine Tp rfl ?_
 refine Tri.cond (b := (x9 != 0)) rfl (fun hb => ?_) (fun hb => ?_)
 ·have h := cond_t hb h
  refine Tr ?_
  refine Q1 rfl rfl rfl (v := .agg (Scene.cl (⟨(⟨([] : List Cell), ([] : List Arr2_3), 0, 0, 0⟩ : Basin), ([] : List Int), ([] : List Sight), ([] : List Change)⟩ : Scene))) (Ax.build rfl zer_30 (bld plc_30 zer_30) rfl ⟨Sub.nil _, Sub.nil _, Sub.refl _, Sub.refl _, Sub.refl _, Sub.nil _, Sub.nil _, Sub.nil _, trivial⟩) ?_
  refine Qe 1 rfl ?_
  refine Qs rfl rfl (x := some (.box (Scene.cl (⟨(⟨([] : List Cell), ([] : List Arr2_3), 0, 0, 0⟩ : Basin), ([] : List Int), ([] : List Sight), ([] : List Change)⟩ : Scene)))) (Ax.st_box rfl siz_30 rfl rfl rfl rfl rfl rfl rfl) ?_
  refine Qd rfl ?_
  refine Tri.ret ?_
  refine Rr (fun r => .tup [.agg (Scene.cl r.1), Ai r.2]) (fun r => []) [] h ?_ trivial
  rfl
 ·have h := cond_f hb h
  refine Tri.skip ?_
  refine Tri.seq ?_
  refine Tr ?_
  refine Qe 2 rfl ?_
  refine Q1 rfl rfl rfl (Ax.ln (cl := Sight.cl) rfl slc_27 rfl) ?_
  refine Qd rfl ?_
  refine Tri.cond (b := ((a0.Sights.length : Int) == 256)) rfl (fun hb_1 => ?_) (fun hb_1 => ?_)
  ·have h := cond_t hb_1 h
   refine Tr ?_
   refine Q1 rfl rfl rfl (v := .agg (Scene.cl (⟨(⟨([] : List Cell), ([] : List Arr2_3), 0, 0, 0⟩ : Basin), ([] : List Int), ([] : List Sight), ([] : List Change)⟩ : Scene))) (Ax.build rfl zer_30 (bld plc_30 zer_30) rfl ⟨Sub.nil _, Sub.nil _, Sub.refl _, Sub.refl _, Sub.refl _, Sub.nil _, Sub.nil _, Sub.nil _, trivial⟩) ?_
   refine Qs rfl rfl (x := some (.box (Scene.cl (⟨(⟨([] : List Cell), ([] : List Arr2_3), 0, 0, 0⟩ : Basin), ([] : List Int), ([] : List Sight), ([] : List Change)⟩ : Scene)))) (Ax.st_box rfl siz_30 rfl rfl rfl rfl rfl rfl rfl) ?_
   refine Qd rfl ?_
   refine Tri.ret ?_
   refine Rr (fun r => .tup [.agg (Scene.cl r.1), Ai r.2]) (fun r => []) [] h ?_ trivial
   rfl
  ·have h := cond_f hb_1 h
   refine Tri.skip ?_
   refine Tri.seq ?_
   refine Tr ?_
   refine Qe 2 rfl ?_
   obtain ⟨x21, hc_1, h⟩ := bind_some h
   refine Qc rfl rfl rfl (args := [.agg (Scene.cl a0), .agg (Sight.cl a1)]) (r := Ab x21) (calv rfl rfl fnok_130 rfl) (f130_ok hc_1) rfl ?_
   refine Qd rfl ?_
   refine Tri.cond (b := (!x21)) rfl (fun hb_2 => ?_) (fun hb_2 => ?_)
   ·have h := cond_t hb_2 h
    refine Tr ?_
    refine Q1 rfl rfl rfl (v := .agg (Scene.cl (⟨(⟨([] : List Cell), ([] : List Arr2_3), 0, 0, 0⟩ : Basin), ([] : List Int), ([] : List Sight), ([] : List Change)⟩ : Scene))) (Ax.build rfl zer_30 (bld plc_30 zer_30) rfl ⟨Sub.nil _, Sub.nil _, Sub.refl _, Sub.refl _, Sub.refl _, Sub.nil _, Sub.nil _, Sub.nil _, trivial⟩) ?_
    refine Qs rfl rfl (x := some (.box (Scene.cl (⟨(⟨([] : List Cell), ([] : List Arr2_3), 0, 0, 0⟩ : Basin), ([] : List Int), ([] : List Sight), ([] : List Change)⟩ : Scene)))) (Ax.st_box rfl siz_30 rfl rfl rfl rfl rfl rfl rfl) ?_
    refine Qd rfl ?_
    refine Tri.ret ?_
    refine Rr (fun r => .tup [.agg (Scene.cl r.1), Ai r.2]) (fun r => []) [] h ?_ trivial
    rfl
   ·have h := cond_f hb_2 h
    refine Tri.skip ?_
    refine Tr ?_
    refine Qe 1 rfl ?_
    obtain ⟨x25, hc_2, h⟩ := bind_some h
    refine Qo [] [(1325007, .arr 64 5 (x25.Sights.map Sight.cl))] [1325007] rfl rfl rfl (args := [.agg (Scene.cl a0)]) (r := .agg [.lst 4 (x25.Basin.Cells.map Cell.cl), .lst 2 (x25.Basin.Pairs.map Arr2_3.cl), Ai x25.Basin.Gain, Ai x25.Basin.Slack, Ai x25.Basin.Deep, .lst 1 (x25.Days.map icl), .hnd 1325007, .lst 5 (x25.Changes.map Change.cl)]) (calv rfl rfl fnok_131 rfl) (f131_fr hc_2) trivial rfl rfl rfl rfl rfl ?_
    refine Qn rfl rfl rfl (v := .ptr 7 0) (x := some (.box [.lst 4 (([] : List Cell).map Cell.cl), .lst 2 (([] : List Arr2_3).map Arr2_3.cl), Ai 0, Ai 0, Ai 0, .lst 1 (([] : List Int).map icl), .sc (.slice none 0 0), .lst 5 (([] : List Change).map Change.cl)])) (Ax.alloc rfl rfl zer_30 rfl ⟨Sub.nil _, Sub.nil _, Sub.refl _, Sub.refl _, Sub.refl _, Sub.nil _, Sub.refl _, Sub.nil _, trivial⟩) rfl rfl rfl rfl rfl ?_
    refine Qs rfl rfl (x := some (.box [.lst 4 (x25.Basin.Cells.map Cell.cl), .lst 2 (x25.Basin.Pairs.map Arr2_3.cl), Ai x25.Basin.Gain, Ai x25.Basin.Slack, Ai x25.Basin.Deep, .lst 1 (x25.Days.map icl), .hnd 1325007, .lst 5 (x25.Changes.map Change.cl)])) (Ax.st_box rfl siz_30 rfl rfl rfl rfl rfl rfl rfl) ?_
    refine RunD.done ?_
    refine Tr ?_
    refine Qe 3 rfl ?_
    refine Q1 rfl rfl rfl (v := .lst 5 (([a1] : List Sight).map Sight.cl)) (Ax.sl (xs := ([a1] : List Sight)) rfl slc_27 rfl rfl ⟨Sub.refl _, Sub.refl _, Sub.refl _, Sub.refl _, Sub.refl _, trivial⟩ rfl Sight_len Sight_one Sight_im) ?_
    obtain ⟨z30, hz, h⟩ := bind_some h
    refine Qa rfl rfl rfl (v := .hnd 30) (x := some (.arr 64 5 (z30.map Sight.cl))) (Ax.app_l (cl := Sight.cl) rfl rfl slc_27 rfl rfl rfl Sight_one Sight_im hz rfl rfl) rfl rfl rfl rfl rfl ?_
    refine Qe 1 rfl ?_
    refine Qs rfl rfl (x := some (.box [.lst 4 (x25.Basin.Cells.map Cell.cl), .lst 2 (x25.Basin.Pairs.map Arr2_3.cl), Ai x25.Basin.Gain, Ai x25.Basin.Slack, Ai x25.Basin.Deep, .lst 1 (x25.Days.map icl), .hnd 30, .lst 5 (x25.Changes.map Change.cl)])) (Ax.st_box rfl siz_27 rfl rfl rfl rfl rfl rfl rfl) ?_
    refine RunD.done ?_
    refine Tr ?_
    refine Qe 1 rfl ?_
    refine Qs rfl rfl (x := some (.box [.lst 4 (x25.Basin.Cells.map Cell.cl), .lst 2 (x25.Basin.Pairs.map Arr2_3.cl), Ai x25.Basin.Gain, Ai x25.Basin.Slack, Ai x25.Basin.Deep, .lst 1 (x25.Days.map icl), .hnd 30, .lst 5 (x25.Changes.map Change.cl)])) (Ax.st_box rfl siz_30 rfl rfl rfl rfl rfl rfl rfl) ?_
    refine Qd rfl ?_
    refine Tri.ret ?_
    refine RetQ.eq2 (fun r => .tup [.agg (Scene.cl r.1), Ai r.2]) (fun r => []) (Option.some.inj h) ?_
    exact RetQ.mk (vs := [.agg [.lst 4 (x25.Basin.Cells.map Cell.cl), .lst 2 (x25.Basin.Pairs.map Arr2_3.cl), Ai x25.Basin.Gain, Ai x25.Basin.Slack, Ai x25.Basin.Deep, .lst 1 (x25.Days.map icl), .hnd 30, .lst 5 (x25.Changes.map Change.cl)], Ai 0]) (.inr rfl) ⟨_, _, rfl, .cell_box rfl siz_30 rfl rfl rfl, ⟨_, _, rfl, .tmp rfl, rfl⟩⟩ [30] [] rfl rfl trivial (.tupV ⟨.frz (.aggV ⟨(.imm rfl), (.imm rfl), (.imm rfl), (.imm rfl), (.imm rfl), (.imm rfl), (.hnd (List.Mem.head _) rfl (im_flat Sight_im z30)), (.imm rfl), trivial⟩) rfl, .rfl' rfl, trivial⟩)
theorem f252_ok {K : Nat} {a0 : List Int} {r : List Int} (h : f252 K a0 = some r) : CallOK Tryz.prog 252 [.hnd 20260000] [(20260000, .arr 3 1 (a0.map icl))] (.tup []) [(20260000, .arr 3 1 (r.map icl))] := by
 refine CallOK.of_tri Tryz.func252 rfl rfl (Nat.le_of_ble_eq_true rfl) ?_
 unfold f252 at h
 refine Tr ?_
 refine Qe 1 rfl ?_
 refine Q1 rfl rfl rfl (Ax.lnh (cl := icl) rfl slc_26 rfl rfl) ?_
 refine Qd rfl ?_
 obtain ⟨vok0, hj, h⟩ := bind_some h
 refine Tri.whlv hj (fun p => ⟨[(0, .hnd 20260000), (2, Ai p.2.1), (3, Ai p.2.2)], [(20260000, some (.arr 3 1 (p.1.map icl)))]⟩) (fun (y : List Int) => ⟨[], [(20260000, some (.arr 3 1 (y.map icl)))]⟩) (Ee [20260000] rfl ⟨imf icl_im, trivial⟩) ?_ ?_
 ·refine RetQ.eq2 (fun r => .tup []) (fun r => [(20260000, .arr 3 1 (r.map icl))]) (Option.some.inj h) ?_
  exact RetQ.mk (vs := []) (.inl rfl) rfl [] [(20260000, 20260000, .arr 3 1 (vok0.map icl))] rfl rfl ⟨⟨_, rfl, .arr (im_flat icl_im vok0)⟩, trivial⟩ (.tupV trivial)
 ·rintro nx ⟨vo0, v2, v3⟩ h
  refine Tri.seq ?_
  refine Tp rfl ?_
  refine Tri.cond (b := (decide (v2 < v3))) rfl (fun hb => ?_) (fun hb => ?_)
  ·have h := cond_t hb h
   refine Tri.skip ?_
   refine Tri.seq ?_
   refine Tri.block ?_
   refine Tri.drawn [[], [], [], [], [], [], [4, 5], [4, 5, 6], [], [], [8, 9], [8, 9, 10], [0, 1, 4, 5, 6, 7, 8, 9, 10, 11], [0, 1, 4, 5, 6, 7, 8, 9, 10, 11, 12], [0, 1, 2, 3, 4, 5, 6, 7, 8, 9, 10, 11, 12, 13], [0, 1, 2, 3, 4, 5, 6, 7, 8, 9, 10, 11, 12, 13, 14]] hmix (by kernel_rfl) ?_
   refine Qe 6 rfl ?_
   obtain ⟨y, hy, h⟩ := bind_some h
   refine Q1 rfl rfl rfl (Ax.ixh (cl := icl) rfl slc_26 rfl rfl rfl hy) ?_
   refine Q1 rfl rfl rfl (Ax.l1_arr (cl := icl) rfl siz_3 rfl rfl hy rfl) ?_
   refine Qe 2 rfl ?_
   obtain ⟨y_1, hy_1, h⟩ := bind_some h
   refine Q1 rfl rfl rfl (Ax.ixh (cl := icl) rfl slc_26 rfl rfl rfl hy_1) ?_
   refine Q1 rfl rfl rfl (Ax.l1_arr (cl := icl) rfl siz_3 rfl rfl hy_1 rfl) ?_
   refine Q1 rfl rfl rfl (Ax.ixh (cl := icl) rfl slc_26 rfl rfl rfl hy_1) ?_
   refine Qs rfl rfl (x := some (.arr 3 1 ((vo0.set (Int.toNat v2) y).map icl))) (Ax.st_arr (cl := icl) (q := y) rfl siz_3 rfl rfl hy_1 rfl rfl rfl rfl rfl rfl) ?_
   obtain ⟨y_2, hy_2, h⟩ := bind_some h
   refine Q1 rfl rfl rfl (Ax.ixh (cl := icl) rfl slc_26 rfl rfl rfl hy_2) ?_
   refine Qs rfl rfl (x := some (.arr 3 1 (((vo0.set (Int.toNat v2) y).set (Int.toNat v3) y_1).map icl))) (Ax.st_arr (cl := icl) (q := y_1) rfl siz_3 rfl rfl hy_2 rfl rfl rfl rfl rfl rfl) ?_
   refine RunD.done ⟨by kernel_rfl, freshL_of [] (by kernel_rfl) (by kernel_rfl), ?_⟩
   refine Tq rfl ?_
   exact Exists.intro (((vo0.set (Int.toNat v2) y).set (Int.toNat v3) y_1), (W (v2 + 1)), (W (v3 - 1))) (And.intro h (Ee [20260000] rfl ⟨imf icl_im, trivial⟩))
  ·have h := cond_f hb h
   refine Tri.exit ?_
   exact Exists.intro vo0 (And.intro h (Ee [20260000] rfl ⟨imf icl_im, trivial⟩))
theorem f132_ok {K : Nat} {a0 : Net} {r : List Int × Bool × Int} (h : f132 K a0 = some r) : CallOK Tryz.prog 132 [.agg (Net.cl a0)] [] (.tup [.lst 1 (r.1.map icl), Ab r.2.1, Ai r.2.2]) [] := by
 refine CallOK.of_tri Tryz.func132 rfl rfl (Nat.le_of_ble_eq_true rfl) ?_
 unfold f132 at h
 refine Tr ?_
 refine Qe 1 rfl ?_
 refine Q1 rfl rfl rfl (v := .lst 1 (([] : List Int).map icl)) (Ax.nl 1 rfl rfl) ?_
 refine Qd rfl ?_
 refine Tri.seq ?_
 refine Tr ?_
 refine Qe 1 rfl ?_
 obtain ⟨x13, hc, h⟩ := bind_some h
 refine Qc rfl rfl rfl (args := [.agg (Net.cl a0)]) (r := Ai x13) (calv rfl rfl fnok_227 rfl) (f227_ok hc) rfl ?_
 refine Qd rfl ?_
 refine Tp rfl ?_
 refine Tri.cond (b := (x13 != 0)) rfl (fun hb => ?_) (fun hb => ?_)
 ·have h := cond_t hb h
  refine Tr ?_
  refine Qe 1 rfl ?_
  refine Q1 rfl rfl rfl (v := .lst 1 (([] : List Int).map icl)) (Ax.nl 1 rfl rfl) ?_
  refine Qd rfl ?_
  refine Tri.ret ?_
  refine Rr (fun r => .tup [.lst 1 (r.1.map icl), Ab r.2.1, Ai r.2.2]) (fun r => []) [] h ?_ trivial
  rfl
 ·have h := cond_f hb h
  refine Tri.skip ?_
  refine Tr ?_
  refine Qe 1 rfl ?_
  refine Q1 rfl rfl rfl (v := .agg (Plain_diffs.cl (⟨a0⟩ : Plain_diffs))) (Ax.build rfl zer_322 (bld plc_322 zer_322) rfl ⟨Sub.refl _, Sub.refl _, trivial⟩) ?_
  refine Q1 rfl rfl rfl (v := .ifc 322 (.agg (Plain_diffs.cl (⟨a0⟩ : Plain_diffs)))) (Ax.ifc' rfl nif_322 rfl) ?_
  obtain ⟨⟨x21_0, x21_1, x21_2⟩, hc_1, h⟩ := bind_some h
  refine Qc rfl rfl rfl (args := [.ifc 322 (.fz (.agg (Plain_diffs.cl (⟨a0⟩ : Plain_diffs))))]) (r := .tup [.lst 1 (x21_0.map icl), .agg (Tree_diffs.cl x21_1), Ai x21_2]) (calw rfl rfl fnok_251 ⟨Sub.fz rfl, trivial⟩) (f251_ok ⟨⟨386, fnok_386, meth_322_386, fun _ hr => (f386_ok (K := K) hr).fz1⟩, ⟨387, fnok_387, meth_322_387, fun _ hr => (f387_ok (K := K) hr).fz1⟩, rfl, rfl⟩ hc_1) rfl ?_
  refine Qe 4 rfl ?_
  refine Qn rfl rfl rfl (v := .ptr 7 0) (x := some (.box (Tree_diffs.cl (⟨([] : List Int), ([] : List Bool), ([] : List Int)⟩ : Tree_diffs)))) (Ax.alloc rfl rfl zer_318 rfl ⟨Sub.nil _, Sub.nil _, Sub.nil _, trivial⟩) rfl rfl rfl rfl rfl ?_
  refine Qe 1 rfl ?_
  refine Qs rfl rfl (x := some (.box (Tree_diffs.cl x21_1))) (Ax.st_box rfl siz_318 rfl rfl rfl rfl rfl rfl rfl) ?_
  refine Qd rfl ?_
  refine Tri.seq ?_
  refine Tp rfl ?_
  refine Tri.cond (b := (decide (x21_2 < 0))) rfl (fun hb_1 => ?_) (fun hb_1 => ?_)
  ·have h := cond_t hb_1 h
   refine Tr ?_
   refine Q1 rfl rfl rfl (v := .lst 1 (([] : List Int).map icl)) (Ax.nl 1 rfl rfl) ?_
   refine Qd rfl ?_
   refine Tri.ret ?_
   refine Rr (fun r => .tup [.lst 1 (r.1.map icl), Ab r.2.1, Ai r.2.2]) (fun r => []) [] h ?_ trivial
   rfl
  ·have h := cond_f hb_1 h
   refine Tri.skip ?_
   refine Tr ?_
   refine Qn rfl rfl rfl (v := .hnd 9) (x := some (.arr 3 1 (([] : List Int).map icl))) (Ax.nil_new 3 1 (.inr rfl) rfl) rfl rfl rfl rfl rfl ?_
   refine RunD.done ?_
   refine Tri.seq ?_
   refine Tp rfl ?_
   obtain ⟨vo9_1, hj, h⟩ := bind_some h
   refine Tri.whlv hj (fun p => ⟨[(1, .ipt (Net.cl a0) 0), (7, .ptr 7 0), (8, Ai x21_2), (9, .hnd 9), (10, Ai p.2)], [(7, some (.box (Tree_diffs.cl x21_1))), (9, some (.arr 3 1 (p.1.map icl)))]⟩) (fun (y : List Int) => ⟨[(9, .hnd 36)], [(36, some (.arr 3 1 (y.map icl)))]⟩) (Ee [7, 9] rfl ⟨im_flat icl_im ([] : List Int), trivial⟩) ?_ ?_
   ·refine Tri.seq ?_
    refine Tri.ent (Ent.norm [] [(20260000, 36, .arr 3 1 (vo9_1.map icl))] [(9, .hnd 20260000)] rfl ⟨⟨_, rfl, .arr (im_flat icl_im vo9_1)⟩, trivial⟩ ⟨.hnd (List.Mem.head _), trivial⟩) ?_
    refine Tri.region ?_
    refine Qe 1 rfl ?_
    obtain ⟨x47, hc_2, h⟩ := bind_some h
    refine Qo [(20260000, .arr 3 1 (vo9_1.map icl))] [(20260000, .arr 3 1 (x47.map icl))] [] rfl rfl rfl (args := [.hnd 20260000]) (r := .tup []) (calv rfl rfl fnok_252 rfl) (f252_ok hc_2) ⟨rfl, trivial⟩ rfl rfl rfl rfl rfl ?_
    refine RunD.done ?_
    refine Tp rfl ?_
    refine Tri.ret ?_
    refine RetQ.eq2 (fun r => .tup [.lst 1 (r.1.map icl), Ab r.2.1, Ai r.2.2]) (fun r => []) (Option.some.inj h) ?_
    exact RetQ.mk (vs := [.hnd 20260000, Ab true, Ai 0]) (.inr rfl) ⟨_, _, rfl, .tmp rfl, ⟨_, _, rfl, .tmp rfl, ⟨_, _, rfl, .tmp rfl, rfl⟩⟩⟩ [20260000] [] rfl rfl trivial (.tupV ⟨.frz (.hnd (List.Mem.head _) rfl (im_flat icl_im x47)) rfl, .rfl' rfl, .rfl' rfl, trivial⟩)
   ·rintro nx ⟨vo9, v10⟩ h
    refine Tri.block ?_
    refine Tr ?_
    refine Qe 3 rfl ?_
    obtain ⟨y, hy, h⟩ := bind_some h
    refine Q1 rfl rfl rfl (Ax.ix (cl := icl) rfl slc_26 rfl rfl hy) ?_
    refine Qd rfl ?_
    refine Tr ?_
    refine Qe 2 rfl ?_
    refine Q1 rfl rfl rfl (v := .lst 1 (([y] : List Int).map icl)) (Ax.sl (xs := ([y] : List Int)) rfl slc_26 rfl rfl ⟨Sub.refl _, trivial⟩ rfl icl_len icl_one icl_im) ?_
    obtain ⟨z36, hz, h⟩ := bind_some h
    refine Qa rfl rfl rfl (v := .hnd 36) (x := some (.arr 3 1 (z36.map icl))) (Ax.app_l (cl := icl) rfl rfl slc_26 rfl rfl rfl icl_one icl_im hz rfl rfl) rfl rfl rfl rfl rfl ?_
    refine Qd rfl ?_
    refine Tr ?_
    refine Qe 3 rfl ?_
    obtain ⟨y_1, hy_1, h⟩ := bind_some h
    refine Q1 rfl rfl rfl (Ax.ix (cl := Diff.cl) rfl slc_32 rfl rfl hy_1) ?_
    refine Qd rfl ?_
    refine Tp rfl ?_
    refine Tri.cond (b := (y_1.From == x21_2)) rfl (fun hb_2 => ?_) (fun hb_2 => ?_)
    ·have h := cond_t hb_2 h
     refine Tri.exit ?_
     exact Exists.intro z36 (And.intro h (Ee [36] rfl ⟨imf icl_im, trivial⟩))
    ·have h := cond_f hb_2 h
     refine Tri.skip ?_
     exact Exists.intro (z36, y_1.From) (And.intro h (Ee [7, 36] rfl ⟨imf icl_im, trivial⟩))
theorem f350_ok {K : Nat} {a0 : Int} {r : Bool} (h : f350 K a0 = some r) : CallOK Tryz.prog 350 [Ai a0] [] (Ab r) [] := by
 refine CallOK.of_tri Tryz.func350 rfl rfl (Nat.le_of_ble_eq_true rfl) ?_
 unfold f350 at h
 refine Tp rfl ?_
 refine Tp rfl ?_
 refine Tri.ret ?_
 exact Rb h rfl
theorem f319_ok {K : Nat} {a0 : Int} {a1 : Int} {r : Bool} (h : f319 K a0 a1 = some r) : CallOK Tryz.prog 319 [Ai a0, Ai a1] [] (Ab r) [] := by
 refine CallOK.of_tri Tryz.func319 rfl rfl (Nat.le_of_ble_eq_true rfl) ?_
 unfold f319 at h
 refine Tp rfl ?_
 refine Tri.seq ?_
 obtain ⟨v4, hj, h⟩ := bind_some h
 refine Tri.joinv v4 (fun (y : Bool) => ⟨[(4, Ab y)], []⟩) ?_ ?_
 ·refine Tri.ret ?_
  exact Rb h rfl
 ·have h := hj
  refine Tri.region ?_
  refine Qe 1 rfl ?_
  obtain ⟨x6, hc, h⟩ := bind_some h
  refine Qc rfl rfl rfl (args := [Ai a0]) (r := Ab x6) (calv rfl rfl fnok_350 rfl) (f350_ok hc) rfl ?_
  refine Qe 1 rfl ?_
  rcases b2 x6 with hb | hb
  ·have h := cond_t hb h
   refine Qk 7 hb rfl ?_
   refine Qe 1 rfl ?_
   obtain ⟨x9, hc_1, h⟩ := bind_some h
   refine Qc rfl rfl rfl (args := [Ai a1]) (r := Ab x9) (calv rfl rfl fnok_350 rfl) (f350_ok hc_1) rfl ?_
   refine Qe 3 rfl ?_
   rcases b2 (!x9) with hb_1 | hb_1
   ·have h := cond_t hb_1 h
    refine Qk 12 hb_1 rfl ?_
    refine Qd rfl ?_
    exact Exists.intro true (And.intro h (E0 rfl))
   ·have h := cond_f hb_1 h
    refine Qk 12 hb_1 rfl ?_
    refine Qd rfl ?_
    exact Exists.intro (decide (a0 < a1)) (And.intro h (E0 rfl))
  ·have h := cond_f hb h
   refine Qk 7 hb rfl ?_
   refine Qd rfl ?_
   exact Exists.intro (decide (a0 < a1)) (And.intro h (E0 rfl))
theorem f313_ok {K : Nat} {a0 : List Int} {a1 : Int} {a2 : Int} {r : List Int} (h : f313 K a0 a1 a2 = some r) : CallOK Tryz.prog 313 [.hnd 20260000, Ai a1, Ai a2] [(20260000, .arr 3 1 (a0.map icl))] (.tup []) [(20260000, .arr 3 1 (r.map icl))] := by
 refine CallOK.of_tri Tryz.func313 rfl rfl (Nat.le_of_ble_eq_true rfl) ?_
 unfold f313 at h
 refine Tp rfl ?_
 obtain ⟨vok0, hj, h⟩ := bind_some h
 refine Tri.rngNv hj (fun p => ⟨[(0, .hnd 20260000), (1, Ai a1), (2, Ai a2), (6, Ai p.1)], [(20260000, some (.arr 3 1 (p.2.map icl)))]⟩) (fun (y : List Int) => ⟨[], [(20260000, some (.arr 3 1 (y.map icl)))]⟩) (Ee [20260000] rfl ⟨imf icl_im, trivial⟩) ?_ ?_ ?_
 ·refine RetQ.eq2 (fun r => .tup []) (fun r => [(20260000, .arr 3 1 (r.map icl))]) (Option.some.inj h) ?_
  exact RetQ.mk (vs := []) (.inl rfl) rfl [] [(20260000, 20260000, .arr 3 1 (vok0.map icl))] rfl rfl ⟨⟨_, rfl, .arr (im_flat icl_im vok0)⟩, trivial⟩ (.tupV trivial)
 ·rintro v6 vo0 hi _ h
  refine Tri.seq ?_
  refine Tp rfl ?_
  refine Tri.cond (b := (decide (v6 < a2))) rfl (fun hb => ?_) (fun hb => ?_)
  ·exact (lt_f hi hb).elim
  ·refine Tri.exit ?_
   exact Exists.intro vo0 (And.intro h (Ee [20260000] rfl ⟨imf icl_im, trivial⟩))
 ·rintro nx v6 vo0 _ hi hw h
  refine Tri.seq ?_
  refine Tp rfl ?_
  refine Tri.cond (b := (decide (v6 < a2))) rfl (fun hb_1 => ?_) (fun hb_1 => ?_)
  ·refine Tri.skip ?_
   refine Tri.seq ?_
   refine Tri.block ?_
   refine Tp rfl ?_
   obtain ⟨vo0_2, hj_1, h⟩ := bind_some h
   refine Tri.whlv hj_1 (fun p => ⟨[(0, .hnd 20260000), (1, Ai a1), (2, Ai a2), (6, Ai v6), (7, Ai p.2)], [(20260000, some (.arr 3 1 (p.1.map icl)))]⟩) (fun (y : List Int) => ⟨[(0, .hnd 20260000), (1, Ai a1), (2, Ai a2), (6, Ai v6)], [(20260000, some (.arr 3 1 (y.map icl)))]⟩) (Ee [20260000] rfl ⟨imf icl_im, trivial⟩) ?_ ?_
   ·refine Tq rfl ?_
    exact Exists.intro (v6 + 1, vo0_2) (And.intro (And.intro rfl h) (Es [20260000] [6] rfl ⟨imf icl_im, trivial⟩ ⟨.imm (Sub.of_eq (show Ai (v6 + 1) = Ai (W (v6 + 1)) from congrArg Ai hw.symm)) rfl, trivial⟩))
   ·rintro nx_1 ⟨vo0_1, v7⟩ h
    refine Tri.seq ?_
    refine Tri.seq ?_
    obtain ⟨v30, hj_2, h⟩ := bind_some h
    refine Tri.joinv v30 (fun (y : Bool) => ⟨[(0, .hnd 20260000), (1, Ai a1), (2, Ai a2), (6, Ai v6), (7, Ai v7), (30, Ab y)], [(20260000, some (.arr 3 1 (vo0_1.map icl)))]⟩) ?_ ?_
    ·refine Tri.cond (b := v30) rfl (fun hb_2 => ?_) (fun hb_2 => ?_)
     ·have h := cond_t hb_2 h
      refine Tri.skip ?_
      refine Tri.seq ?_
      refine Tri.block ?_
      refine Tri.drawn [[], [], [], [], [3], [], [], [6], [5, 6, 7], [5, 6, 7, 8], [], [], [10, 11], [10, 11, 12], [0, 1, 5, 6, 7, 8, 9, 10, 11, 12, 13], [0, 1, 5, 6, 7, 8, 9, 10, 11, 12, 13, 14], [0, 1, 2, 3, 4, 5, 6, 7, 8, 9, 10, 11, 12, 13, 14, 15], [0, 1, 2, 3, 4, 5, 6, 7, 8, 9, 10, 11, 12, 13, 14, 15, 16]] hmix (by kernel_rfl) ?_
      refine Qe 8 rfl ?_
      obtain ⟨y, hy, h⟩ := bind_some h
      refine Q1 rfl rfl rfl (Ax.ixh (cl := icl) rfl slc_26 rfl rfl rfl hy) ?_
      refine Q1 rfl rfl rfl (Ax.l1_arr (cl := icl) rfl siz_3 rfl rfl hy rfl) ?_
      refine Qe 2 rfl ?_
      obtain ⟨y_1, hy_1, h⟩ := bind_some h
      refine Q1 rfl rfl rfl (Ax.ixh (cl := icl) rfl slc_26 rfl rfl rfl hy_1) ?_
      refine Q1 rfl rfl rfl (Ax.l1_arr (cl := icl) rfl siz_3 rfl rfl hy_1 rfl) ?_
      refine Q1 rfl rfl rfl (Ax.ixh (cl := icl) rfl slc_26 rfl rfl rfl hy_1) ?_
      refine Qs rfl rfl (x := some (.arr 3 1 ((vo0_1.set (Int.toNat v7) y).map icl))) (Ax.st_arr (cl := icl) (q := y) rfl siz_3 rfl rfl hy_1 rfl rfl rfl rfl rfl rfl) ?_
      obtain ⟨y_2, hy_2, h⟩ := bind_some h
      refine Q1 rfl rfl rfl (Ax.ixh (cl := icl) rfl slc_26 rfl rfl rfl hy_2) ?_
      refine Qs rfl rfl (x := some (.arr 3 1 (((vo0_1.set (Int.toNat v7) y).set (Int.toNat (W (v7 - 1))) y_1).map icl))) (Ax.st_arr (cl := icl) (q := y_1) rfl siz_3 rfl rfl hy_2 rfl rfl rfl rfl rfl rfl) ?_
      refine RunD.done ⟨by kernel_rfl, freshL_of [] (by kernel_rfl) (by kernel_rfl), ?_⟩
      refine Tq rfl ?_
      exact Exists.intro (((vo0_1.set (Int.toNat v7) y).set (Int.toNat (W (v7 - 1))) y_1), (W (v7 - 1))) (And.intro h (Ee [20260000] rfl ⟨imf icl_im, trivial⟩))
     ·have h := cond_f hb_2 h
      refine Tri.exit ?_
      exact Exists.intro vo0_1 (And.intro h (Ee [20260000] rfl ⟨imf icl_im, trivial⟩))
    ·have h := hj_2
     refine Tri.drawn [[], [], [0, 1], [0, 1, 2], [0, 1, 2, 3], [0, 1, 2, 3], [0, 1, 2, 3, 4, 5], [0, 1, 2, 3, 4, 5, 6], [0, 1, 2, 3], [0, 1, 2, 3], [0, 1, 2, 3, 9], [0, 1, 2, 3, 8, 9, 10], [0, 1, 2, 3, 8, 9, 10, 11], [0, 1, 2, 3, 4, 5, 6, 7, 8, 9, 10, 11, 12], [0, 1, 2, 3, 4, 5, 6, 7, 8, 9, 10, 11, 12, 13]] hmix (by kernel_rfl) ?_
     refine Qe 4 rfl ?_
     rcases b2 (decide (v7 > a1)) with hb_3 | hb_3
     ·have h := cond_t hb_3 h
      refine Qk 19 hb_3 rfl ?_
      refine Qe 2 rfl ?_
      obtain ⟨y_3, hy_3, h⟩ := bind_some h
      refine Q1 rfl rfl rfl (Ax.ixh (cl := icl) rfl slc_26 rfl rfl rfl hy_3) ?_
      refine Q1 rfl rfl rfl (Ax.l1_arr (cl := icl) rfl siz_3 rfl rfl hy_3 rfl) ?_
      refine Qe 3 rfl ?_
      obtain ⟨y_4, hy_4, h⟩ := bind_some h
      refine Q1 rfl rfl rfl (Ax.ixh (cl := icl) rfl slc_26 rfl rfl rfl hy_4) ?_
      refine Q1 rfl rfl rfl (Ax.l1_arr (cl := icl) rfl siz_3 rfl rfl hy_4 rfl) ?_
      obtain ⟨x29, hc, h⟩ := bind_some h
      refine Qc rfl rfl rfl (args := [Ai y_3, Ai y_4]) (r := Ab x29) (calv rfl rfl fnok_319 rfl) (f319_ok hc) rfl ?_
      refine Qe 1 rfl ?_
      refine RunD.done ⟨by kernel_rfl, freshL_of [] (by kernel_rfl) (by kernel_rfl), ?_⟩
      exact Exists.intro x29 (And.intro h (Ee [20260000] rfl ⟨imf icl_im, trivial⟩))
     ·have h := cond_f hb_3 h
      refine Qk 19 hb_3 rfl ?_
      refine Qe 11 rfl ?_
      refine RunD.done ⟨by kernel_rfl, freshL_of [] (by kernel_rfl) (by kernel_rfl), ?_⟩
      exact Exists.intro false (And.intro h (Ee [20260000] rfl ⟨imf icl_im, trivial⟩))
  ·exact (lt_t hi hb_1).elim
theorem f345_ok {K : Nat} {a0 : List Int} {a1 : Int} {a2 : Int} {a3 : Int} {r : List Int} (h : f345 K a0 a1 a2 a3 = some r) : CallOK Tryz.prog 345 [.hnd 20260000, Ai a1, Ai a2, Ai a3] [(20260000, .arr 3 1 (a0.map icl))] (.tup []) [(20260000, .arr 3 1 (r.map icl))] := by
 refine CallOK.of_tri Tryz.func345 rfl rfl (Nat.le_of_ble_eq_true rfl) ?_
 unfold f345 at h
 refine Tp rfl ?_
 obtain ⟨j, hj, h⟩ := jo h
 refine Tri.whl h (fun p => ⟨[(0, .hnd 20260000), (2, Ai a2), (3, Ai a3), (8, Ai p.2)], [(20260000, some (.arr 3 1 (p.1.map icl)))]⟩) (fun y => j y = some r) (fun (y : List Int) => ⟨[], [(20260000, some (.arr 3 1 (y.map icl)))]⟩) (Ee [20260000] rfl ⟨imf icl_im, trivial⟩) ?_ ?_
 ·rintro vok0 h
  subst hj
  refine RetQ.eq2 (fun r => .tup []) (fun r => [(20260000, .arr 3 1 (r.map icl))]) (Option.some.inj h) ?_
  exact RetQ.mk (vs := []) (.inl rfl) rfl [] [(20260000, 20260000, .arr 3 1 (vok0.map icl))] rfl rfl ⟨⟨_, rfl, .arr (im_flat icl_im vok0)⟩, trivial⟩ (.tupV trivial)
 ·rintro nx ⟨vo0, v8⟩ h
  refine Tri.block ?_
  refine Tp rfl ?_
  refine Tri.seq ?_
  refine Tp rfl ?_
  refine Tri.cond (b := (decide ((W ((W (2 * v8)) + 1)) ≥ a2))) rfl (fun hb => ?_) (fun hb => ?_)
  ·have h := cond_t hb h
   refine Tri.exit ?_
   exact Exists.intro vo0 (And.intro h (Ee [20260000] rfl ⟨imf icl_im, trivial⟩))
  ·have h := cond_f hb h
   refine Tri.skip ?_
   refine Tri.seq ?_
   refine Tri.seq ?_
   obtain ⟨v36, hj_1, h⟩ := bind_some h
   refine Tri.joinv v36 (fun (y : Bool) => ⟨[(0, .hnd 20260000), (2, Ai a2), (3, Ai a3), (8, Ai v8), (9, Ai (W ((W (2 * v8)) + 1))), (36, Ab y)], [(20260000, some (.arr 3 1 (vo0.map icl)))]⟩) ?_ ?_
   ·obtain ⟨v9, hv, h⟩ := lt h
    refine Tri.join1 ⟨[(0, .hnd 20260000), (2, Ai a2), (3, Ai a3), (8, Ai v8), (9, Ai v9)], [(20260000, some (.arr 3 1 (vo0.map icl)))]⟩ ?_ ?_
    ·refine Tri.seq ?_
     refine Tri.seq ?_
     refine Tri.drawn [[], [], [], [1, 2], [0, 1, 2, 3], [0, 1, 2, 3, 4], [], [], [], [7, 8], [6, 7, 8, 9], [6, 7, 8, 9, 10], [0, 1, 2, 3, 4, 5, 6, 7, 8, 9, 10, 11], [0, 1, 2, 3, 4, 5, 6, 7, 8, 9, 10, 11, 12]] hmix (by kernel_rfl) ?_
     refine Qe 4 rfl ?_
     obtain ⟨y, hy, h⟩ := bind_some h
     refine Q1 rfl rfl rfl (Ax.ixh (cl := icl) rfl slc_26 rfl rfl rfl hy) ?_
     refine Q1 rfl rfl rfl (Ax.l1_arr (cl := icl) rfl siz_3 rfl rfl hy rfl) ?_
     refine Qe 4 rfl ?_
     obtain ⟨y_1, hy_1, h⟩ := bind_some h
     refine Q1 rfl rfl rfl (Ax.ixh (cl := icl) rfl slc_26 rfl rfl rfl hy_1) ?_
     refine Q1 rfl rfl rfl (Ax.l1_arr (cl := icl) rfl siz_3 rfl rfl hy_1 rfl) ?_
     obtain ⟨x51, hc, h⟩ := bind_some h
     refine Qc rfl rfl rfl (args := [Ai y, Ai y_1]) (r := Ab x51) (calv rfl rfl fnok_319 rfl) (f319_ok hc) rfl ?_
     refine Qe 1 rfl ?_
     refine RunD.done ⟨by kernel_rfl, freshL_of [] (by kernel_rfl) (by kernel_rfl), ?_⟩
     refine Tri.cond (b := (!x51)) rfl (fun hb_1 => ?_) (fun hb_1 => ?_)
     ·have h := cond_t hb_1 h
      refine Tri.ret ?_
      refine RetQ.eq2 (fun r => .tup []) (fun r => [(20260000, .arr 3 1 (r.map icl))]) (Option.some.inj h) ?_
      exact RetQ.mk (vs := []) (.inr rfl) rfl [] [(20260000, 20260000, .arr 3 1 (vo0.map icl))] rfl rfl ⟨⟨_, rfl, .arr (im_flat icl_im vo0)⟩, trivial⟩ (.tupV trivial)
     ·have h := cond_f hb_1 h
      refine Tri.skip ?_
      refine Tri.seq ?_
      refine Tri.drawn [[], [], [], [1, 2], [], [], [], [5, 6], [], [], [], [9, 10], [8, 9, 10, 11], [8, 9, 10, 11, 12], [], [], [], [15, 16], [14, 15, 16, 17], [14, 15, 16, 17, 18], [0, 1, 2, 3, 8, 9, 10, 11, 12, 13, 14, 15, 16, 17, 18, 19], [0, 1, 2, 3, 8, 9, 10, 11, 12, 13, 14, 15, 16, 17, 18, 19, 20], [0, 1, 2, 3, 4, 5, 6, 7, 8, 9, 10, 11, 12, 13, 14, 15, 16, 17, 18, 19, 20, 21], [0, 1, 2, 3, 4, 5, 6, 7, 8, 9, 10, 11, 12, 13, 14, 15, 16, 17, 18, 19, 20, 21, 22]] hmix (by kernel_rfl) ?_
      refine Qe 12 rfl ?_
      refine Q1 rfl rfl rfl (Ax.ixh (cl := icl) rfl slc_26 rfl rfl rfl hy_1) ?_
      refine Q1 rfl rfl rfl (Ax.l1_arr (cl := icl) rfl siz_3 rfl rfl hy_1 rfl) ?_
      refine Qe 4 rfl ?_
      refine Q1 rfl rfl rfl (Ax.ixh (cl := icl) rfl slc_26 rfl rfl rfl hy) ?_
      refine Q1 rfl rfl rfl (Ax.l1_arr (cl := icl) rfl siz_3 rfl rfl hy rfl) ?_
      refine Q1 rfl rfl rfl (Ax.ixh (cl := icl) rfl slc_26 rfl rfl rfl hy) ?_
      refine Qs rfl rfl (x := some (.arr 3 1 ((vo0.set (Int.toNat (W (a3 + v8))) y_1).map icl))) (Ax.st_arr (cl := icl) (q := y_1) rfl siz_3 rfl rfl hy rfl rfl rfl rfl rfl rfl) ?_
      obtain ⟨y_2, hy_2, h⟩ := bind_some h
      refine Q1 rfl rfl rfl (Ax.ixh (cl := icl) rfl slc_26 rfl rfl rfl hy_2) ?_
      refine Qs rfl rfl (x := some (.arr 3 1 (((vo0.set (Int.toNat (W (a3 + v8))) y_1).set (Int.toNat (W (a3 + v9))) y).map icl))) (Ax.st_arr (cl := icl) (q := y) rfl siz_3 rfl rfl hy_2 rfl rfl rfl rfl rfl rfl) ?_
      refine RunD.done ⟨by kernel_rfl, freshL_of [] (by kernel_rfl) (by kernel_rfl), ?_⟩
      refine Tq rfl ?_
      exact Exists.intro (((vo0.set (Int.toNat (W (a3 + v8))) y_1).set (Int.toNat (W (a3 + v9))) y), v9) (And.intro h (Ee [20260000] rfl ⟨imf icl_im, trivial⟩))
    ·refine Tri.cond (b := v36) rfl (fun hb_2 => ?_) (fun hb_2 => ?_)
     ·refine Tq rfl ?_
      exact (Es [20260000] [9] rfl ⟨imf icl_im, trivial⟩ ⟨.imm (Sub.of_eq (show Ai v9 = Ai (W ((W ((W (2 * v8)) + 1)) + 1)) by simp only [cond_true, cond_false, Bool.true_or, Bool.false_or, Bool.true_and, Bool.false_and, Bool.or_true, Bool.or_false, Bool.and_true, Bool.and_false, hv, hb, hb_2])) rfl, trivial⟩)
     ·refine Tri.skip ?_
      exact (Es [20260000] [9] rfl ⟨imf icl_im, trivial⟩ ⟨.imm (Sub.of_eq (show Ai v9 = Ai (W ((W (2 * v8)) + 1)) by simp only [cond_true, cond_false, Bool.true_or, Bool.false_or, Bool.true_and, Bool.false_and, Bool.or_true, Bool.or_false, Bool.and_true, Bool.and_false, hv, hb, hb_2])) rfl, trivial⟩)
   ·have h := hj_1
    refine Tri.drawn [[], [0], [], [0, 1, 2], [0, 1, 2, 3], [0, 1, 2, 3, 4], [0, 1, 2, 3, 4], [0, 1, 2, 3, 4], [0, 1, 2, 3, 4, 6, 7], [0, 1, 2, 3, 4, 5, 6, 7, 8], [0, 1, 2, 3, 4, 5, 6, 7, 8, 9], [0, 1, 2, 3, 4], [0, 1, 2, 3, 4], [0, 1, 2, 3, 4], [0, 1, 2, 3, 4, 12, 13], [0, 1, 2, 3, 4, 12, 13, 14], [0, 1, 2, 3, 4, 11, 12, 13, 14, 15], [0, 1, 2, 3, 4, 11, 12, 13, 14, 15, 16], [0, 1, 2, 3, 4, 5, 6, 7, 8, 9, 10, 11, 12, 13, 14, 15, 16, 17], [0, 1, 2, 3, 4, 5, 6, 7, 8, 9, 10, 11, 12, 13, 14, 15, 16, 17, 18]] hmix (by kernel_rfl) ?_
    refine Qe 5 rfl ?_
    rcases b2 (decide ((W ((W ((W (2 * v8)) + 1)) + 1)) < a2)) with hb_3 | hb_3
    ·have h := cond_t hb_3 h
     refine Qk 21 hb_3 rfl ?_
     refine Qe 4 rfl ?_
     obtain ⟨y_3, hy_3, h⟩ := bind_some h
     refine Q1 rfl rfl rfl (Ax.ixh (cl := icl) rfl slc_26 rfl rfl rfl hy_3) ?_
     refine Q1 rfl rfl rfl (Ax.l1_arr (cl := icl) rfl siz_3 rfl rfl hy_3 rfl) ?_
     refine Qe 5 rfl ?_
     obtain ⟨y_4, hy_4, h⟩ := bind_some h
     refine Q1 rfl rfl rfl (Ax.ixh (cl := icl) rfl slc_26 rfl rfl rfl hy_4) ?_
     refine Q1 rfl rfl rfl (Ax.l1_arr (cl := icl) rfl siz_3 rfl rfl hy_4 rfl) ?_
     obtain ⟨x35, hc_1, h⟩ := bind_some h
     refine Qc rfl rfl rfl (args := [Ai y_3, Ai y_4]) (r := Ab x35) (calv rfl rfl fnok_319 rfl) (f319_ok hc_1) rfl ?_
     refine Qe 1 rfl ?_
     refine RunD.done ⟨by kernel_rfl, freshL_of [] (by kernel_rfl) (by kernel_rfl), ?_⟩
     exact Exists.intro x35 (And.intro h (Ee [20260000] rfl ⟨imf icl_im, trivial⟩))
    ·have h := cond_f hb_3 h
     refine Qk 21 hb_3 rfl ?_
     refine Qe 15 rfl ?_
     refine RunD.done ⟨by kernel_rfl, freshL_of [] (by kernel_rfl) (by kernel_rfl), ?_⟩
     exact Exists.intro false (And.intro h (Ee [20260000] rfl ⟨imf icl_im, trivial⟩))
end Go.Proofs.YthlchdnbokhclaaGreat.Ql

import Derived.Test.YthlchdnbokhclaaGreatQt
import Derived.Test.YthlchdnbokhclaaGreatQg4
import Derived.Test.YthlchdnbokhclaaGreatQg2
import Derived.Test.YthlchdnbokhclaaGreatQg3
import Derived.Test.YthlchdnbokhclaaGreatQg1
set_option linter.all false
namespace Go.Proofs.YthlchdnbokhclaaGreat.Ql
open Go Go.Proofs
set_option maxRecDepth 100000
set_option maxHeartbeats 0
theorem f314_ok {K : Nat} {a0 : List Int} {a1 : Int} {a2 : Int} {r : List Int} (h : f314 K a0 a1 a2 = some r) : CallOK Tryz.prog 314 [.hnd 20260000, Ai a1, Ai a2] [(20260000, .arr 3 1 (a0.map icl))] (.tup []) [(20260000, .arr 3 1 (r.map icl))] := by
 refine CallOK.of_tri Tryz.func314 rfl rfl (Nat.le_of_ble_eq_true rfl) ?_
 unfold f314 at h
 refine Tp rfl ?_
 refine Tp rfl ?_
 refine Tp rfl ?_
 refine Tri.seq ?_
 refine Tr ?_
 refine Qe 2 rfl ?_
 refine Q1 rfl rfl rfl (v := Ai (W (Int.tdiv (W ((W (a2 - a1)) - 1)) 2))) (Ax.div rfl rfl rfl (.inl rfl) (by decide)) ?_
 refine Qd rfl ?_
 obtain ⟨vo0_1, hj, h⟩ := bind_some h
 refine Tri.whlv hj (fun p => ⟨[(0, .hnd 20260000), (6, Ai a1), (7, Ai 0), (8, Ai (W (a2 - a1))), (9, Ai p.2)], [(20260000, some (.arr 3 1 (p.1.map icl)))]⟩) (fun (y : List Int) => ⟨[(0, .hnd 20260000), (6, Ai a1), (7, Ai 0), (8, Ai (W (a2 - a1)))], [(20260000, some (.arr 3 1 (y.map icl)))]⟩) (Ee [20260000] rfl ⟨imf icl_im, trivial⟩) ?_ ?_
 ·refine Tp rfl ?_
  obtain ⟨vok0, hj_1, h⟩ := bind_some h
  refine Tri.whlv hj_1 (fun p => ⟨[(0, .hnd 20260000), (6, Ai a1), (7, Ai 0), (10, Ai p.2)], [(20260000, some (.arr 3 1 (p.1.map icl)))]⟩) (fun (y : List Int) => ⟨[], [(20260000, some (.arr 3 1 (y.map icl)))]⟩) (Ee [20260000] rfl ⟨imf icl_im, trivial⟩) ?_ ?_
  ·refine RetQ.eq2 (fun r => .tup []) (fun r => [(20260000, .arr 3 1 (r.map icl))]) (Option.some.inj h) ?_
   exact RetQ.mk (vs := []) (.inl rfl) rfl [] [(20260000, 20260000, .arr 3 1 (vok0.map icl))] rfl rfl ⟨⟨_, rfl, .arr (im_flat icl_im vok0)⟩, trivial⟩ (.tupV trivial)
  ·rintro nx_1 ⟨vo0_2, v10⟩ h
   refine Tri.seq ?_
   refine Tp rfl ?_
   refine Tri.cond (b := (decide (v10 ≥ 0))) rfl (fun hb => ?_) (fun hb => ?_)
   ·have h := cond_t hb h
    refine Tri.skip ?_
    refine Tri.seq ?_
    refine Tri.block ?_
    refine Tri.seq ?_
    refine Tri.drawn [[], [], [], [], [], [3, 4], [], [], [], [7, 8], [6, 7, 8, 9], [6, 7, 8, 9, 10], [], [], [12, 13], [12, 13, 14], [0, 1, 6, 7, 8, 9, 10, 11, 12, 13, 14, 15], [0, 1, 6, 7, 8, 9, 10, 11, 12, 13, 14, 15, 16], [0, 1, 2, 3, 4, 5, 6, 7, 8, 9, 10, 11, 12, 13, 14, 15, 16, 17], [0, 1, 2, 3, 4, 5, 6, 7, 8, 9, 10, 11, 12, 13, 14, 15, 16, 17, 18]] hmix (by kernel_rfl) ?_
    refine Qe 10 rfl ?_
    obtain ⟨y, hy, h⟩ := bind_some h
    refine Q1 rfl rfl rfl (Ax.ixh (cl := icl) rfl slc_26 rfl rfl rfl hy) ?_
    refine Q1 rfl rfl rfl (Ax.l1_arr (cl := icl) rfl siz_3 rfl rfl hy rfl) ?_
    refine Qe 2 rfl ?_
    obtain ⟨y_1, hy_1, h⟩ := bind_some h
    refine Q1 rfl rfl rfl (Ax.ixh (cl := icl) rfl slc_26 rfl rfl rfl hy_1) ?_
    refine Q1 rfl rfl rfl (Ax.l1_arr (cl := icl) rfl siz_3 rfl rfl hy_1 rfl) ?_
    refine Q1 rfl rfl rfl (Ax.ixh (cl := icl) rfl slc_26 rfl rfl rfl hy_1) ?_
    refine Qs rfl rfl (x := some (.arr 3 1 ((vo0_2.set (Int.toNat a1) y).map icl))) (Ax.st_arr (cl := icl) (q := y) rfl siz_3 rfl rfl hy_1 rfl rfl rfl rfl rfl rfl) ?_
    obtain ⟨y_2, hy_2, h⟩ := bind_some h
    refine Q1 rfl rfl rfl (Ax.ixh (cl := icl) rfl slc_26 rfl rfl rfl hy_2) ?_
    refine Qs rfl rfl (x := some (.arr 3 1 (((vo0_2.set (Int.toNat a1) y).set (Int.toNat (W (a1 + v10))) y_1).map icl))) (Ax.st_arr (cl := icl) (q := y_1) rfl siz_3 rfl rfl hy_2 rfl rfl rfl rfl rfl rfl) ?_
    refine RunD.done ⟨by kernel_rfl, freshL_of [] (by kernel_rfl) (by kernel_rfl), ?_⟩
    refine Tri.region ?_
    refine Qe 4 rfl ?_
    obtain ⟨x55, hc, h⟩ := bind_some h
    refine Qo [(20260000, .arr 3 1 (((vo0_2.set (Int.toNat a1) y).set (Int.toNat (W (a1 + v10))) y_1).map icl))] [(20260000, .arr 3 1 (x55.map icl))] [] rfl rfl rfl (args := [.hnd 20260000, Ai 0, Ai v10, Ai a1]) (r := .tup []) (calv rfl rfl fnok_345 rfl) (f345_ok hc) ⟨rfl, trivial⟩ rfl rfl rfl rfl rfl ?_
    refine RunD.done ?_
    refine Tq rfl ?_
    exact Exists.intro (x55, (W (v10 - 1))) (And.intro h (Ee [20260000] rfl ⟨imf icl_im, trivial⟩))
   ·have h := cond_f hb h
    refine Tri.exit ?_
    exact Exists.intro vo0_2 (And.intro h (Ee [20260000] rfl ⟨imf icl_im, trivial⟩))
 ·rintro nx ⟨vo0, v9⟩ h
  refine Tri.seq ?_
  refine Tp rfl ?_
  refine Tri.cond (b := (decide (v9 ≥ 0))) rfl (fun hb_1 => ?_) (fun hb_1 => ?_)
  ·have h := cond_t hb_1 h
   refine Tri.skip ?_
   refine Tri.seq ?_
   refine Tri.block ?_
   refine Tri.region ?_
   refine Qe 4 rfl ?_
   obtain ⟨x26, hc_1, h⟩ := bind_some h
   refine Qo [(20260000, .arr 3 1 (vo0.map icl))] [(20260000, .arr 3 1 (x26.map icl))] [] rfl rfl rfl (args := [.hnd 20260000, Ai v9, Ai (W (a2 - a1)), Ai a1]) (r := .tup []) (calv rfl rfl fnok_345 rfl) (f345_ok hc_1) ⟨rfl, trivial⟩ rfl rfl rfl rfl rfl ?_
   refine RunD.done ?_
   refine Tq rfl ?_
   exact Exists.intro (x26, (W (v9 - 1))) (And.intro h (Ee [20260000] rfl ⟨imf icl_im, trivial⟩))
  ·have h := cond_f hb_1 h
   refine Tri.exit ?_
   exact Exists.intro vo0 (And.intro h (Ee [20260000] rfl ⟨imf icl_im, trivial⟩))
theorem f362_ok {K : Nat} {a0 : List Int} {a1 : Int} {a2 : Int} {a3 : Int} {r : Int × Int × Int} (h : f362 K a0 a1 a2 a3 = some r) : CallOK Tryz.prog 362 [.lst 1 (a0.map icl), Ai a1, Ai a2, .ptr 80003000 0] [(80003000, .box (icl a3))] (.tup [Ai r.1, Ai r.2.1]) [(80003000, .box (icl r.2.2))] := by
 refine CallOK.of_tri Tryz.func362 rfl rfl (Nat.le_of_ble_eq_true rfl) ?_
 unfold f362 at h
 refine Tp rfl ?_
 refine Tri.seq ?_
 refine Tri.seq ?_
 refine Tri.drawn [[], [], [0, 1], [0, 1, 2], [], [], [4, 5], [4, 5, 6], [0, 1, 2, 3, 4, 5, 6, 7]] hmix (by kernel_rfl) ?_
 refine Qe 2 rfl ?_
 obtain ⟨y, hy, h⟩ := bind_some h
 refine Q1 rfl rfl rfl (Ax.ix (cl := icl) rfl slc_26 rfl rfl hy) ?_
 refine Qe 3 rfl ?_
 obtain ⟨y_1, hy_1, h⟩ := bind_some h
 refine Q1 rfl rfl rfl (Ax.ix (cl := icl) rfl slc_26 rfl rfl hy_1) ?_
 refine Qe 1 rfl ?_
 obtain ⟨x18, hc, h⟩ := bind_some h
 refine Qc rfl rfl rfl (args := [Ai y, Ai y_1]) (r := Ab x18) (calv rfl rfl fnok_319 rfl) (f319_ok hc) rfl ?_
 refine RunD.done ⟨by kernel_rfl, freshL_of [] (by kernel_rfl) (by kernel_rfl), ?_⟩
 refine Tri.cond (b := x18) rfl (fun hb => ?_) (fun hb => ?_)
 ·have h := cond_t hb h
  refine Tr ?_
  refine Qe 1 rfl ?_
  refine Q1 rfl rfl rfl (Ax.nil_ptr rfl rfl rfl) ?_
  refine Qe 2 rfl ?_
  refine Q1 rfl rfl rfl (Ax.nil_ptr rfl rfl rfl) ?_
  refine Qs rfl rfl (x := some (.box (icl (W (a3 + 1))))) (Ax.st_box rfl siz_3 rfl rfl rfl rfl rfl rfl rfl) ?_
  refine RunD.done ?_
  refine Tp rfl ?_
  refine Tri.ret ?_
  refine Rr (fun r => .tup [Ai r.1, Ai r.2.1]) (fun r => [(80003000, .box (icl r.2.2))]) [80003000] h ?_ ?_
  ·rfl
  exact trivial
 ·have h := cond_f hb h
  refine Tri.skip ?_
  refine Tp rfl ?_
  refine Tri.ret ?_
  refine Rr (fun r => .tup [Ai r.1, Ai r.2.1]) (fun r => [(80003000, .box (icl r.2.2))]) [80003000] h ?_ ?_
  ·rfl
  exact trivial
theorem f349_ok {K : Nat} {a0 : List Int} {a1 : Int} {a2 : Int} {a3 : Int} {a4 : Int} {r : Int × Int} (h : f349 K a0 a1 a2 a3 a4 = some r) : CallOK Tryz.prog 349 [.lst 1 (a0.map icl), Ai a1, Ai a2, Ai a3, .ptr 80003000 0] [(80003000, .box (icl a4))] (Ai r.1) [(80003000, .box (icl r.2))] := by
 refine CallOK.of_tri Tryz.func349 rfl rfl (Nat.le_of_ble_eq_true rfl) ?_
 unfold f349 at h
 refine Tp rfl ?_
 refine Tr ?_
 refine Qe 4 rfl ?_
 obtain ⟨⟨x16_0, x16_1, x16_2⟩, hc, h⟩ := bind_some h
 refine Qo [(80003000, .box (icl a4))] [(80003000, .box (icl x16_2))] [] rfl rfl rfl (args := [.lst 1 (a0.map icl), Ai a1, Ai a2, .ptr 80003000 0]) (r := .tup [Ai x16_0, Ai x16_1]) (calv rfl rfl fnok_362 rfl) (f362_ok hc) ⟨rfl, trivial⟩ rfl rfl rfl rfl rfl ?_
 refine Qd rfl ?_
 refine Tr ?_
 refine Qe 4 rfl ?_
 obtain ⟨⟨x24_0, x24_1, x24_2⟩, hc_1, h⟩ := bind_some h
 refine Qo [(80003000, .box (icl x16_2))] [(80003000, .box (icl x24_2))] [] rfl rfl rfl (args := [.lst 1 (a0.map icl), Ai x16_1, Ai a3, .ptr 80003000 0]) (r := .tup [Ai x24_0, Ai x24_1]) (calv rfl rfl fnok_362 rfl) (f362_ok hc_1) ⟨rfl, trivial⟩ rfl rfl rfl rfl rfl ?_
 refine Qd rfl ?_
 refine Tr ?_
 refine Qe 4 rfl ?_
 obtain ⟨⟨x32_0, x32_1, x32_2⟩, hc_2, h⟩ := bind_some h
 refine Qo [(80003000, .box (icl x24_2))] [(80003000, .box (icl x32_2))] [] rfl rfl rfl (args := [.lst 1 (a0.map icl), Ai x16_0, Ai x24_0, .ptr 80003000 0]) (r := .tup [Ai x32_0, Ai x32_1]) (calv rfl rfl fnok_362 rfl) (f362_ok hc_2) ⟨rfl, trivial⟩ rfl rfl rfl rfl rfl ?_
 refine Qd rfl ?_
 refine Tp rfl ?_
 refine Tri.ret ?_
 refine Rr (fun r => Ai r.1) (fun r => [(80003000, .box (icl r.2))]) [80003000] h ?_ ?_
 ·rfl
 exact trivial
theorem f348_ok {K : Nat} {a0 : List Int} {a1 : Int} {a2 : Int} {r : Int × Int} (h : f348 K a0 a1 a2 = some r) : CallOK Tryz.prog 348 [.lst 1 (a0.map icl), Ai a1, .ptr 80003000 0] [(80003000, .box (icl a2))] (Ai r.1) [(80003000, .box (icl r.2))] := by
 refine CallOK.of_tri Tryz.func348 rfl rfl (Nat.le_of_ble_eq_true rfl) ?_
 unfold f348 at h
 refine Tp rfl ?_
 refine Tr ?_
 refine Qe 7 rfl ?_
 obtain ⟨⟨x14_0, x14_1⟩, hc, h⟩ := bind_some h
 refine Qo [(80003000, .box (icl a2))] [(80003000, .box (icl x14_1))] [] rfl rfl rfl (args := [.lst 1 (a0.map icl), Ai (W (a1 - 1)), Ai a1, Ai (W (a1 + 1)), .ptr 80003000 0]) (r := Ai x14_0) (calv rfl rfl fnok_349 rfl) (f349_ok hc) ⟨rfl, trivial⟩ rfl rfl rfl rfl rfl ?_
 refine Qd rfl ?_
 refine Tri.ret ?_
 refine Rr (fun r => Ai r.1) (fun r => [(80003000, .box (icl r.2))]) [80003000] h ?_ ?_
 ·rfl
 exact trivial
theorem f316_ok {K : Nat} {a0 : List Int} {a1 : Int} {a2 : Int} {r : Int × Int} (h : f316 K a0 a1 a2 = some r) : CallOK Tryz.prog 316 [.lst 1 (a0.map icl), Ai a1, Ai a2] [] (.tup [Ai r.1, Ai r.2]) [] := by
 refine CallOK.of_tri Tryz.func316 rfl rfl (Nat.le_of_ble_eq_true rfl) ?_
 unfold f316 at h
 refine Tp rfl ?_
 refine Tp rfl ?_
 refine Tr ?_
 refine Qn rfl rfl rfl (v := .ptr 9 0) (x := some (.box (icl 0))) (Ax.alloc rfl rfl zer_3 rfl ⟨Sub.refl _, trivial⟩) rfl rfl rfl rfl rfl ?_
 refine RunD.done ?_
 refine Tr ?_
 refine Qe 2 rfl ?_
 refine Q1 rfl rfl rfl (v := Ai (W (Int.tdiv (W (a2 - a1)) 4))) (Ax.div rfl rfl rfl (.inl rfl) (by decide)) ?_
 refine Qd rfl ?_
 refine Tr ?_
 refine Qe 2 rfl ?_
 refine Q1 rfl rfl rfl (v := Ai (W (Int.tdiv (W (a2 - a1)) 4))) (Ax.div rfl rfl rfl (.inl rfl) (by decide)) ?_
 refine Qd rfl ?_
 refine Tr ?_
 refine Qe 2 rfl ?_
 refine Q1 rfl rfl rfl (v := Ai (W (Int.tdiv (W (a2 - a1)) 4))) (Ax.div rfl rfl rfl (.inl rfl) (by decide)) ?_
 refine Qd rfl ?_
 refine Tri.seq ?_
 refine Tp rfl ?_
 obtain ⟨⟨vo9_0, v11⟩, hj_1, h⟩ := bind_some h
 refine Tri.joinv (vo9_0, v11) (fun (y : Int × Int) => ⟨[(9, .ptr 80003000 0), (11, Ai y.2)], [(80003000, some (.box (icl y.1)))]⟩) ?_ ?_
 ·refine Tp rfl ?_
  refine Tri.block ?_
  refine Tp rfl ?_
  refine Tri.cond (b := (vo9_0 == 0)) rfl (fun hb => ?_) (fun hb => ?_)
  ·have h := cond_t hb h
   refine Tp rfl ?_
   refine Tri.ret ?_
   refine Rr (fun r => .tup [Ai r.1, Ai r.2]) (fun r => []) [] h ?_ trivial
   rfl
  ·have h := cond_f hb h
   refine Tp rfl ?_
   refine Tri.cond (b := (vo9_0 == 12)) rfl (fun hb_1 => ?_) (fun hb_1 => ?_)
   ·have h := cond_t hb_1 h
    refine Tp rfl ?_
    refine Tri.ret ?_
    refine Rr (fun r => .tup [Ai r.1, Ai r.2]) (fun r => []) [] h ?_ trivial
    rfl
   ·have h := cond_f hb_1 h
    refine Tp rfl ?_
    refine Tri.ret ?_
    refine Rr (fun r => .tup [Ai r.1, Ai r.2]) (fun r => []) [] h ?_ trivial
    rfl
 ·have h := hj_1
  refine Tri.cond (b := (decide ((W (a2 - a1)) ≥ 8))) rfl (fun hb_2 => ?_) (fun hb_2 => ?_)
  ·have h := cond_t hb_2 h
   refine Tri.seq ?_
   refine Tp rfl ?_
   obtain ⟨⟨vo9_0_1, v10, v11_1, v12⟩, hj, h⟩ := bind_some h
   refine Tri.joinv (vo9_0_1, v10, v11_1, v12) (fun (y : Int × Int × Int × Int) => ⟨[(0, .lst 1 (a0.map icl)), (9, .ptr 80003000 0), (10, Ai y.2.1), (11, Ai y.2.2.1), (12, Ai y.2.2.2)], [(80003000, some (.box (icl y.1)))]⟩) ?_ ?_
   ·refine Tri.region ?_
    refine Qe 4 rfl ?_
    obtain ⟨⟨x48_0, x48_1⟩, hc, h⟩ := bind_some h
    refine Qo [(80003000, .box (icl vo9_0_1))] [(80003000, .box (icl x48_1))] [] rfl rfl rfl (args := [.lst 1 (a0.map icl), Ai v10, Ai v11_1, Ai v12, .ptr 80003000 0]) (r := Ai x48_0) (calv rfl rfl fnok_349 rfl) (f349_ok hc) ⟨rfl, trivial⟩ rfl rfl rfl rfl rfl ?_
    refine Qd rfl ?_
    exact Exists.intro (x48_1, x48_0) (And.intro h (Ee [80003000] rfl trivial))
   ·have h := hj
    refine Tri.cond (b := (decide ((W (a2 - a1)) ≥ 50))) rfl (fun hb_3 => ?_) (fun hb_3 => ?_)
    ·have h := cond_t hb_3 h
     refine Tri.seq ?_
     refine Tri.ent (Ent.norm [] [(80003000, 9, .box (icl 0))] [(0, .lst 1 (a0.map icl)), (9, .ptr 80003000 0), (10, Ai (W (a1 + (W ((W (Int.tdiv (W (a2 - a1)) 4)) * 1))))), (11, Ai (W (a1 + (W ((W (Int.tdiv (W (a2 - a1)) 4)) * 2))))), (12, Ai (W (a1 + (W ((W (Int.tdiv (W (a2 - a1)) 4)) * 3)))))] rfl ⟨⟨_, rfl, .boxV ⟨.rfl' rfl, trivial⟩⟩, trivial⟩ ⟨.rfl' rfl, .ptr (List.Mem.head _), .rfl' rfl, .rfl' rfl, .rfl' rfl, trivial⟩) ?_
     refine Tri.region ?_
     refine Qe 2 rfl ?_
     obtain ⟨⟨x37_0, x37_1⟩, hc_1, h⟩ := bind_some h
     refine Qo [(80003000, .box (icl 0))] [(80003000, .box (icl x37_1))] [] rfl rfl rfl (args := [.lst 1 (a0.map icl), Ai (W (a1 + (W ((W (Int.tdiv (W (a2 - a1)) 4)) * 1)))), .ptr 80003000 0]) (r := Ai x37_0) (calv rfl rfl fnok_348 rfl) (f348_ok hc_1) ⟨rfl, trivial⟩ rfl rfl rfl rfl rfl ?_
     refine Qd rfl ?_
     refine Tr ?_
     refine Qe 2 rfl ?_
     obtain ⟨⟨x40_0, x40_1⟩, hc_2, h⟩ := bind_some h
     refine Qo [(80003000, .box (icl x37_1))] [(80003000, .box (icl x40_1))] [] rfl rfl rfl (args := [.lst 1 (a0.map icl), Ai (W (a1 + (W ((W (Int.tdiv (W (a2 - a1)) 4)) * 2)))), .ptr 80003000 0]) (r := Ai x40_0) (calv rfl rfl fnok_348 rfl) (f348_ok hc_2) ⟨rfl, trivial⟩ rfl rfl rfl rfl rfl ?_
     refine Qd rfl ?_
     refine Tri.region ?_
     refine Qe 2 rfl ?_
     obtain ⟨⟨x43_0, x43_1⟩, hc_3, h⟩ := bind_some h
     refine Qo [(80003000, .box (icl x40_1))] [(80003000, .box (icl x43_1))] [] rfl rfl rfl (args := [.lst 1 (a0.map icl), Ai (W (a1 + (W ((W (Int.tdiv (W (a2 - a1)) 4)) * 3)))), .ptr 80003000 0]) (r := Ai x43_0) (calv rfl rfl fnok_348 rfl) (f348_ok hc_3) ⟨rfl, trivial⟩ rfl rfl rfl rfl rfl ?_
     refine Qd rfl ?_
     exact Exists.intro (x43_1, x37_0, x40_0, x43_0) (And.intro h (Ee [80003000] rfl trivial))
    ·have h := cond_f hb_3 h
     refine Tri.skip ?_
     exact Exists.intro (0, (W (a1 + (W ((W (Int.tdiv (W (a2 - a1)) 4)) * 1)))), (W (a1 + (W ((W (Int.tdiv (W (a2 - a1)) 4)) * 2)))), (W (a1 + (W ((W (Int.tdiv (W (a2 - a1)) 4)) * 3))))) (And.intro h (Ee [9] rfl trivial))
  ·have h := cond_f hb_2 h
   refine Tri.skip ?_
   exact Exists.intro (0, (W (a1 + (W ((W (Int.tdiv (W (a2 - a1)) 4)) * 2))))) (And.intro h (Ee [9] rfl trivial))
theorem f317_ok {K : Nat} {a0 : List Int} {a1 : Int} {a2 : Int} {r : List Int} (h : f317 K a0 a1 a2 = some r) : CallOK Tryz.prog 317 [.hnd 20260000, Ai a1, Ai a2] [(20260000, .arr 3 1 (a0.map icl))] (.tup []) [(20260000, .arr 3 1 (r.map icl))] := by
 refine CallOK.of_tri Tryz.func317 rfl rfl (Nat.le_of_ble_eq_true rfl) ?_
 unfold f317 at h
 refine Tp rfl ?_
 refine Tp rfl ?_
 obtain ⟨vok0, hj, h⟩ := bind_some h
 refine Tri.whlv hj (fun p => ⟨[(0, .hnd 20260000), (6, Ai p.2.1), (7, Ai p.2.2)], [(20260000, some (.arr 3 1 (p.1.map icl)))]⟩) (fun (y : List Int) => ⟨[], [(20260000, some (.arr 3 1 (y.map icl)))]⟩) (Ee [20260000] rfl ⟨imf icl_im, trivial⟩) ?_ ?_
 ·refine RetQ.eq2 (fun r => .tup []) (fun r => [(20260000, .arr 3 1 (r.map icl))]) (Option.some.inj h) ?_
  exact RetQ.mk (vs := []) (.inl rfl) rfl [] [(20260000, 20260000, .arr 3 1 (vok0.map icl))] rfl rfl ⟨⟨_, rfl, .arr (im_flat icl_im vok0)⟩, trivial⟩ (.tupV trivial)
 ·rintro nx ⟨vo0, v6, v7⟩ h
  refine Tri.seq ?_
  refine Tp rfl ?_
  refine Tri.cond (b := (decide (v6 < v7))) rfl (fun hb => ?_) (fun hb => ?_)
  ·have h := cond_t hb h
   refine Tri.skip ?_
   refine Tri.block ?_
   refine Tri.seq ?_
   refine Tri.drawn [[], [], [], [], [], [], [4, 5], [4, 5, 6], [], [], [8, 9], [8, 9, 10], [0, 1, 4, 5, 6, 7, 8, 9, 10, 11], [0, 1, 4, 5, 6, 7, 8, 9, 10, 11, 12], [0, 1, 2, 3, 4, 5, 6, 7, 8, 9, 10, 11, 12, 13], [0, 1, 2, 3, 4, 5, 6, 7, 8, 9, 10, 11, 12, 13, 14]] hmix (by kernel_rfl) ?_
   refine Qe 6 rfl ?_
   obtain ⟨y, hy, h⟩ := bind_some h
   refine Q1 rfl rfl rfl (Ax.ixh (cl := icl) rfl slc_26 rfl rfl rfl hy) ?_
   refine Q1 rfl rfl rfl (Ax.l1_arr (cl := icl) rfl siz_3 rfl rfl hy rfl) ?_
   refine Qe 2 rfl ?_
   obtain ⟨y_1, hy_1, h⟩ := bind_some h
   refine Q1 rfl rfl rfl (Ax.ixh (cl := icl) rfl slc_26 rfl rfl rfl hy_1) ?_
   refine Q1 rfl rfl rfl (Ax.l1_arr (cl := icl) rfl siz_3 rfl rfl hy_1 rfl) ?_
   refine Q1 rfl rfl rfl (Ax.ixh (cl := icl) rfl slc_26 rfl rfl rfl hy_1) ?_
   refine Qs rfl rfl (x := some (.arr 3 1 ((vo0.set (Int.toNat v6) y).map icl))) (Ax.st_arr (cl := icl) (q := y) rfl siz_3 rfl rfl hy_1 rfl rfl rfl rfl rfl rfl) ?_
   obtain ⟨y_2, hy_2, h⟩ := bind_some h
   refine Q1 rfl rfl rfl (Ax.ixh (cl := icl) rfl slc_26 rfl rfl rfl hy_2) ?_
   refine Qs rfl rfl (x := some (.arr 3 1 (((vo0.set (Int.toNat v6) y).set (Int.toNat v7) y_1).map icl))) (Ax.st_arr (cl := icl) (q := y_1) rfl siz_3 rfl rfl hy_2 rfl rfl rfl rfl rfl rfl) ?_
   refine RunD.done ⟨by kernel_rfl, freshL_of [] (by kernel_rfl) (by kernel_rfl), ?_⟩
   refine Tp rfl ?_
   refine Tq rfl ?_
   exact Exists.intro (((vo0.set (Int.toNat v6) y).set (Int.toNat v7) y_1), (W (v6 + 1)), (W (v7 - 1))) (And.intro h (Ee [20260000] rfl ⟨imf icl_im, trivial⟩))
  ·have h := cond_f hb h
   refine Tri.exit ?_
   exact Exists.intro vo0 (And.intro h (Ee [20260000] rfl ⟨imf icl_im, trivial⟩))
theorem f318_ok {K : Nat} {a0 : List Int} {a1 : Int} {a2 : Int} {r : Bool × List Int} (h : f318 K a0 a1 a2 = some r) : CallOK Tryz.prog 318 [.hnd 20260000, Ai a1, Ai a2] [(20260000, .arr 3 1 (a0.map icl))] (Ab r.1) [(20260000, .arr 3 1 (r.2.map icl))] := by
 refine CallOK.of_tri Tryz.func318 rfl rfl (Nat.le_of_ble_eq_true rfl) ?_
 unfold f318 at h
 refine Tp rfl ?_
 refine Tp rfl ?_
 refine Tri.seq ?_
 refine Tp rfl ?_
 obtain ⟨j, hj, h⟩ := jo h
 refine Tri.rngN h (fun p => ⟨[(0, .hnd 20260000), (1, Ai a1), (2, Ai a2), (7, Ai p.2.2), (8, Ai p.1)], [(20260000, some (.arr 3 1 (p.2.1.map icl)))]⟩) (fun y => j y = some r) (fun (y : List Int) => ⟨[], [(20260000, some (.arr 3 1 (y.map icl)))]⟩) (Ee [20260000] rfl ⟨imf icl_im, trivial⟩) ?_ ?_ ?_
 ·rintro vok0 h
  subst hj
  refine Tp rfl ?_
  refine Tri.ret ?_
  refine Rr (fun r => Ab r.1) (fun r => [(20260000, .arr 3 1 (r.2.map icl))]) [20260000] h ?_ ?_
  ·rfl
  exact ⟨imf icl_im, trivial⟩
 ·rintro v8 ⟨vo0, v7⟩ hi _ h
  refine Tri.seq ?_
  refine Tp rfl ?_
  refine Tri.cond (b := (decide (v8 < 5))) rfl (fun hb => ?_) (fun hb => ?_)
  ·exact (lt_f hi hb).elim
  ·refine Tri.exit ?_
   exact Exists.intro vo0 (And.intro h (Ee [20260000] rfl ⟨imf icl_im, trivial⟩))
 ·rintro nx v8 ⟨vo0, v7⟩ _ hi hw h
  refine Tri.seq ?_
  refine Tp rfl ?_
  refine Tri.cond (b := (decide (v8 < 5))) rfl (fun hb_1 => ?_) (fun hb_1 => ?_)
  ·refine Tri.skip ?_
   refine Tri.seq ?_
   refine Tri.block ?_
   refine Tri.seq ?_
   obtain ⟨v7_2, hj_1, h⟩ := bind_some h
   refine Tri.whlv hj_1 (fun p => ⟨[(0, .hnd 20260000), (1, Ai a1), (2, Ai a2), (7, Ai p), (8, Ai v8)], [(20260000, some (.arr 3 1 (vo0.map icl)))]⟩) (fun (y : Int) => ⟨[(0, .hnd 20260000), (1, Ai a1), (2, Ai a2), (7, Ai y), (8, Ai v8)], [(20260000, some (.arr 3 1 (vo0.map icl)))]⟩) (Ee [20260000] rfl ⟨imf icl_im, trivial⟩) ?_ ?_
   ·refine Tri.seq ?_
    refine Tp rfl ?_
    refine Tri.cond (b := (v7_2 == a2)) rfl (fun hb_2 => ?_) (fun hb_2 => ?_)
    ·have h := cond_t hb_2 h
     refine Tp rfl ?_
     refine Tri.ret ?_
     refine Rr (fun r => Ab r.1) (fun r => [(20260000, .arr 3 1 (r.2.map icl))]) [20260000] h ?_ ?_
     ·rfl
     exact ⟨imf icl_im, trivial⟩
    ·have h := cond_f hb_2 h
     refine Tri.skip ?_
     refine Tri.seq ?_
     refine Tp rfl ?_
     refine Tri.cond (b := (decide ((W (a2 - a1)) < 50))) rfl (fun hb_3 => ?_) (fun hb_3 => ?_)
     ·have h := cond_t hb_3 h
      refine Tp rfl ?_
      refine Tri.ret ?_
      refine Rr (fun r => Ab r.1) (fun r => [(20260000, .arr 3 1 (r.2.map icl))]) [20260000] h ?_ ?_
      ·rfl
      exact ⟨imf icl_im, trivial⟩
     ·have h := cond_f hb_3 h
      refine Tri.skip ?_
      refine Tri.seq ?_
      refine Tri.drawn [[], [], [], [], [3], [], [], [6], [5, 6, 7], [5, 6, 7, 8], [], [], [10, 11], [10, 11, 12], [0, 1, 5, 6, 7, 8, 9, 10, 11, 12, 13], [0, 1, 5, 6, 7, 8, 9, 10, 11, 12, 13, 14], [0, 1, 2, 3, 4, 5, 6, 7, 8, 9, 10, 11, 12, 13, 14, 15], [0, 1, 2, 3, 4, 5, 6, 7, 8, 9, 10, 11, 12, 13, 14, 15, 16]] hmix (by kernel_rfl) ?_
      refine Qe 8 rfl ?_
      obtain ⟨y, hy, h⟩ := bind_some h
      refine Q1 rfl rfl rfl (Ax.ixh (cl := icl) rfl slc_26 rfl rfl rfl hy) ?_
      refine Q1 rfl rfl rfl (Ax.l1_arr (cl := icl) rfl siz_3 rfl rfl hy rfl) ?_
      refine Qe 2 rfl ?_
      obtain ⟨y_1, hy_1, h⟩ := bind_some h
      refine Q1 rfl rfl rfl (Ax.ixh (cl := icl) rfl slc_26 rfl rfl rfl hy_1) ?_
      refine Q1 rfl rfl rfl (Ax.l1_arr (cl := icl) rfl siz_3 rfl rfl hy_1 rfl) ?_
      refine Q1 rfl rfl rfl (Ax.ixh (cl := icl) rfl slc_26 rfl rfl rfl hy_1) ?_
      refine Qs rfl rfl (x := some (.arr 3 1 ((vo0.set (Int.toNat v7_2) y).map icl))) (Ax.st_arr (cl := icl) (q := y) rfl siz_3 rfl rfl hy_1 rfl rfl rfl rfl rfl rfl) ?_
      obtain ⟨y_2, hy_2, h⟩ := bind_some h
      refine Q1 rfl rfl rfl (Ax.ixh (cl := icl) rfl slc_26 rfl rfl rfl hy_2) ?_
      refine Qs rfl rfl (x := some (.arr 3 1 (((vo0.set (Int.toNat v7_2) y).set (Int.toNat (W (v7_2 - 1))) y_1).map icl))) (Ax.st_arr (cl := icl) (q := y_1) rfl siz_3 rfl rfl hy_2 rfl rfl rfl rfl rfl rfl) ?_
      refine RunD.done ⟨by kernel_rfl, freshL_of [] (by kernel_rfl) (by kernel_rfl), ?_⟩
      refine Tri.seq ?_
      refine Tp rfl ?_
      obtain ⟨vo0_1, hj_5, h⟩ := bind_some h
      refine Tri.joinv vo0_1 (fun (y : List Int) => ⟨[(0, .hnd 20260000), (1, Ai a1), (2, Ai a2), (7, Ai v7_2), (8, Ai v8)], [(20260000, some (.arr 3 1 (y.map icl)))]⟩) ?_ ?_
      ·refine Tp rfl ?_
       obtain ⟨vo0_2, hj_3, h⟩ := bind_some h
       refine Tri.joinv vo0_2 (fun (y : List Int) => ⟨[(0, .hnd 20260000), (1, Ai a1), (2, Ai a2), (7, Ai v7_2), (8, Ai v8)], [(20260000, some (.arr 3 1 (y.map icl)))]⟩) ?_ ?_
       ·refine Tq rfl ?_
        exact Exists.intro (v8 + 1, (vo0_2, v7_2)) (And.intro (And.intro rfl h) (Es [20260000] [8] rfl ⟨imf icl_im, trivial⟩ ⟨.imm (Sub.of_eq (show Ai (v8 + 1) = Ai (W (v8 + 1)) from congrArg Ai hw.symm)) rfl, trivial⟩))
       ·have h := hj_3
        refine Tri.cond (b := (decide ((W (a2 - v7_2)) ≥ 2))) rfl (fun hb_4 => ?_) (fun hb_4 => ?_)
        ·have h := cond_t hb_4 h
         refine Tp rfl ?_
         obtain ⟨vo0_4, hj_2, h⟩ := bind_some h
         refine Tri.rngNv hj_2 (fun p => ⟨[(0, .hnd 20260000), (1, Ai a1), (2, Ai a2), (7, Ai v7_2), (8, Ai v8), (10, Ai p.1)], [(20260000, some (.arr 3 1 (p.2.map icl)))]⟩) (fun (y : List Int) => ⟨[(0, .hnd 20260000), (1, Ai a1), (2, Ai a2), (7, Ai v7_2), (8, Ai v8)], [(20260000, some (.arr 3 1 (y.map icl)))]⟩) (Ee [20260000] rfl ⟨imf icl_im, trivial⟩) ?_ ?_ ?_
         ·exact Exists.intro vo0_4 (And.intro h (Ee [20260000] rfl ⟨imf icl_im, trivial⟩))
         ·rintro v10 vo0_3 hi_2 _ h
          refine Tri.seq ?_
          refine Tp rfl ?_
          refine Tri.cond (b := (decide (v10 < a2))) rfl (fun hb_5 => ?_) (fun hb_5 => ?_)
          ·exact (lt_f hi_2 hb_5).elim
          ·refine Tri.exit ?_
           exact Exists.intro vo0_3 (And.intro h (Ee [20260000] rfl ⟨imf icl_im, trivial⟩))
         ·rintro nx_2 v10 vo0_3 _ hi_2 hw_2 h
          refine Tri.seq ?_
          refine Tp rfl ?_
          refine Tri.cond (b := (decide (v10 < a2))) rfl (fun hb_6 => ?_) (fun hb_6 => ?_)
          ·refine Tri.skip ?_
           refine Tri.seq ?_
           refine Tri.block ?_
           refine Tri.seq ?_
           refine Tri.seq ?_
           refine Tri.drawn [[], [], [0, 1], [0, 1, 2], [], [], [5], [4, 5, 6], [4, 5, 6, 7], [0, 1, 2, 3, 4, 5, 6, 7, 8], [0, 1, 2, 3, 4, 5, 6, 7, 8, 9]] hmix (by kernel_rfl) ?_
           refine Qe 2 rfl ?_
           obtain ⟨y_3, hy_3, h⟩ := bind_some h
           refine Q1 rfl rfl rfl (Ax.ixh (cl := icl) rfl slc_26 rfl rfl rfl hy_3) ?_
           refine Q1 rfl rfl rfl (Ax.l1_arr (cl := icl) rfl siz_3 rfl rfl hy_3 rfl) ?_
           refine Qe 3 rfl ?_
           obtain ⟨y_4, hy_4, h⟩ := bind_some h
           refine Q1 rfl rfl rfl (Ax.ixh (cl := icl) rfl slc_26 rfl rfl rfl hy_4) ?_
           refine Q1 rfl rfl rfl (Ax.l1_arr (cl := icl) rfl siz_3 rfl rfl hy_4 rfl) ?_
           obtain ⟨x115, hc, h⟩ := bind_some h
           refine Qc rfl rfl rfl (args := [Ai y_3, Ai y_4]) (r := Ab x115) (calv rfl rfl fnok_319 rfl) (f319_ok hc) rfl ?_
           refine Qe 1 rfl ?_
           refine RunD.done ⟨by kernel_rfl, freshL_of [] (by kernel_rfl) (by kernel_rfl), ?_⟩
           refine Tri.cond (b := (!x115)) rfl (fun hb_7 => ?_) (fun hb_7 => ?_)
           ·have h := cond_t hb_7 h
            refine Tri.exit ?_
            exact Exists.intro vo0_3 (And.intro h (Ee [20260000] rfl ⟨imf icl_im, trivial⟩))
           ·have h := cond_f hb_7 h
            refine Tri.skip ?_
            refine Tri.drawn [[], [], [], [], [3], [], [], [6], [5, 6, 7], [5, 6, 7, 8], [], [], [10, 11], [10, 11, 12], [0, 1, 5, 6, 7, 8, 9, 10, 11, 12, 13], [0, 1, 5, 6, 7, 8, 9, 10, 11, 12, 13, 14], [0, 1, 2, 3, 4, 5, 6, 7, 8, 9, 10, 11, 12, 13, 14, 15], [0, 1, 2, 3, 4, 5, 6, 7, 8, 9, 10, 11, 12, 13, 14, 15, 16]] hmix (by kernel_rfl) ?_
            refine Qe 8 rfl ?_
            refine Q1 rfl rfl rfl (Ax.ixh (cl := icl) rfl slc_26 rfl rfl rfl hy_4) ?_
            refine Q1 rfl rfl rfl (Ax.l1_arr (cl := icl) rfl siz_3 rfl rfl hy_4 rfl) ?_
            refine Qe 2 rfl ?_
            refine Q1 rfl rfl rfl (Ax.ixh (cl := icl) rfl slc_26 rfl rfl rfl hy_3) ?_
            refine Q1 rfl rfl rfl (Ax.l1_arr (cl := icl) rfl siz_3 rfl rfl hy_3 rfl) ?_
            refine Q1 rfl rfl rfl (Ax.ixh (cl := icl) rfl slc_26 rfl rfl rfl hy_3) ?_
            refine Qs rfl rfl (x := some (.arr 3 1 ((vo0_3.set (Int.toNat v10) y_4).map icl))) (Ax.st_arr (cl := icl) (q := y_4) rfl siz_3 rfl rfl hy_3 rfl rfl rfl rfl rfl rfl) ?_
            obtain ⟨y_5, hy_5, h⟩ := bind_some h
            refine Q1 rfl rfl rfl (Ax.ixh (cl := icl) rfl slc_26 rfl rfl rfl hy_5) ?_
            refine Qs rfl rfl (x := some (.arr 3 1 (((vo0_3.set (Int.toNat v10) y_4).set (Int.toNat (W (v10 - 1))) y_3).map icl))) (Ax.st_arr (cl := icl) (q := y_3) rfl siz_3 rfl rfl hy_5 rfl rfl rfl rfl rfl rfl) ?_
            refine RunD.done ⟨by kernel_rfl, freshL_of [] (by kernel_rfl) (by kernel_rfl), ?_⟩
            refine Tq rfl ?_
            exact Exists.intro (v10 + 1, ((vo0_3.set (Int.toNat v10) y_4).set (Int.toNat (W (v10 - 1))) y_3)) (And.intro (And.intro rfl h) (Es [20260000] [10] rfl ⟨imf icl_im, trivial⟩ ⟨.imm (Sub.of_eq (show Ai (v10 + 1) = Ai (W (v10 + 1)) from congrArg Ai hw_2.symm)) rfl, trivial⟩))
          ·exact (lt_t hi_2 hb_6).elim
        ·have h := cond_f hb_4 h
         refine Tri.skip ?_
         exact Exists.intro vo0_1 (And.intro h (Ee [20260000] rfl ⟨imf icl_im, trivial⟩))
      ·have h := hj_5
       refine Tri.cond (b := (decide ((W (v7_2 - a1)) ≥ 2))) rfl (fun hb_8 => ?_) (fun hb_8 => ?_)
       ·have h := cond_t hb_8 h
        refine Tp rfl ?_
        obtain ⟨vo0_6, hj_4, h⟩ := bind_some h
        refine Tri.whlv hj_4 (fun p => ⟨[(0, .hnd 20260000), (1, Ai a1), (2, Ai a2), (7, Ai v7_2), (8, Ai v8), (9, Ai p.2)], [(20260000, some (.arr 3 1 (p.1.map icl)))]⟩) (fun (y : List Int) => ⟨[(0, .hnd 20260000), (1, Ai a1), (2, Ai a2), (7, Ai v7_2), (8, Ai v8)], [(20260000, some (.arr 3 1 (y.map icl)))]⟩) (Ee [20260000] rfl ⟨imf icl_im, trivial⟩) ?_ ?_
        ·exact Exists.intro vo0_6 (And.intro h (Ee [20260000] rfl ⟨imf icl_im, trivial⟩))
        ·rintro nx_3 ⟨vo0_5, v9⟩ h
         refine Tri.seq ?_
         refine Tp rfl ?_
         refine Tri.cond (b := (decide (v9 ≥ 1))) rfl (fun hb_9 => ?_) (fun hb_9 => ?_)
         ·have h := cond_t hb_9 h
          refine Tri.skip ?_
          refine Tri.seq ?_
          refine Tri.block ?_
          refine Tri.seq ?_
          refine Tri.seq ?_
          refine Tri.drawn [[], [], [0, 1], [0, 1, 2], [], [], [5], [4, 5, 6], [4, 5, 6, 7], [0, 1, 2, 3, 4, 5, 6, 7, 8], [0, 1, 2, 3, 4, 5, 6, 7, 8, 9]] hmix (by kernel_rfl) ?_
          refine Qe 2 rfl ?_
          obtain ⟨y_6, hy_6, h⟩ := bind_some h
          refine Q1 rfl rfl rfl (Ax.ixh (cl := icl) rfl slc_26 rfl rfl rfl hy_6) ?_
          refine Q1 rfl rfl rfl (Ax.l1_arr (cl := icl) rfl siz_3 rfl rfl hy_6 rfl) ?_
          refine Qe 3 rfl ?_
          obtain ⟨y_7, hy_7, h⟩ := bind_some h
          refine Q1 rfl rfl rfl (Ax.ixh (cl := icl) rfl slc_26 rfl rfl rfl hy_7) ?_
          refine Q1 rfl rfl rfl (Ax.l1_arr (cl := icl) rfl siz_3 rfl rfl hy_7 rfl) ?_
          obtain ⟨x77, hc_1, h⟩ := bind_some h
          refine Qc rfl rfl rfl (args := [Ai y_6, Ai y_7]) (r := Ab x77) (calv rfl rfl fnok_319 rfl) (f319_ok hc_1) rfl ?_
          refine Qe 1 rfl ?_
          refine RunD.done ⟨by kernel_rfl, freshL_of [] (by kernel_rfl) (by kernel_rfl), ?_⟩
          refine Tri.cond (b := (!x77)) rfl (fun hb_10 => ?_) (fun hb_10 => ?_)
          ·have h := cond_t hb_10 h
           refine Tri.exit ?_
           exact Exists.intro vo0_5 (And.intro h (Ee [20260000] rfl ⟨imf icl_im, trivial⟩))
          ·have h := cond_f hb_10 h
           refine Tri.skip ?_
           refine Tri.drawn [[], [], [], [], [3], [], [], [6], [5, 6, 7], [5, 6, 7, 8], [], [], [10, 11], [10, 11, 12], [0, 1, 5, 6, 7, 8, 9, 10, 11, 12, 13], [0, 1, 5, 6, 7, 8, 9, 10, 11, 12, 13, 14], [0, 1, 2, 3, 4, 5, 6, 7, 8, 9, 10, 11, 12, 13, 14, 15], [0, 1, 2, 3, 4, 5, 6, 7, 8, 9, 10, 11, 12, 13, 14, 15, 16]] hmix (by kernel_rfl) ?_
           refine Qe 8 rfl ?_
           refine Q1 rfl rfl rfl (Ax.ixh (cl := icl) rfl slc_26 rfl rfl rfl hy_7) ?_
           refine Q1 rfl rfl rfl (Ax.l1_arr (cl := icl) rfl siz_3 rfl rfl hy_7 rfl) ?_
           refine Qe 2 rfl ?_
           refine Q1 rfl rfl rfl (Ax.ixh (cl := icl) rfl slc_26 rfl rfl rfl hy_6) ?_
           refine Q1 rfl rfl rfl (Ax.l1_arr (cl := icl) rfl siz_3 rfl rfl hy_6 rfl) ?_
           refine Q1 rfl rfl rfl (Ax.ixh (cl := icl) rfl slc_26 rfl rfl rfl hy_6) ?_
           refine Qs rfl rfl (x := some (.arr 3 1 ((vo0_5.set (Int.toNat v9) y_7).map icl))) (Ax.st_arr (cl := icl) (q := y_7) rfl siz_3 rfl rfl hy_6 rfl rfl rfl rfl rfl rfl) ?_
           obtain ⟨y_8, hy_8, h⟩ := bind_some h
           refine Q1 rfl rfl rfl (Ax.ixh (cl := icl) rfl slc_26 rfl rfl rfl hy_8) ?_
           refine Qs rfl rfl (x := some (.arr 3 1 (((vo0_5.set (Int.toNat v9) y_7).set (Int.toNat (W (v9 - 1))) y_6).map icl))) (Ax.st_arr (cl := icl) (q := y_6) rfl siz_3 rfl rfl hy_8 rfl rfl rfl rfl rfl rfl) ?_
           refine RunD.done ⟨by kernel_rfl, freshL_of [] (by kernel_rfl) (by kernel_rfl), ?_⟩
           refine Tq rfl ?_
           exact Exists.intro (((vo0_5.set (Int.toNat v9) y_7).set (Int.toNat (W (v9 - 1))) y_6), (W (v9 - 1))) (And.intro h (Ee [20260000] rfl ⟨imf icl_im, trivial⟩))
         ·have h := cond_f hb_9 h
          refine Tri.exit ?_
          exact Exists.intro vo0_5 (And.intro h (Ee [20260000] rfl ⟨imf icl_im, trivial⟩))
       ·have h := cond_f hb_8 h
        refine Tri.skip ?_
        exact Exists.intro ((vo0.set (Int.toNat v7_2) y).set (Int.toNat (W (v7_2 - 1))) y_1) (And.intro h (Ee [20260000] rfl ⟨imf icl_im, trivial⟩))
   ·rintro nx_1 v7_1 h
    refine Tri.seq ?_
    refine Tri.seq ?_
    obtain ⟨v32, hj_6, h⟩ := bind_some h
    refine Tri.joinv v32 (fun (y : Bool) => ⟨[(0, .hnd 20260000), (1, Ai a1), (2, Ai a2), (7, Ai v7_1), (8, Ai v8), (32, Ab y)], [(20260000, some (.arr 3 1 (vo0.map icl)))]⟩) ?_ ?_
    ·refine Tri.cond (b := v32) rfl (fun hb_11 => ?_) (fun hb_11 => ?_)
     ·have h := cond_t hb_11 h
      refine Tri.skip ?_
      refine Tri.block ?_
      refine Tq rfl ?_
      exact Exists.intro (W (v7_1 + 1)) (And.intro h (Ee [20260000] rfl ⟨imf icl_im, trivial⟩))
     ·have h := cond_f hb_11 h
      refine Tri.exit ?_
      exact Exists.intro v7_1 (And.intro h (Ee [20260000] rfl ⟨imf icl_im, trivial⟩))
    ·have h := hj_6
     refine Tri.drawn [[], [], [0, 1], [0, 1, 2], [0, 1, 2, 3], [0, 1, 2, 3], [0, 1, 2, 3, 4, 5], [0, 1, 2, 3, 4, 5, 6], [0, 1, 2, 3], [0, 1, 2, 3], [0, 1, 2, 3, 9], [0, 1, 2, 3, 8, 9, 10], [0, 1, 2, 3, 8, 9, 10, 11], [0, 1, 2, 3, 4, 5, 6, 7, 8, 9, 10, 11, 12], [0, 1, 2, 3, 4, 5, 6, 7, 8, 9, 10, 11, 12, 13], [0, 1, 2, 3, 4, 5, 6, 7, 8, 9, 10, 11, 12, 13, 14]] hmix (by kernel_rfl) ?_
     refine Qe 4 rfl ?_
     rcases b2 (decide (v7_1 < a2)) with hb_12 | hb_12
     ·have h := cond_t hb_12 h
      refine Qk 20 hb_12 rfl ?_
      refine Qe 2 rfl ?_
      obtain ⟨y_9, hy_9, h⟩ := bind_some h
      refine Q1 rfl rfl rfl (Ax.ixh (cl := icl) rfl slc_26 rfl rfl rfl hy_9) ?_
      refine Q1 rfl rfl rfl (Ax.l1_arr (cl := icl) rfl siz_3 rfl rfl hy_9 rfl) ?_
      refine Qe 3 rfl ?_
      obtain ⟨y_10, hy_10, h⟩ := bind_some h
      refine Q1 rfl rfl rfl (Ax.ixh (cl := icl) rfl slc_26 rfl rfl rfl hy_10) ?_
      refine Q1 rfl rfl rfl (Ax.l1_arr (cl := icl) rfl siz_3 rfl rfl hy_10 rfl) ?_
      obtain ⟨x30, hc_2, h⟩ := bind_some h
      refine Qc rfl rfl rfl (args := [Ai y_9, Ai y_10]) (r := Ab x30) (calv rfl rfl fnok_319 rfl) (f319_ok hc_2) rfl ?_
      refine Qe 2 rfl ?_
      refine RunD.done ⟨by kernel_rfl, freshL_of [] (by kernel_rfl) (by kernel_rfl), ?_⟩
      exact Exists.intro (!x30) (And.intro h (Ee [20260000] rfl ⟨imf icl_im, trivial⟩))
     ·have h := cond_f hb_12 h
      refine Qk 20 hb_12 rfl ?_
      refine Qe 12 rfl ?_
      refine RunD.done ⟨by kernel_rfl, freshL_of [] (by kernel_rfl) (by kernel_rfl), ?_⟩
      exact Exists.intro false (And.intro h (Ee [20260000] rfl ⟨imf icl_im, trivial⟩))
  ·exact (lt_t hi hb_1).elim
theorem f253_ok {K : Nat} {a0 : List Int} {a1 : Int} {a2 : Int} {a3 : Int} {r : List Int} (h : f253 K a0 a1 a2 a3 = some r) : CallOK Tryz.prog 253 [.hnd 20260000, Ai a1, Ai a2, Ai a3] [(20260000, .arr 3 1 (a0.map icl))] (.tup []) [(20260000, .arr 3 1 (r.map icl))] := by
 refine CallOK.of_tri Tryz.func253 rfl rfl (Nat.le_of_ble_eq_true rfl) ?_
 unfold f253 at h
 refine Tp rfl ?_
 refine Tp rfl ?_
 refine Tri.whl h (fun p => ⟨[(0, .hnd 20260000), (1, Ai a1), (2, Ai a2), (3, Ai a3), (8, Ab true), (9, Ab true)], [(20260000, some (.arr 3 1 (a0.map icl)))]⟩) (fun (_ : Unit) => False) (fun _ => ⟨[], []⟩) (Ee [20260000] rfl ⟨imf icl_im, trivial⟩) (fun _ hf => hf.elim) ?_
 ·rintro nx ⟨⟩ h
  refine Tri.block ?_
  refine Tp rfl ?_
  refine Tri.seq ?_
  refine Tp rfl ?_
  refine Tri.cond (b := (decide ((W (a2 - a1)) ≤ 12))) rfl (fun hb => ?_) (fun hb => ?_)
  ·have h := cond_t hb h
   refine Tr ?_
   refine Qe 3 rfl ?_
   obtain ⟨x27, hc, h⟩ := bind_some h
   refine Qo [(20260000, .arr 3 1 (a0.map icl))] [(20260000, .arr 3 1 (x27.map icl))] [] rfl rfl rfl (args := [.hnd 20260000, Ai a1, Ai a2]) (r := .tup []) (calv rfl rfl fnok_313 rfl) (f313_ok hc) ⟨rfl, trivial⟩ rfl rfl rfl rfl rfl ?_
   refine RunD.done ?_
   refine Tri.ret ?_
   refine RetQ.eq2 (fun r => .tup []) (fun r => [(20260000, .arr 3 1 (r.map icl))]) (Option.some.inj h) ?_
   exact RetQ.mk (vs := []) (.inr rfl) rfl [] [(20260000, 20260000, .arr 3 1 (x27.map icl))] rfl rfl ⟨⟨_, rfl, .arr (im_flat icl_im x27)⟩, trivial⟩ (.tupV trivial)
  ·have h := cond_f hb h
   refine Tri.skip ?_
   refine Tri.seq ?_
   refine Tp rfl ?_
   refine Tri.cond (b := (a3 == 0)) rfl (fun hb_1 => ?_) (fun hb_1 => ?_)
   ·have h := cond_t hb_1 h
    refine Tr ?_
    refine Qe 3 rfl ?_
    obtain ⟨x33, hc_1, h⟩ := bind_some h
    refine Qo [(20260000, .arr 3 1 (a0.map icl))] [(20260000, .arr 3 1 (x33.map icl))] [] rfl rfl rfl (args := [.hnd 20260000, Ai a1, Ai a2]) (r := .tup []) (calv rfl rfl fnok_314 rfl) (f314_ok hc_1) ⟨rfl, trivial⟩ rfl rfl rfl rfl rfl ?_
    refine RunD.done ?_
    refine Tri.ret ?_
    refine RetQ.eq2 (fun r => .tup []) (fun r => [(20260000, .arr 3 1 (r.map icl))]) (Option.some.inj h) ?_
    exact RetQ.mk (vs := []) (.inr rfl) rfl [] [(20260000, 20260000, .arr 3 1 (x33.map icl))] rfl rfl ⟨⟨_, rfl, .arr (im_flat icl_im x33)⟩, trivial⟩ (.tupV trivial)
   ·have h := cond_f hb_1 h
    refine Tri.skip ?_
    refine Tri.seq ?_
    refine Tp rfl ?_
    refine Tri.cond (b := (!true)) rfl (fun hb_2 => ?_) (fun hb_2 => ?_)
    ·have h := cond_t hb_2 h
     refine Tri.seq ?_
     cases h
    ·have h := cond_f hb_2 h
     refine Tri.skip ?_
     refine Tr ?_
     refine Qe 3 rfl ?_
     obtain ⟨⟨x46_0, x46_1⟩, hc_2, h⟩ := bind_some h
     refine Ql [20260000] rfl rfl rfl (args := [.hnd 20260000, Ai a1, Ai a2]) (args' := [.lst 1 (a0.map icl), Ai a1, Ai a2]) (r := .tup [Ai x46_0, Ai x46_1]) (calv rfl rfl fnok_316 rfl) ⟨.hnd (List.Mem.head _) rfl (im_flat icl_im a0), .imm rfl, .imm rfl, trivial⟩ (f316_ok hc_2) rfl rfl ?_
     refine Qd rfl ?_
     refine Tri.seq ?_
     refine Tp rfl ?_
     obtain ⟨⟨vo0, v11, v12⟩, hj_3, h⟩ := bind_some h
     refine Tri.joinv (vo0, v11, v12) (fun (y : List Int × Int × Int) => ⟨[(0, .hnd 20260000), (1, Ai a1), (2, Ai a2), (3, Ai a3), (8, Ab true), (9, Ab true), (10, Ai (W (a2 - a1))), (11, Ai y.2.1), (12, Ai y.2.2)], [(20260000, some (.arr 3 1 (y.1.map icl)))]⟩) ?_ ?_
     ·refine Tri.seq ?_
      refine Tp rfl ?_
      obtain ⟨j_1, hj_1, h⟩ := jo h
      refine Tri.join (fun (y : List Int) => ⟨[(0, .hnd 20260000), (1, Ai a1), (2, Ai a2), (3, Ai a3), (8, Ab true), (9, Ab true), (10, Ai (W (a2 - a1))), (11, Ai v11)], [(20260000, some (.arr 3 1 (y.map icl)))]⟩) (fun y => j_1 y = some r) ?_ ?_
      ·rintro vo0_1 h
       subst hj_1
       refine Tri.seq ?_
       refine Tri.seq ?_
       obtain ⟨v87, hj_2, h⟩ := bind_some h
       refine Tri.joinv v87 (fun (y : Bool) => ⟨[(0, .hnd 20260000), (1, Ai a1), (2, Ai a2), (3, Ai a3), (8, Ab true), (9, Ab true), (10, Ai (W (a2 - a1))), (11, Ai v11), (87, Ab y)], [(20260000, some (.arr 3 1 (vo0_1.map icl)))]⟩) ?_ ?_
       ·refine Tri.cond (b := v87) rfl (fun hb_3 => ?_) (fun hb_3 => ?_)
        ·have h := cond_t hb_3 h
         refine Tri.seq ?_
         cases h
        ·have h := cond_f hb_3 h
         refine Tri.skip ?_
         refine Tri.seq ?_
         cases h
       ·have h := hj_2
        refine Tri.drawn [[], [0], [0, 1], [0, 1, 2], [0, 1, 2], [0, 1, 2, 4], [0, 1, 2, 3, 4, 5], [0, 1, 2, 3, 4, 5, 6], [0, 1, 2], [0, 1, 2], [0, 1, 2, 8, 9], [0, 1, 2, 8, 9, 10], [0, 1, 2, 3, 4, 5, 6, 7, 8, 9, 10, 11], [0, 1, 2, 3, 4, 5, 6, 7, 8, 9, 10, 11, 12], [0, 1, 2, 3, 4, 5, 6, 7, 8, 9, 10, 11, 12, 13]] hmix (by kernel_rfl) ?_
        refine Qe 3 rfl ?_
        rcases b2 (decide (a1 > 0)) with hb_4 | hb_4
        ·have h := cond_t hb_4 h
         refine Qk 75 hb_4 rfl ?_
         refine Qe 3 rfl ?_
         obtain ⟨y, hy, h⟩ := bind_some h
         refine Q1 rfl rfl rfl (Ax.ixh (cl := icl) rfl slc_26 rfl rfl rfl hy) ?_
         refine Q1 rfl rfl rfl (Ax.l1_arr (cl := icl) rfl siz_3 rfl rfl hy rfl) ?_
         refine Qe 2 rfl ?_
         obtain ⟨y_1, hy_1, h⟩ := bind_some h
         refine Q1 rfl rfl rfl (Ax.ixh (cl := icl) rfl slc_26 rfl rfl rfl hy_1) ?_
         refine Q1 rfl rfl rfl (Ax.l1_arr (cl := icl) rfl siz_3 rfl rfl hy_1 rfl) ?_
         obtain ⟨x85, hc_3, h⟩ := bind_some h
         refine Qc rfl rfl rfl (args := [Ai y, Ai y_1]) (r := Ab x85) (calv rfl rfl fnok_319 rfl) (f319_ok hc_3) rfl ?_
         refine Qe 2 rfl ?_
         refine RunD.done ⟨by kernel_rfl, freshL_of [] (by kernel_rfl) (by kernel_rfl), ?_⟩
         exact Exists.intro (!x85) (And.intro h (Ee [20260000] rfl ⟨imf icl_im, trivial⟩))
        ·have h := cond_f hb_4 h
         refine Qk 75 hb_4 rfl ?_
         refine Qe 12 rfl ?_
         refine RunD.done ⟨by kernel_rfl, freshL_of [] (by kernel_rfl) (by kernel_rfl), ?_⟩
         exact Exists.intro false (And.intro h (Ee [20260000] rfl ⟨imf icl_im, trivial⟩))
      ·refine Tri.cond (b := (v12 == 1)) rfl (fun hb_5 => ?_) (fun hb_5 => ?_)
       ·have h := cond_t hb_5 h
        refine Tr ?_
        refine Qe 3 rfl ?_
        obtain ⟨⟨x72_0, x72_1⟩, hc_4, h⟩ := bind_some h
        refine Qo [(20260000, .arr 3 1 (vo0.map icl))] [(20260000, .arr 3 1 (x72_1.map icl))] [] rfl rfl rfl (args := [.hnd 20260000, Ai a1, Ai a2]) (r := Ab x72_0) (calv rfl rfl fnok_318 rfl) (f318_ok hc_4) ⟨rfl, trivial⟩ rfl rfl rfl rfl rfl ?_
        refine RunD.done ?_
        refine Tri.cond (b := x72_0) rfl (fun hb_6 => ?_) (fun hb_6 => ?_)
        ·have h := cond_t hb_6 h
         refine Tri.ret ?_
         refine RetQ.eq2 (fun r => .tup []) (fun r => [(20260000, .arr 3 1 (r.map icl))]) (Option.some.inj h) ?_
         exact RetQ.mk (vs := []) (.inr rfl) rfl [] [(20260000, 20260000, .arr 3 1 (x72_1.map icl))] rfl rfl ⟨⟨_, rfl, .arr (im_flat icl_im x72_1)⟩, trivial⟩ (.tupV trivial)
        ·have h := cond_f hb_6 h
         refine Tri.skip ?_
         exact Exists.intro x72_1 (And.intro h (Ee [20260000] rfl ⟨imf icl_im, trivial⟩))
       ·have h := cond_f hb_5 h
        refine Tri.skip ?_
        exact Exists.intro vo0 (And.intro h (Ee [20260000] rfl ⟨imf icl_im, trivial⟩))
     ·have h := hj_3
      refine Tri.cond (b := (x46_1 == 2)) rfl (fun hb_7 => ?_) (fun hb_7 => ?_)
      ·have h := cond_t hb_7 h
       refine Tr ?_
       refine Qe 3 rfl ?_
       obtain ⟨x54, hc_5, h⟩ := bind_some h
       refine Qo [(20260000, .arr 3 1 (a0.map icl))] [(20260000, .arr 3 1 (x54.map icl))] [] rfl rfl rfl (args := [.hnd 20260000, Ai a1, Ai a2]) (r := .tup []) (calv rfl rfl fnok_317 rfl) (f317_ok hc_5) ⟨rfl, trivial⟩ rfl rfl rfl rfl rfl ?_
       refine RunD.done ?_
       refine Tp rfl ?_
       refine Tq rfl ?_
       exact Exists.intro (x54, (W ((W (a2 - 1)) - (W (x46_0 - a1)))), 1) (And.intro h (Ee [20260000] rfl ⟨imf icl_im, trivial⟩))
      ·have h := cond_f hb_7 h
       refine Tri.skip ?_
       exact Exists.intro (a0, x46_0, x46_1) (And.intro h (Ee [20260000] rfl ⟨imf icl_im, trivial⟩))
theorem f323_ok {K : Nat} {a0 : Int} {r : Int} (h : f323 K a0 = some r) : CallOK Tryz.prog 323 [.sc (.int .u64 a0)] [] (Ai r) [] := by
 refine CallOK.of_tri Tryz.func323 rfl rfl (Nat.le_of_ble_eq_true rfl) ?_
 unfold f323 at h
 refine Tp rfl ?_
 refine Tri.seq ?_
 refine Tp rfl ?_
 obtain ⟨⟨v0, v2⟩, hj_2, h⟩ := bind_some h
 refine Tri.joinv (v0, v2) (fun (y : Int × Int) => ⟨[(0, .sc (.int .u64 y.1)), (2, Ai y.2)], []⟩) ?_ ?_
 ·refine Tri.seq ?_
  refine Tp rfl ?_
  obtain ⟨⟨v0_1, v2_1⟩, hj_1, h⟩ := bind_some h
  refine Tri.joinv (v0_1, v2_1) (fun (y : Int × Int) => ⟨[(0, .sc (.int .u64 y.1)), (2, Ai y.2)], []⟩) ?_ ?_
  ·refine Tri.seq ?_
   refine Tp rfl ?_
   obtain ⟨⟨v0_2, v2_2⟩, hj, h⟩ := bind_some h
   refine Tri.joinv (v0_2, v2_2) (fun (y : Int × Int) => ⟨[(0, .sc (.int .u64 y.1)), (2, Ai y.2)], []⟩) ?_ ?_
   ·refine Tr ?_
    refine Qe 2 rfl ?_
    refine Q1 rfl rfl rfl (v := .sc (.int .u8 (IntKind.wrap .u8 v0_2))) (Ax.conv_int rfl rfl int_379 int_5) ?_
    obtain ⟨y, hy, h⟩ := bind_some h
    refine Q1 rfl rfl rfl (v := .sc (.int .u8 y)) (Ax.strix (tab := len8tab) rfl str_9 (by kernel_rfl) rfl hy) ?_
    refine Q1 rfl rfl rfl (v := Ai (IntKind.wrap .i64 y)) (Ax.conv_int rfl rfl int_5 int_3) ?_
    refine Qd rfl ?_
    refine Tri.ret ?_
    exact Ri h rfl
   ·have h := hj
    refine Tri.cond (b := (decide (v0_1 ≥ 256))) rfl (fun hb => ?_) (fun hb => ?_)
    ·have h := cond_t hb h
     refine Tr ?_
     refine Qe 1 rfl ?_
     refine Q1 rfl rfl rfl (v := .sc (.int .u64 (shrU v0_1 8))) (Ax.shr (m := 8) rfl rfl rfl (by decide)) ?_
     refine Qd rfl ?_
     refine Tq rfl ?_
     exact Exists.intro ((shrU v0_1 8), (W (v2_1 + 8))) (And.intro h (E0 rfl))
    ·have h := cond_f hb h
     refine Tri.skip ?_
     exact Exists.intro (v0_1, v2_1) (And.intro h (E0 rfl))
  ·have h := hj_1
   refine Tri.cond (b := (decide (v0 ≥ 65536))) rfl (fun hb_1 => ?_) (fun hb_1 => ?_)
   ·have h := cond_t hb_1 h
    refine Tr ?_
    refine Qe 1 rfl ?_
    refine Q1 rfl rfl rfl (v := .sc (.int .u64 (shrU v0 16))) (Ax.shr (m := 16) rfl rfl rfl (by decide)) ?_
    refine Qd rfl ?_
    refine Tq rfl ?_
    exact Exists.intro ((shrU v0 16), (W (v2 + 16))) (And.intro h (E0 rfl))
   ·have h := cond_f hb_1 h
    refine Tri.skip ?_
    exact Exists.intro (v0, v2) (And.intro h (E0 rfl))
 ·have h := hj_2
  refine Tri.cond (b := (decide (a0 ≥ 4294967296))) rfl (fun hb_2 => ?_) (fun hb_2 => ?_)
  ·have h := cond_t hb_2 h
   refine Tr ?_
   refine Qe 1 rfl ?_
   refine Q1 rfl rfl rfl (v := .sc (.int .u64 (shrU a0 32))) (Ax.shr (m := 32) rfl rfl rfl (by decide)) ?_
   refine Qd rfl ?_
   refine Tq rfl ?_
   exact Exists.intro ((shrU a0 32), 32) (And.intro h (E0 rfl))
  ·have h := cond_f hb_2 h
   refine Tri.skip ?_
   exact Exists.intro (a0, 0) (And.intro h (E0 rfl))
theorem f254_ok {K : Nat} {a0 : Int} {r : Int} (h : f254 K a0 = some r) : CallOK Tryz.prog 254 [.sc (.int .u64 a0)] [] (Ai r) [] := by
 refine CallOK.of_tri Tryz.func254 rfl rfl (Nat.le_of_ble_eq_true rfl) ?_
 unfold f254 at h
 refine Tp rfl ?_
 refine Tri.seq ?_
 refine Tri.cond_f rfl ?_
 refine Tri.skip ?_
 refine Tr ?_
 refine Qe 1 rfl ?_
 obtain ⟨x7, hc, h⟩ := bind_some h
 refine Qc rfl rfl rfl (args := [.sc (.int .u64 a0)]) (r := Ai x7) (calv rfl rfl fnok_323 rfl) (f323_ok hc) rfl ?_
 refine Qd rfl ?_
 refine Tri.ret ?_
 exact Ri h rfl
theorem f133_ok {K : Nat} {a0 : List Int} {r : List Int} (h : f133 K a0 = some r) : CallOK Tryz.prog 133 [.hnd 20260000] [(20260000, .arr 3 1 (a0.map icl))] (.tup []) [(20260000, .arr 3 1 (r.map icl))] := by
 refine CallOK.of_tri Tryz.func133 rfl rfl (Nat.le_of_ble_eq_true rfl) ?_
 unfold f133 at h
 refine Tr ?_
 refine Qe 1 rfl ?_
 refine Q1 rfl rfl rfl (Ax.lnh (cl := icl) rfl slc_26 rfl rfl) ?_
 refine Qd rfl ?_
 refine Tri.region ?_
 refine Qe 3 rfl ?_
 refine Q1 rfl rfl rfl (v := .sc (.int .u64 (IntKind.wrap .u64 (a0.length : Int)))) (Ax.conv_int rfl rfl int_3 int_325) ?_
 obtain ⟨x9, hc, h⟩ := bind_some h
 refine Qc rfl rfl rfl (args := [.sc (.int .u64 (IntKind.wrap .u64 (a0.length : Int)))]) (r := Ai x9) (calv rfl rfl fnok_254 rfl) (f254_ok hc) rfl ?_
 obtain ⟨x10, hc_1, h⟩ := bind_some h
 refine Qo [(20260000, .arr 3 1 (a0.map icl))] [(20260000, .arr 3 1 (x10.map icl))] [] rfl rfl rfl (args := [.hnd 20260000, Ai 0, Ai (a0.length : Int), Ai x9]) (r := .tup []) (calv rfl rfl fnok_253 rfl) (f253_ok hc_1) ⟨rfl, trivial⟩ rfl rfl rfl rfl rfl ?_
 refine RunD.done ?_
 refine RetQ.eq2 (fun r => .tup []) (fun r => [(20260000, .arr 3 1 (r.map icl))]) (Option.some.inj h) ?_
 exact RetQ.mk (vs := []) (.inl rfl) rfl [] [(20260000, 20260000, .arr 3 1 (x10.map icl))] rfl rfl ⟨⟨_, rfl, .arr (im_flat icl_im x10)⟩, trivial⟩ (.tupV trivial)
theorem f134_fr {K : Nat} {a0 : List Int} {r : List Int} (h : f134 K a0 = some r) : CallOK Tryz.prog 134 [.hnd 20260000] [(20260000, .arr 3 1 (a0.map icl))] (.hnd 1355000) [(1355000, .arr 3 1 (r.map icl))] := by
 refine CallOK.of_tri Tryz.func134 rfl rfl (Nat.le_of_ble_eq_true rfl) ?_
 unfold f134 at h
 refine Tr ?_
 refine Qn rfl rfl rfl (v := .hnd 2) (x := some (.arr 3 1 (([] : List Int).map icl))) (Ax.nil_new 3 1 (.inr rfl) rfl) rfl rfl rfl rfl rfl ?_
 refine RunD.done ?_
 refine Tri.seq ?_
 refine Tr ?_
 refine Qe 1 rfl ?_
 refine Q1 rfl rfl rfl (Ax.lnh (cl := icl) rfl slc_26 rfl rfl) ?_
 refine Qd rfl ?_
 refine Tri.cond (b := (decide ((a0.length : Int) < 2))) rfl (fun hb => ?_) (fun hb => ?_)
 ·have h := cond_t hb h
  refine Tp rfl ?_
  refine Tri.ret ?_
  refine Rr (fun r => .hnd 1355000) (fun r => [(1355000, .arr 3 1 (r.map icl))]) [20260000] h ?_ ?_
  ·rfl
  exact ⟨imf icl_im, trivial⟩
 ·have h := cond_f hb h
  refine Tri.skip ?_
  refine Tri.seq ?_
  refine Tp rfl ?_
  obtain ⟨j, hj, h⟩ := jo h
  refine Tri.rngN h (fun p => ⟨[(0, .hnd 20260000), (3, Ai p.1)], [(20260000, some (.arr 3 1 (a0.map icl)))]⟩) (fun y => j y = some r) (fun (y : Unit) => ⟨[(0, .hnd 20260000)], [(20260000, some (.arr 3 1 (a0.map icl)))]⟩) (Ee [20260000] rfl ⟨imf icl_im, trivial⟩) ?_ ?_ ?_
  ·rintro ⟨⟩ h
   subst hj
   refine Tp rfl ?_
   refine Tri.ret ?_
   refine Rr (fun r => .hnd 1355000) (fun r => [(1355000, .arr 3 1 (r.map icl))]) [20260000] h ?_ ?_
   ·rfl
   exact ⟨imf icl_im, trivial⟩
  ·rintro v3 ⟨⟩ hi _ h
   refine Tri.seq ?_
   refine Tr ?_
   refine Qe 2 rfl ?_
   refine Q1 rfl rfl rfl (Ax.lnh (cl := icl) rfl slc_26 rfl rfl) ?_
   refine Qd rfl ?_
   refine Tri.cond (b := (decide (v3 < (a0.length : Int)))) rfl (fun hb_1 => ?_) (fun hb_1 => ?_)
   ·exact (lt_f hi hb_1).elim
   ·refine Tri.exit ?_
    exact Exists.intro () (And.intro h (Ee [20260000] rfl ⟨imf icl_im, trivial⟩))
  ·rintro nx v3 ⟨⟩ _ hi hw h
   refine Tri.seq ?_
   refine Tr ?_
   refine Qe 2 rfl ?_
   refine Q1 rfl rfl rfl (Ax.lnh (cl := icl) rfl slc_26 rfl rfl) ?_
   refine Qd rfl ?_
   refine Tri.cond (b := (decide (v3 < (a0.length : Int)))) rfl (fun hb_2 => ?_) (fun hb_2 => ?_)
   ·refine Tri.skip ?_
    refine Tri.seq ?_
    refine Tri.block ?_
    refine Tri.seq ?_
    refine Tri.drawn [] hmix (by kernel_rfl) ?_
    refine Qe 2 rfl ?_
    obtain ⟨y, hy, h⟩ := bind_some h
    refine Q1 rfl rfl rfl (Ax.ixh (cl := icl) rfl slc_26 rfl rfl rfl hy) ?_
    refine Q1 rfl rfl rfl (Ax.l1_arr (cl := icl) rfl siz_3 rfl rfl hy rfl) ?_
    refine Qe 3 rfl ?_
    obtain ⟨y_1, hy_1, h⟩ := bind_some h
    refine Q1 rfl rfl rfl (Ax.ixh (cl := icl) rfl slc_26 rfl rfl rfl hy_1) ?_
    refine Q1 rfl rfl rfl (Ax.l1_arr (cl := icl) rfl siz_3 rfl rfl hy_1 rfl) ?_
    refine Qe 1 rfl ?_
    refine RunD.done ⟨by kernel_rfl, freshL_of [] (by kernel_rfl) (by kernel_rfl), ?_⟩
    refine Tri.cond (b := (y == y_1)) rfl (fun hb_3 => ?_) (fun hb_3 => ?_)
    ·have h := cond_t hb_3 h
     refine Tr ?_
     refine Qe 2 rfl ?_
     obtain ⟨_, hz, h⟩ := bind_some h
     refine Q1 rfl rfl rfl (v := .vw 20260000 1 (Int.toNat v3) (Int.toNat (a0.length : Int)) a0.length) (Ax.vh (cl := icl) (xs := a0) rfl slc_26 rfl rfl ⟨_, rfl⟩ rfl hz) ?_
     refine Qd rfl ?_
     refine Tri.seq ?_
     refine Tp rfl ?_
     obtain ⟨⟨vo0_1, v3_2⟩, hj_1, h⟩ := bind_some h
     refine Tri.rngNv hj_1 (fun p => ⟨[(0, .hnd 20260000), (3, Ai p.2.2), (4, .vw 20260000 1 (Int.toNat v3) (Int.toNat (a0.length : Int)) a0.length), (5, Ai p.1)], [(20260000, some (.arr 3 1 (p.2.1.map icl)))]⟩) (fun (y : List Int × Int) => ⟨[(0, .hnd 20260000), (3, Ai y.2)], [(20260000, some (.arr 3 1 (y.1.map icl)))]⟩) (Ee [20260000] rfl ⟨imf icl_im, trivial⟩) ?_ ?_ ?_
     ·refine Tr ?_
      refine Qe 2 rfl ?_
      obtain ⟨_, hz_1, h⟩ := bind_some h
      refine Q1 rfl rfl rfl (v := .vw 20260000 1 (Int.toNat v3_2) (Int.toNat (vo0_1.length : Int)) vo0_1.length) (Ax.vh (cl := icl) (xs := vo0_1) rfl slc_26 rfl rfl ⟨_, rfl⟩ rfl hz_1) ?_
      refine Qs rfl rfl (v := .tup []) (x := some (.arr 3 1 ((clrI vo0_1 v3_2 (vo0_1.length : Int) 0).map icl))) (Ax.vclr (cl := icl) (xs := vo0_1) (zv := 0) rfl slc_26 rfl rfl rfl rfl) ?_
      refine RunD.done ?_
      refine Tr ?_
      refine Qe 2 rfl ?_
      obtain ⟨_, hz_2, h⟩ := bind_some h
      refine Q1 rfl rfl rfl (v := .vw 20260000 1 (Int.toNat 0) (Int.toNat v3_2) ((clrI vo0_1 v3_2 (vo0_1.length : Int) 0).length)) (Ax.vh (cl := icl) (xs := (clrI vo0_1 v3_2 (vo0_1.length : Int) 0)) rfl slc_26 rfl rfl rfl ⟨_, rfl⟩ hz_2) ?_
      obtain ⟨z2, hz_3, h⟩ := bind_some h
      refine Qa rfl rfl rfl (v := .hnd 2) (x := some (.arr 3 1 (z2.map icl))) (Ax.vo (cl := icl) (.inr rfl) rfl rfl rfl hz_3 rfl) rfl rfl rfl rfl rfl ?_
      refine RunD.done ?_
      refine Tri.ret ?_
      refine Rr (fun r => .hnd 1355000) (fun r => [(1355000, .arr 3 1 (r.map icl))]) [2] h ?_ ?_
      ·rfl
      exact ⟨imf icl_im, trivial⟩
     ·rintro v5 ⟨vo0, v3_1⟩ hi_1 _ h
      refine Tri.seq ?_
      refine Tr ?_
      refine Qe 2 rfl ?_
      refine Q1 rfl rfl rfl (v := Ai ((Int.toNat (a0.length : Int) - Int.toNat v3 : Nat) : Int)) (Ax.vlen (cl := icl) (xs := vo0) rfl slc_26 rfl rfl) ?_
      refine Qd rfl ?_
      refine Tri.cond (b := (decide (v5 < ((Int.toNat (a0.length : Int) - Int.toNat v3 : Nat) : Int)))) rfl (fun hb_4 => ?_) (fun hb_4 => ?_)
      ·exact (lt_f hi_1 hb_4).elim
      ·refine Tri.exit ?_
       exact Exists.intro (vo0, v3_1) (And.intro h (Ee [20260000] rfl ⟨imf icl_im, trivial⟩))
     ·rintro nx_1 v5 ⟨vo0, v3_1⟩ _ hi_1 hw_1 h
      refine Tri.seq ?_
      refine Tr ?_
      refine Qe 2 rfl ?_
      refine Q1 rfl rfl rfl (v := Ai ((Int.toNat (a0.length : Int) - Int.toNat v3 : Nat) : Int)) (Ax.vlen (cl := icl) (xs := vo0) rfl slc_26 rfl rfl) ?_
      refine Qd rfl ?_
      refine Tri.cond (b := (decide (v5 < ((Int.toNat (a0.length : Int) - Int.toNat v3 : Nat) : Int)))) rfl (fun hb_5 => ?_) (fun hb_5 => ?_)
      ·refine Tri.skip ?_
       refine Tri.seq ?_
       refine Tri.block ?_
       refine Tri.seq ?_
       refine Tri.drawn [] hmix (by kernel_rfl) ?_
       refine Qe 2 rfl ?_
       obtain ⟨_, hz_4, h⟩ := bind_some h
       refine Q1 rfl rfl rfl (v := .eptr 20260000 1 (Int.toNat (v3 + v5)) 0) (Ax.vi (cl := icl) (xs := vo0) rfl slc_26 rfl rfl rfl hz_4) ?_
       obtain ⟨y_2, hy_2, h⟩ := bind_some h
       refine Q1 rfl rfl rfl (Ax.l1_arr (cl := icl) rfl siz_3 rfl rfl hy_2 rfl) ?_
       refine Qe 3 rfl ?_
       obtain ⟨_, hz_5, h⟩ := bind_some h
       refine Q1 rfl rfl rfl (v := .eptr 20260000 1 (Int.toNat (v3 + (W (v5 - 1)))) 0) (Ax.vi (cl := icl) (xs := vo0) rfl slc_26 rfl rfl rfl hz_5) ?_
       obtain ⟨y_3, hy_3, h⟩ := bind_some h
       refine Q1 rfl rfl rfl (Ax.l1_arr (cl := icl) rfl siz_3 rfl rfl hy_3 rfl) ?_
       refine Qe 1 rfl ?_
       refine RunD.done ⟨by kernel_rfl, freshL_of [] (by kernel_rfl) (by kernel_rfl), ?_⟩
       obtain ⟨⟨vo0_2, v3_3⟩, hj_2, h⟩ := bind_some h
       refine Tri.joinv (vo0_2, v3_3) (fun (y : List Int × Int) => ⟨[(0, .hnd 20260000), (3, Ai y.2), (4, .vw 20260000 1 (Int.toNat v3) (Int.toNat (a0.length : Int)) a0.length), (5, Ai v5)], [(20260000, some (.arr 3 1 (y.1.map icl)))]⟩) ?_ ?_
       ·refine Tq rfl ?_
        exact Exists.intro (v5 + 1, (vo0_2, v3_3)) (And.intro (And.intro rfl h) (Es [20260000] [5] rfl ⟨imf icl_im, trivial⟩ ⟨.imm (Sub.of_eq (show Ai (v5 + 1) = Ai (W (v5 + 1)) from congrArg Ai hw_1.symm)) rfl, trivial⟩))
       ·have h := hj_2
        refine Tri.cond (b := (y_2 != y_3)) rfl (fun hb_6 => ?_) (fun hb_6 => ?_)
        ·have h := cond_t hb_6 h
         refine Tr ?_
         refine Qe 4 rfl ?_
         obtain ⟨_, hz_6, h⟩ := bind_some h
         refine Q1 rfl rfl rfl (v := .eptr 20260000 1 (Int.toNat (v3 + v5)) 0) (Ax.vi (cl := icl) (xs := vo0) rfl slc_26 rfl rfl rfl hz_6) ?_
         refine Q1 rfl rfl rfl (Ax.l1_arr (cl := icl) rfl siz_3 rfl rfl hy_2 rfl) ?_
         obtain ⟨y_4, hy_4, h⟩ := bind_some h
         refine Q1 rfl rfl rfl (Ax.ixh (cl := icl) rfl slc_26 rfl rfl rfl hy_4) ?_
         refine Qs rfl rfl (x := some (.arr 3 1 ((vo0.set (Int.toNat v3_1) y_2).map icl))) (Ax.st_arr (cl := icl) (q := y_2) rfl siz_3 rfl rfl hy_4 rfl rfl rfl rfl rfl rfl) ?_
         refine RunD.done ?_
         refine Tq rfl ?_
         exact Exists.intro ((vo0.set (Int.toNat v3_1) y_2), (W (v3_1 + 1))) (And.intro h (Ee [20260000] rfl ⟨imf icl_im, trivial⟩))
        ·have h := cond_f hb_6 h
         refine Tri.skip ?_
         exact Exists.intro (vo0, v3_1) (And.intro h (Ee [20260000] rfl ⟨imf icl_im, trivial⟩))
      ·exact (lt_t hi_1 hb_5).elim
    ·have h := cond_f hb_3 h
     refine Tri.skip ?_
     refine Tq rfl ?_
     exact Exists.intro (v3 + 1, ()) (And.intro (And.intro rfl h) (Es [20260000] [3] rfl ⟨imf icl_im, trivial⟩ ⟨.imm (Sub.of_eq (show Ai (v3 + 1) = Ai (W (v3 + 1)) from congrArg Ai hw.symm)) rfl, trivial⟩))
   ·exact (lt_t hi hb_2).elim
theorem f84_ok {K : Nat} {a0 : List Int} {a1 : Int} {a2 : Int} {r : List Int} (h : f84 K a0 a1 a2 = some r) : CallOK Tryz.prog 84 [.hnd 20260000, Ai a1, Ai a2] [(20260000, .arr 3 1 (a0.map icl))] (.lst 1 (r.map icl)) [] := by
 refine CallOK.of_tri Tryz.func84 rfl rfl (Nat.le_of_ble_eq_true rfl) ?_
 unfold f84 at h
 refine Tr ?_
 refine Q1 rfl rfl rfl (v := .lst 1 (([] : List Int).map icl)) (Ax.nl 1 rfl rfl) ?_
 refine RunD.done ?_
 refine Tr ?_
 refine Qe 4 rfl ?_
 refine Q1 rfl rfl rfl (Ax.lnh (cl := icl) rfl slc_26 rfl rfl) ?_
 obtain ⟨_, hz, h⟩ := bind_some h
 obtain ⟨_, hz_1, h⟩ := bind_some h
 refine Q1 rfl rfl rfl (v := .undef) (Ax.vm (cl := icl) (xs := a0) rfl slc_26 rfl rfl rfl rfl rfl hz hz_1) ?_
 refine RunD.done ?_
 refine Tri.seq ?_
 refine Tp rfl ?_
 refine Tri.cond (b := (a1 == a2)) rfl (fun hb => ?_) (fun hb => ?_)
 ·have h := cond_t hb h
  refine Tp rfl ?_
  refine Tri.ret ?_
  refine RetQ.eq2 (fun r => .lst 1 (r.map icl)) (fun r => []) (Option.some.inj h) ?_
  exact RetQ.mk (vs := [.hnd 20260000]) (.inr rfl) ⟨_, _, rfl, .tmp rfl, rfl⟩ [20260000] [] rfl rfl trivial (.frz (.hnd (List.Mem.head _) rfl (im_flat icl_im a0)) rfl)
 ·have h := cond_f hb h
  refine Tri.skip ?_
  refine Tr ?_
  refine Qe 1 rfl ?_
  refine Q1 rfl rfl rfl (Ax.lnh (cl := icl) rfl slc_26 rfl rfl) ?_
  refine Qd rfl ?_
  refine Tri.seq ?_
  refine Tri.drawn [[], [], [0, 1], [], [], [3, 4], [0, 1, 2, 3, 4, 5], []] hmix (by kernel_rfl) ?_
  refine Qe 2 rfl ?_
  obtain ⟨_, hz_2, h⟩ := bind_some h
  refine Q1 rfl rfl rfl (v := .vw 20260000 1 (Int.toNat 0) (Int.toNat a1) a0.length) (Ax.vh (cl := icl) (xs := a0) rfl slc_26 rfl rfl rfl ⟨_, rfl⟩ hz_2) ?_
  refine Qe 2 rfl ?_
  obtain ⟨_, hz_3, h⟩ := bind_some h
  refine Q1 rfl rfl rfl (v := .vw 20260000 1 (Int.toNat a2) (Int.toNat (a0.length : Int)) a0.length) (Ax.vh (cl := icl) (xs := a0) rfl slc_26 rfl rfl ⟨_, rfl⟩ rfl hz_3) ?_
  obtain ⟨z26, hz_4, h⟩ := bind_some h
  refine Qa rfl rfl rfl (v := .vw 26 1 (Int.toNat 0) (Int.toNat (z26.length : Int)) a0.length) (x := some (.arr 3 1 (z26.map icl))) (Ax.vap (cl := icl) rfl rfl slc_26 rfl rfl rfl hz_4 rfl) rfl rfl rfl rfl rfl ?_
  refine Qe 1 rfl ?_
  refine RunD.done ⟨by kernel_rfl, freshL_of [26] (by kernel_rfl) (by kernel_rfl), ?_⟩
  refine Tr ?_
  refine Qe 2 rfl ?_
  refine Q1 rfl rfl rfl (v := Ai ((Int.toNat (z26.length : Int) - Int.toNat 0 : Nat) : Int)) (Ax.vlen (cl := icl) (xs := z26) rfl slc_26 rfl rfl) ?_
  refine Qe 1 rfl ?_
  obtain ⟨_, hz_5, h⟩ := bind_some h
  refine Q1 rfl rfl rfl (v := .vw 26 1 (Int.toNat ((Int.toNat (z26.length : Int) - Int.toNat 0 : Nat) : Int)) (Int.toNat (a0.length : Int)) a0.length) (Ax.vv (cl := icl) (xs := z26) rfl slc_26 rfl rfl ⟨_, rfl⟩ ⟨_, rfl⟩ (Int.natCast_nonneg _) hz_5) ?_
  refine Qs rfl rfl (v := .tup []) (x := some (.arr 3 1 ((clrI z26 ((Int.toNat (z26.length : Int) - Int.toNat 0 : Nat) : Int) (a0.length : Int) 0).map icl))) (Ax.vclr (cl := icl) (xs := z26) (zv := 0) rfl slc_26 rfl rfl rfl rfl) ?_
  refine RunD.done ?_
  refine Tr ?_
  refine Qe 1 rfl ?_
  obtain ⟨z6, hz_6, h⟩ := bind_some h
  refine Qa rfl rfl rfl (v := .hnd 6) (x := some (.arr 3 1 (z6.map icl))) (Ax.vo (cl := icl) (.inr rfl) rfl rfl rfl hz_6 rfl) rfl rfl rfl rfl rfl ?_
  refine RunD.done ?_
  refine Tri.ret ?_
  refine RetQ.eq2 (fun r => .lst 1 (r.map icl)) (fun r => []) (Option.some.inj h) ?_
  exact RetQ.mk (vs := [.hnd 6]) (.inr rfl) ⟨_, _, rfl, .tmp rfl, rfl⟩ [6] [] rfl rfl trivial (.frz (.hnd (List.Mem.head _) rfl (im_flat icl_im z6)) rfl)
theorem f135_ok {K : Nat} {a0 : List Int} {a1 : List Int → Option Bool} {g1 : Nat} {caps1 : List AV} {r : List Int} (hg1 : FnOK Tryz.prog g1) (ho1 : (AV.fn g1 caps1).only [] = true) (hp1 : ∀ x0 r, a1 x0 = some r → CallOK Tryz.prog g1 ([.lst 1 (x0.map icl)] ++ caps1) [] (Ab r) []) (h : f135 K a0 a1 = some r) : CallOK Tryz.prog 135 [.lst 1 (a0.map icl), .fn g1 caps1] [] (.lst 1 (r.map icl)) [] := by
 refine CallOK.of_tri Tryz.func135 rfl rfl (Nat.le_of_ble_eq_true rfl) ?_
 unfold f135 at h
 refine Tr ?_
 refine Q1 rfl rfl rfl (v := .lst 1 (([] : List Int).map icl)) (Ax.nl 1 rfl rfl) ?_
 refine RunD.done ?_
 refine Tr ?_
 refine Qe 1 rfl ?_
 obtain ⟨x8, hc, h⟩ := bind_some h
 refine Qc rfl rfl rfl (args := [.lst 1 (a0.map icl)]) (r := .lst 1 (x8.map icl)) (calv rfl rfl fnok_85 rfl) (f85_ok hc) rfl ?_
 refine Qd rfl ?_
 refine Tri.seq ?_
 refine Tp rfl ?_
 obtain ⟨v0_1, hj, h⟩ := bind_some h
 refine Tri.whlv hj (fun p => ⟨[(0, .lst 1 (p.1.map icl)), (1, .fn g1 caps1), (5, Ai p.2)], []⟩) (fun (y : List Int) => ⟨[(0, .lst 1 (y.map icl))], []⟩) (Es0 [1] rfl ⟨.imm (Sub.refl _) ho1, trivial⟩) ?_ ?_
 ·refine Tp rfl ?_
  refine Tri.ret ?_
  refine Rr (fun r => .lst 1 (r.map icl)) (fun r => []) [] h ?_ trivial
  rfl
 ·rintro nx ⟨v0, v5⟩ h
  refine Tri.seq ?_
  refine Tr ?_
  refine Qe 2 rfl ?_
  refine Q1 rfl rfl rfl (Ax.ln (cl := icl) rfl slc_26 rfl) ?_
  refine Qd rfl ?_
  refine Tri.cond (b := (decide (v5 < (v0.length : Int)))) rfl (fun hb => ?_) (fun hb => ?_)
  ·have h := cond_t hb h
   refine Tri.skip ?_
   refine Tri.block ?_
   refine Tr ?_
   refine Qe 1 rfl ?_
   obtain ⟨x14, hc_1, h⟩ := bind_some h
   refine Qo [] [(20260000, .arr 3 1 (x14.map icl))] [20260000] rfl rfl rfl (args := [.lst 1 (v0.map icl)]) (r := .hnd 20260000) (calv rfl rfl fnok_85 rfl) (f85_fr hc_1) trivial rfl rfl rfl (by first | rfl | (exact freshB_mk (by first | rfl | simp [menT, menO, AO.men, AV.men, menL, fn_men ho1]) rfl (by first | rfl | simp [menT, menO, AO.men, AV.men, menL, fn_men ho1]) rfl) | (simp [menT, menO, AO.men, AV.men, menL, fn_men ho1]; done) | ((simp only [List.all_cons, List.all_nil, Bool.and_true, Bool.and_eq_true]); and_intros <;> exact freshB_mk (by first | rfl | simp [menT, menO, AO.men, AV.men, menL, fn_men ho1]) rfl (by first | rfl | simp [menT, menO, AO.men, AV.men, menL, fn_men ho1]) rfl)) rfl ?_
   refine Qe 3 rfl ?_
   obtain ⟨x18, hc_2, h⟩ := bind_some h
   refine Qo [(20260000, .arr 3 1 (x14.map icl))] [] [] rfl rfl rfl (args := [.hnd 20260000, Ai v5, Ai (W (v5 + 1))]) (r := .lst 1 (x18.map icl)) (calv rfl rfl fnok_84 rfl) (f84_ok hc_2) ⟨rfl, trivial⟩ rfl rfl rfl (by first | rfl | (exact freshB_mk (by first | rfl | simp [menT, menO, AO.men, AV.men, menL, fn_men ho1]) rfl (by first | rfl | simp [menT, menO, AO.men, AV.men, menL, fn_men ho1]) rfl) | (simp [menT, menO, AO.men, AV.men, menL, fn_men ho1]; done) | ((simp only [List.all_cons, List.all_nil, Bool.and_true, Bool.and_eq_true]); and_intros <;> exact freshB_mk (by first | rfl | simp [menT, menO, AO.men, AV.men, menL, fn_men ho1]) rfl (by first | rfl | simp [menT, menO, AO.men, AV.men, menL, fn_men ho1]) rfl)) rfl ?_
   refine Qd rfl ?_
   refine Tr ?_
   refine Qe 2 rfl ?_
   obtain ⟨x21, hc_3, h⟩ := bind_some h
   refine Qc rfl rfl rfl (args := [.lst 1 (x18.map icl)] ++ caps1) (r := Ab x21) (calv rfl rfl hg1 rfl) (hp1 _ _ hc_3) rfl ?_
   refine RunD.done ?_
   obtain ⟨⟨v0_2, v5_1⟩, hj_1, h⟩ := bind_some h
   refine Tri.joinv (v0_2, v5_1) (fun (y : List Int × Int) => ⟨[(0, .lst 1 (y.1.map icl)), (1, .fn g1 caps1), (5, Ai y.2)], []⟩) ?_ ?_
   ·exact Exists.intro (v0_2, v5_1) (And.intro h (Es0 [1] rfl ⟨.imm (Sub.refl _) ho1, trivial⟩))
   ·have h := hj_1
    refine Tri.cond (b := x21) rfl (fun hb_1 => ?_) (fun hb_1 => ?_)
    ·have h := cond_t hb_1 h
     refine Tq rfl ?_
     exact Exists.intro (x18, v5) (And.intro h (Es0 [1] rfl ⟨.imm (Sub.refl _) ho1, trivial⟩))
    ·have h := cond_f hb_1 h
     refine Tq rfl ?_
     exact Exists.intro (v0, (W (v5 + 1))) (And.intro h (Es0 [1] rfl ⟨.imm (Sub.refl _) ho1, trivial⟩))
  ·have h := cond_f hb h
   refine Tri.exit ?_
   exact Exists.intro v0 (And.intro h (E0 rfl))
theorem f137_ok {K : Nat} {a0 : Scene} {r : Bool} (h : f137 K a0 = some r) : CallOK Tryz.prog 137 [.agg (Scene.cl a0)] [] (Ab r) [] := by
 refine CallOK.of_tri Tryz.func137 rfl rfl (Nat.le_of_ble_eq_true rfl) ?_
 unfold f137 at h
 refine Tp rfl ?_
 refine Tr ?_
 refine Qe 1 rfl ?_
 obtain ⟨⟨x7_0, x7_1⟩, hc, h⟩ := bind_some h
 refine Qc rfl rfl rfl (args := [.agg (Scene.cl a0)]) (r := .tup [.lst 1 (x7_0.map cl26), Ai x7_1]) (calv rfl rfl fnok_31 rfl) (f31_ok hc) rfl ?_
 refine Qd rfl ?_
 refine Tp rfl ?_
 refine Tri.ret ?_
 exact Rb h rfl
theorem f138_ok {K : Nat} {a0 : Scene} {a1 : Int → Option Bool} {g1 : Nat} {caps1 : List AV} {r : Scene} (hg1 : FnOK Tryz.prog g1) (ho1 : (AV.fn g1 caps1).only [] = true) (hp1 : ∀ x0 r, a1 x0 = some r → CallOK Tryz.prog g1 ([Ai x0] ++ caps1) [] (Ab r) []) (h : f138 K a0 a1 = some r) : CallOK Tryz.prog 138 [.agg (Scene.cl a0), .fn g1 caps1] [] (.agg (Scene.cl r)) [] := by
 refine CallOK.of_tri Tryz.func138 rfl rfl (Nat.le_of_ble_eq_true rfl) ?_
 change Tri Tryz.prog 27 _ _ ⟨[(0, .agg (Scene.cl a0)), (1, .fn g1 caps1)], []⟩ _
 unfold f138 at h
 refine Tr ?_
 refine Qn rfl rfl rfl (v := .ptr 2 0) (x := some (.box (Scene.cl a0))) (Ax.box_ptr rfl rfl rfl rfl) rfl (by first | rfl | (exact freshB_mk (by first | rfl | simp [menT, menO, AO.men, AV.men, menL, fn_men ho1]) rfl (by first | rfl | simp [menT, menO, AO.men, AV.men, menL, fn_men ho1]) rfl) | (simp [menT, menO, AO.men, AV.men, menL, fn_men ho1]; done) | ((simp only [List.all_cons, List.all_nil, Bool.and_true, Bool.and_eq_true]); and_intros <;> exact freshB_mk (by first | rfl | simp [menT, menO, AO.men, AV.men, menL, fn_men ho1]) rfl (by first | rfl | simp [menT, menO, AO.men, AV.men, menL, fn_men ho1]) rfl)) rfl (by first | rfl | (exact freshB_mk (by first | rfl | simp [menT, menO, AO.men, AV.men, menL, fn_men ho1]) rfl (by first | rfl | simp [menT, menO, AO.men, AV.men, menL, fn_men ho1]) rfl) | (simp [menT, menO, AO.men, AV.men, menL, fn_men ho1]; done) | ((simp only [List.all_cons, List.all_nil, Bool.and_true, Bool.and_eq_true]); and_intros <;> exact freshB_mk (by first | rfl | simp [menT, menO, AO.men, AV.men, menL, fn_men ho1]) rfl (by first | rfl | simp [menT, menO, AO.men, AV.men, menL, fn_men ho1]) rfl)) rfl ?_
 refine Qn rfl rfl rfl (v := .ptr 4 0) (x := some (.box (Scene.cl (⟨(⟨([] : List Cell), ([] : List Arr2_3), 0, 0, 0⟩ : Basin), ([] : List Int), ([] : List Sight), ([] : List Change)⟩ : Scene)))) (Ax.alloc rfl rfl zer_30 rfl ⟨Sub.nil _, Sub.nil _, Sub.refl _, Sub.refl _, Sub.refl _, Sub.nil _, Sub.nil _, Sub.nil _, trivial⟩) rfl (by first | rfl | (exact freshB_mk (by first | rfl | simp [menT, menO, AO.men, AV.men, menL, fn_men ho1]) rfl (by first | rfl | simp [menT, menO, AO.men, AV.men, menL, fn_men ho1]) rfl) | (simp [menT, menO, AO.men, AV.men, menL, fn_men ho1]; done) | ((simp only [List.all_cons, List.all_nil, Bool.and_true, Bool.and_eq_true]); and_intros <;> exact freshB_mk (by first | rfl | simp [menT, menO, AO.men, AV.men, menL, fn_men ho1]) rfl (by first | rfl | simp [menT, menO, AO.men, AV.men, menL, fn_men ho1]) rfl)) rfl (by first | rfl | (exact freshB_mk (by first | rfl | simp [menT, menO, AO.men, AV.men, menL, fn_men ho1]) rfl (by first | rfl | simp [menT, menO, AO.men, AV.men, menL, fn_men ho1]) rfl) | (simp [menT, menO, AO.men, AV.men, menL, fn_men ho1]; done) | ((simp only [List.all_cons, List.all_nil, Bool.and_true, Bool.and_eq_true]); and_intros <;> exact freshB_mk (by first | rfl | simp [menT, menO, AO.men, AV.men, menL, fn_men ho1]) rfl (by first | rfl | simp [menT, menO, AO.men, AV.men, menL, fn_men ho1]) rfl)) rfl ?_
 refine RunD.done ?_
 refine Tr ?_
 refine Qn rfl rfl rfl (v := .hnd 5) (x := some (.arr 64 5 (([] : List Sight).map Sight.cl))) (Ax.nil_new 64 5 (.inr rfl) rfl) rfl (by first | rfl | (exact freshB_mk (by first | rfl | simp [menT, menO, AO.men, AV.men, menL, fn_men ho1]) rfl (by first | rfl | simp [menT, menO, AO.men, AV.men, menL, fn_men ho1]) rfl) | (simp [menT, menO, AO.men, AV.men, menL, fn_men ho1]; done) | ((simp only [List.all_cons, List.all_nil, Bool.and_true, Bool.and_eq_true]); and_intros <;> exact freshB_mk (by first | rfl | simp [menT, menO, AO.men, AV.men, menL, fn_men ho1]) rfl (by first | rfl | simp [menT, menO, AO.men, AV.men, menL, fn_men ho1]) rfl)) rfl (by first | rfl | (exact freshB_mk (by first | rfl | simp [menT, menO, AO.men, AV.men, menL, fn_men ho1]) rfl (by first | rfl | simp [menT, menO, AO.men, AV.men, menL, fn_men ho1]) rfl) | (simp [menT, menO, AO.men, AV.men, menL, fn_men ho1]; done) | ((simp only [List.all_cons, List.all_nil, Bool.and_true, Bool.and_eq_true]); and_intros <;> exact freshB_mk (by first | rfl | simp [menT, menO, AO.men, AV.men, menL, fn_men ho1]) rfl (by first | rfl | simp [menT, menO, AO.men, AV.men, menL, fn_men ho1]) rfl)) rfl ?_
 refine RunD.done ?_
 refine Tri.seq ?_
 refine Tr ?_
 refine Qe 2 rfl ?_
 refine Q1 rfl rfl rfl (Ax.ln (cl := Sight.cl) rfl slc_27 rfl) ?_
 refine Qd rfl ?_
 obtain ⟨vo5_1, hj, h⟩ := bind_some h
 refine Tri.rngLv hj (fun p => ⟨[(1, .fn g1 caps1), (2, .ptr 2 0), (4, .ptr 4 0), (5, .hnd 5), (9, .lst 5 (a0.Sights.map Sight.cl)), (10, Ai (a0.Sights.length : Int)), (11, Ai p.1)], [(2, some (.box (Scene.cl a0))), (4, some (.box (Scene.cl (⟨(⟨([] : List Cell), ([] : List Arr2_3), 0, 0, 0⟩ : Basin), ([] : List Int), ([] : List Sight), ([] : List Change)⟩ : Scene)))), (5, some (.arr 64 5 (p.2.map Sight.cl)))]⟩) (fun (y : List Sight) => ⟨[(2, .ptr 2 0), (4, .ptr 4 0), (5, .hnd 5)], [(2, some (.box (Scene.cl a0))), (4, some (.box (Scene.cl (⟨(⟨([] : List Cell), ([] : List Arr2_3), 0, 0, 0⟩ : Basin), ([] : List Int), ([] : List Sight), ([] : List Change)⟩ : Scene)))), (5, some (.arr 64 5 (y.map Sight.cl)))]⟩) (Es [2, 4, 5] [1] rfl ⟨im_flat Sight_im ([] : List Sight), trivial⟩ ⟨.imm (Sub.refl _) ho1, trivial⟩) ?_ ?_ ?_
 ·first | change Tri _ _ _ _ ⟨[(2, .ptr 2 0), (4, .ptr 4 0), (5, .hnd 5)], [(2, some (.box (Scene.cl a0))), (4, some (.box (Scene.cl (⟨(⟨([] : List Cell), ([] : List Arr2_3), 0, 0, 0⟩ : Basin), ([] : List Int), ([] : List Sight), ([] : List Change)⟩ : Scene)))), (5, some (.arr 64 5 (vo5_1.map Sight.cl)))]⟩ _ | change RetQ _ _ _ _ _ _ ⟨[(2, .ptr 2 0), (4, .ptr 4 0), (5, .hnd 5)], [(2, some (.box (Scene.cl a0))), (4, some (.box (Scene.cl (⟨(⟨([] : List Cell), ([] : List Arr2_3), 0, 0, 0⟩ : Basin), ([] : List Int), ([] : List Sight), ([] : List Change)⟩ : Scene)))), (5, some (.arr 64 5 (vo5_1.map Sight.cl)))]⟩ | skip
  refine Tr ?_
  refine Qe 2 rfl ?_
  refine Qs rfl rfl (x := some (.box [.lst 4 (a0.Basin.Cells.map Cell.cl), .lst 2 (a0.Basin.Pairs.map Arr2_3.cl), Ai a0.Basin.Gain, Ai a0.Basin.Slack, Ai a0.Basin.Deep, .lst 1 (a0.Days.map icl), .hnd 5, .lst 5 (a0.Changes.map Change.cl)])) (Ax.st_box rfl siz_27 rfl rfl rfl rfl rfl rfl rfl) ?_
  refine RunD.done ?_
  refine Tr ?_
  refine Qe 1 rfl ?_
  refine Qs rfl rfl (x := some (.box [.lst 4 (a0.Basin.Cells.map Cell.cl), .lst 2 (a0.Basin.Pairs.map Arr2_3.cl), Ai a0.Basin.Gain, Ai a0.Basin.Slack, Ai a0.Basin.Deep, .lst 1 (a0.Days.map icl), .hnd 5, .lst 5 (a0.Changes.map Change.cl)])) (Ax.st_box rfl siz_30 rfl rfl rfl rfl rfl rfl rfl) ?_
  refine RunD.done ?_
  refine Tri.ret ?_
  refine RetQ.eq2 (fun r => .agg (Scene.cl r)) (fun r => []) (Option.some.inj h) ?_
  exact RetQ.mk (vs := [.agg [.lst 4 (a0.Basin.Cells.map Cell.cl), .lst 2 (a0.Basin.Pairs.map Arr2_3.cl), Ai a0.Basin.Gain, Ai a0.Basin.Slack, Ai a0.Basin.Deep, .lst 1 (a0.Days.map icl), .hnd 5, .lst 5 (a0.Changes.map Change.cl)]]) (.inr rfl) ⟨_, _, rfl, .cell_box rfl siz_30 rfl rfl rfl, rfl⟩ [5] [] rfl rfl trivial (.frz (.aggV ⟨(.imm rfl), (.imm rfl), (.imm rfl), (.imm rfl), (.imm rfl), (.imm rfl), (.hnd (List.Mem.head _) rfl (im_flat Sight_im vo5_1)), (.imm rfl), trivial⟩) rfl)
 ·rintro v11 vo5 hi h
  first | change Tri _ _ _ _ ⟨[(1, .fn g1 caps1), (2, .ptr 2 0), (4, .ptr 4 0), (5, .hnd 5), (9, .lst 5 (a0.Sights.map Sight.cl)), (10, Ai (a0.Sights.length : Int)), (11, Ai v11)], [(2, some (.box (Scene.cl a0))), (4, some (.box (Scene.cl (⟨(⟨([] : List Cell), ([] : List Arr2_3), 0, 0, 0⟩ : Basin), ([] : List Int), ([] : List Sight), ([] : List Change)⟩ : Scene)))), (5, some (.arr 64 5 (vo5.map Sight.cl)))]⟩ _ | change RetQ _ _ _ _ _ _ ⟨[(1, .fn g1 caps1), (2, .ptr 2 0), (4, .ptr 4 0), (5, .hnd 5), (9, .lst 5 (a0.Sights.map Sight.cl)), (10, Ai (a0.Sights.length : Int)), (11, Ai v11)], [(2, some (.box (Scene.cl a0))), (4, some (.box (Scene.cl (⟨(⟨([] : List Cell), ([] : List Arr2_3), 0, 0, 0⟩ : Basin), ([] : List Int), ([] : List Sight), ([] : List Change)⟩ : Scene)))), (5, some (.arr 64 5 (vo5.map Sight.cl)))]⟩ | skip
  refine Tp rfl ?_
  refine Tri.seq ?_
  refine Tri.cond (b := (decide (v11 < (a0.Sights.length : Int)))) rfl (fun hb => ?_) (fun hb => ?_)
  ·exact (lt_f hi hb).elim
  ·refine Tri.exit ?_
   exact Exists.intro vo5 (And.intro h (Ee [2, 4, 5] rfl ⟨imf Sight_im, trivial⟩))
 ·rintro nx x v11 vo5 _ hi hw hx h
  first | change Tri _ _ _ _ ⟨[(1, .fn g1 caps1), (2, .ptr 2 0), (4, .ptr 4 0), (5, .hnd 5), (9, .lst 5 (a0.Sights.map Sight.cl)), (10, Ai (a0.Sights.length : Int)), (11, Ai v11)], [(2, some (.box (Scene.cl a0))), (4, some (.box (Scene.cl (⟨(⟨([] : List Cell), ([] : List Arr2_3), 0, 0, 0⟩ : Basin), ([] : List Int), ([] : List Sight), ([] : List Change)⟩ : Scene)))), (5, some (.arr 64 5 (vo5.map Sight.cl)))]⟩ _ | change RetQ _ _ _ _ _ _ ⟨[(1, .fn g1 caps1), (2, .ptr 2 0), (4, .ptr 4 0), (5, .hnd 5), (9, .lst 5 (a0.Sights.map Sight.cl)), (10, Ai (a0.Sights.length : Int)), (11, Ai v11)], [(2, some (.box (Scene.cl a0))), (4, some (.box (Scene.cl (⟨(⟨([] : List Cell), ([] : List Arr2_3), 0, 0, 0⟩ : Basin), ([] : List Int), ([] : List Sight), ([] : List Change)⟩ : Scene)))), (5, some (.arr 64 5 (vo5.map Sight.cl)))]⟩ | skip
  refine Tp rfl ?_
  refine Tri.seq ?_
  refine Tri.cond (b := (decide (v11 < (a0.Sights.length : Int)))) rfl (fun hb_1 => ?_) (fun hb_1 => ?_)
  ·refine Tri.skip ?_
   refine Tri.seq ?_
   refine Tri.block ?_
   refine Tr ?_
   refine Q1 rfl rfl rfl (Ax.ix (cl := Sight.cl) rfl slc_27 rfl rfl hx) ?_
   refine Qe 1 rfl ?_
   refine Qn rfl rfl rfl (v := .ptr 7 0) (x := some (.box (Sight.cl (⟨0, 0, 0, 0, 0⟩ : Sight)))) (Ax.alloc rfl rfl zer_64 rfl ⟨Sub.refl _, Sub.refl _, Sub.refl _, Sub.refl _, Sub.refl _, trivial⟩) rfl (by first | rfl | (exact freshB_mk (by first | rfl | simp [menT, menO, AO.men, AV.men, menL, fn_men ho1]) rfl (by first | rfl | simp [menT, menO, AO.men, AV.men, menL, fn_men ho1]) rfl) | (simp [menT, menO, AO.men, AV.men, menL, fn_men ho1]; done) | ((simp only [List.all_cons, List.all_nil, Bool.and_true, Bool.and_eq_true]); and_intros <;> exact freshB_mk (by first | rfl | simp [menT, menO, AO.men, AV.men, menL, fn_men ho1]) rfl (by first | rfl | simp [menT, menO, AO.men, AV.men, menL, fn_men ho1]) rfl)) rfl (by first | rfl | (exact freshB_mk (by first | rfl | simp [menT, menO, AO.men, AV.men, menL, fn_men ho1]) rfl (by first | rfl | simp [menT, menO, AO.men, AV.men, menL, fn_men ho1]) rfl) | (simp [menT, menO, AO.men, AV.men, menL, fn_men ho1]; done) | ((simp only [List.all_cons, List.all_nil, Bool.and_true, Bool.and_eq_true]); and_intros <;> exact freshB_mk (by first | rfl | simp [menT, menO, AO.men, AV.men, menL, fn_men ho1]) rfl (by first | rfl | simp [menT, menO, AO.men, AV.men, menL, fn_men ho1]) rfl)) rfl ?_
   refine Qs rfl rfl (x := some (.box (Sight.cl x))) (Ax.st_box rfl siz_64 rfl rfl rfl rfl rfl rfl rfl) ?_
   refine RunD.done ?_
   refine Tr ?_
   refine Qe 3 rfl ?_
   obtain ⟨x18, hc, h⟩ := bind_some h
   refine Qc rfl rfl rfl (args := [Ai x.No] ++ caps1) (r := Ab x18) (calv rfl rfl hg1 rfl) (hp1 _ _ hc) rfl ?_
   refine RunD.done ?_
   obtain ⟨vo5_2, hj_1, h⟩ := bind_some h
   refine Tri.joinv vo5_2 (fun (y : List Sight) => ⟨[(1, .fn g1 caps1), (2, .ptr 2 0), (4, .ptr 4 0), (5, .hnd 22), (9, .lst 5 (a0.Sights.map Sight.cl)), (10, Ai (a0.Sights.length : Int)), (11, Ai v11)], [(2, some (.box (Scene.cl a0))), (4, some (.box (Scene.cl (⟨(⟨([] : List Cell), ([] : List Arr2_3), 0, 0, 0⟩ : Basin), ([] : List Int), ([] : List Sight), ([] : List Change)⟩ : Scene)))), (22, some (.arr 64 5 (y.map Sight.cl)))]⟩) ?_ ?_
   ·first | change Tri _ _ _ _ ⟨[(1, .fn g1 caps1), (2, .ptr 2 0), (4, .ptr 4 0), (5, .hnd 22), (9, .lst 5 (a0.Sights.map Sight.cl)), (10, Ai (a0.Sights.length : Int)), (11, Ai v11)], [(2, some (.box (Scene.cl a0))), (4, some (.box (Scene.cl (⟨(⟨([] : List Cell), ([] : List Arr2_3), 0, 0, 0⟩ : Basin), ([] : List Int), ([] : List Sight), ([] : List Change)⟩ : Scene)))), (22, some (.arr 64 5 (vo5_2.map Sight.cl)))]⟩ _ | change RetQ _ _ _ _ _ _ ⟨[(1, .fn g1 caps1), (2, .ptr 2 0), (4, .ptr 4 0), (5, .hnd 22), (9, .lst 5 (a0.Sights.map Sight.cl)), (10, Ai (a0.Sights.length : Int)), (11, Ai v11)], [(2, some (.box (Scene.cl a0))), (4, some (.box (Scene.cl (⟨(⟨([] : List Cell), ([] : List Arr2_3), 0, 0, 0⟩ : Basin), ([] : List Int), ([] : List Sight), ([] : List Change)⟩ : Scene)))), (22, some (.arr 64 5 (vo5_2.map Sight.cl)))]⟩ | skip
    refine Tq rfl ?_
    exact Exists.intro (v11 + 1, vo5_2) (And.intro (And.intro rfl h) (Es [2, 4, 22] [1, 11] rfl ⟨imf Sight_im, trivial⟩ ⟨.imm (Sub.refl _) ho1, .imm (Sub.of_eq (show Ai (v11 + 1) = Ai (W (v11 + 1)) from congrArg Ai hw.symm)) rfl, trivial⟩))
   ·have h := hj_1
    refine Tri.cond (b := x18) rfl (fun hb_2 => ?_) (fun hb_2 => ?_)
    ·have h := cond_t hb_2 h
     refine Tri.region ?_
     refine Qe 2 rfl ?_
     refine Q1 rfl rfl rfl (v := .lst 5 (([x] : List Sight).map Sight.cl)) (Ax.sl (xs := ([x] : List Sight)) rfl slc_27 rfl rfl ⟨Sub.refl _, Sub.refl _, Sub.refl _, Sub.refl _, Sub.refl _, trivial⟩ rfl Sight_len Sight_one Sight_im) ?_
     obtain ⟨z22, hz, h⟩ := bind_some h
     refine Qa rfl rfl rfl (v := .hnd 22) (x := some (.arr 64 5 (z22.map Sight.cl))) (Ax.app_l (cl := Sight.cl) rfl rfl slc_27 rfl rfl rfl Sight_one Sight_im hz rfl rfl) rfl (by first | rfl | (exact freshB_mk (by first | rfl | simp [menT, menO, AO.men, AV.men, menL, fn_men ho1]) rfl (by first | rfl | simp [menT, menO, AO.men, AV.men, menL, fn_men ho1]) rfl) | (simp [menT, menO, AO.men, AV.men, menL, fn_men ho1]; done) | ((simp only [List.all_cons, List.all_nil, Bool.and_true, Bool.and_eq_true]); and_intros <;> exact freshB_mk (by first | rfl | simp [menT, menO, AO.men, AV.men, menL, fn_men ho1]) rfl (by first | rfl | simp [menT, menO, AO.men, AV.men, menL, fn_men ho1]) rfl)) rfl (by first | rfl | (exact freshB_mk (by first | rfl | simp [menT, menO, AO.men, AV.men, menL, fn_men ho1]) rfl (by first | rfl | simp [menT, menO, AO.men, AV.men, menL, fn_men ho1]) rfl) | (simp [menT, menO, AO.men, AV.men, menL, fn_men ho1]; done) | ((simp only [List.all_cons, List.all_nil, Bool.and_true, Bool.and_eq_true]); and_intros <;> exact freshB_mk (by first | rfl | simp [menT, menO, AO.men, AV.men, menL, fn_men ho1]) rfl (by first | rfl | simp [menT, menO, AO.men, AV.men, menL, fn_men ho1]) rfl)) rfl ?_
     refine Qd rfl ?_
     exact Exists.intro z22 (And.intro h (Es [2, 4, 22] [1] rfl ⟨imf Sight_im, trivial⟩ ⟨.imm (Sub.refl _) ho1, trivial⟩))
    ·have h := cond_f hb_2 h
     refine Tri.skip ?_
     exact Exists.intro vo5 (And.intro h (Es [2, 4, 5] [1] rfl ⟨imf Sight_im, trivial⟩ ⟨.imm (Sub.refl _) ho1, trivial⟩))
  ·exact (lt_t hi hb_1).elim
theorem f139_ok {K : Nat} {a0 : List Int} {a1 : Int} {r : (Int × List Int)} (h : f139 K a0 a1 = some r) : CallOK Tryz.prog 139 [.lst 1 (a0.map icl), Ai a1] [] (.fn 255 [.ipt (icl r.1) 0, .ipt (cl26 r.2) 0]) [] := by
 refine CallOK.of_tri Tryz.func139 rfl rfl (Nat.le_of_ble_eq_true rfl) ?_
 unfold f139 at h
 refine Tp rfl ?_
 refine Tr ?_
 refine Q1 rfl rfl rfl (v := .fn 255 [.ipt (icl a1) 0, .ipt (cl26 a0) 0]) (Ax.func rfl rfl) ?_
 refine Qd rfl ?_
 refine Tri.ret ?_
 refine Rr (fun r => .fn 255 [.ipt (icl r.1) 0, .ipt (cl26 r.2) 0]) (fun r => []) [] h ?_ trivial
 rfl
theorem f255_ok {K : Nat} {a0 : Int} {a1 : Int} {a2 : List Int} {r : Bool} (h : f255 K a0 a1 a2 = some r) : CallOK Tryz.prog 255 [Ai a0, .ipt (icl a1) 0, .ipt (cl26 a2) 0] [] (Ab r) [] := by
 refine CallOK.of_tri Tryz.func255 rfl rfl (Nat.le_of_ble_eq_true rfl) ?_
 unfold f255 at h
 refine Tp rfl ?_
 refine Tri.seq ?_
 obtain ⟨v4, hj, h⟩ := bind_some h
 refine Tri.joinv v4 (fun (y : Bool) => ⟨[(4, Ab y)], []⟩) ?_ ?_
 ·refine Tri.ret ?_
  exact Rb h rfl
 ·have h := hj
  refine Tri.region ?_
  refine Qe 4 rfl ?_
  rcases b2 (a0 != a1) with hb | hb
  ·have h := cond_t hb h
   refine Qk 8 hb rfl ?_
   refine Qe 2 rfl ?_
   obtain ⟨x11, hc, h⟩ := bind_some h
   refine Qc rfl rfl rfl (args := [.lst 1 (a2.map icl), Ai a0]) (r := Ab x11) (calv rfl rfl fnok_83 rfl) (f83_ok hc) rfl ?_
   refine Qd rfl ?_
   exact Exists.intro x11 (And.intro h (E0 rfl))
  ·have h := cond_f hb h
   refine Qk 8 hb rfl ?_
   refine Qd rfl ?_
   exact Exists.intro false (And.intro h (E0 rfl))
theorem f136_ok {K : Nat} {a0 : List Int} {a1 : Scene} {r : Bool} (h : f136 K a0 a1 = some r) : CallOK Tryz.prog 136 [.lst 1 (a0.map icl), .ipt (Scene.cl a1) 0] [] (Ab r) [] := by
 refine CallOK.of_tri Tryz.func136 rfl rfl (Nat.le_of_ble_eq_true rfl) ?_
 unfold f136 at h
 refine Tp rfl ?_
 refine Tri.seq ?_
 refine Tri.drawn [[], [], [1], [0, 1, 2], [0, 1, 2, 3], [0, 1, 2, 3, 4], [0, 1, 2, 3, 4, 5]] hmix (by kernel_rfl) ?_
 refine Qe 2 rfl ?_
 obtain ⟨x6, hc, h⟩ := bind_some h
 refine Qc rfl rfl rfl (args := [.lst 1 (a0.map icl), Ai (-1)]) (r := .fn 255 [.ipt (icl x6.1) 0, .ipt (cl26 x6.2) 0]) (calv rfl rfl fnok_139 rfl) (f139_ok hc) rfl ?_
 obtain ⟨x7, hc_1, h⟩ := bind_some h
 refine Qc rfl rfl rfl (args := [.agg (Scene.cl a1), .fn 255 [.ipt (icl x6.1) 0, .ipt (cl26 x6.2) 0]]) (r := .agg (Scene.cl x7)) (calv rfl rfl fnok_138 rfl) (f138_ok fnok_255 rfl (fun _ _ hr => f255_ok hr) hc_1) rfl ?_
 obtain ⟨x8, hc_2, h⟩ := bind_some h
 refine Qc rfl rfl rfl (args := [.agg (Scene.cl x7)]) (r := Ab x8) (calv rfl rfl fnok_137 rfl) (f137_ok hc_2) rfl ?_
 refine Qe 2 rfl ?_
 refine RunD.done ⟨by kernel_rfl, freshL_of [] (by kernel_rfl) (by kernel_rfl), ?_⟩
 refine Tri.ret ?_
 exact Rb h rfl
theorem f54_ok {K : Nat} {a0 : Scene} {r : List Int × Bool × Int} (h : f54 K a0 = some r) : CallOK Tryz.prog 54 [.agg (Scene.cl a0)] [] (.tup [.lst 1 (r.1.map icl), Ab r.2.1, Ai r.2.2]) [] := by
 refine CallOK.of_tri Tryz.func54 rfl rfl (Nat.le_of_ble_eq_true rfl) ?_
 unfold f54 at h
 refine Tr ?_
 refine Qe 1 rfl ?_
 refine Q1 rfl rfl rfl (v := .lst 1 (([] : List Int).map icl)) (Ax.nl 1 rfl rfl) ?_
 refine Qd rfl ?_
 refine Tri.seq ?_
 refine Tr ?_
 refine Qe 1 rfl ?_
 obtain ⟨x15, hc, h⟩ := bind_some h
 refine Qc rfl rfl rfl (args := [.agg (Scene.cl a0)]) (r := Ai x15) (calv rfl rfl fnok_66 rfl) (f66_ok hc) rfl ?_
 refine Qd rfl ?_
 refine Tp rfl ?_
 refine Tri.cond (b := (x15 != 0)) rfl (fun hb => ?_) (fun hb => ?_)
 ·have h := cond_t hb h
  refine Tr ?_
  refine Qe 1 rfl ?_
  refine Q1 rfl rfl rfl (v := .lst 1 (([] : List Int).map icl)) (Ax.nl 1 rfl rfl) ?_
  refine Qd rfl ?_
  refine Tri.ret ?_
  refine Rr (fun r => .tup [.lst 1 (r.1.map icl), Ab r.2.1, Ai r.2.2]) (fun r => []) [] h ?_ trivial
  rfl
 ·have h := cond_f hb h
  refine Tri.skip ?_
  refine Tr ?_
  refine Qe 1 rfl ?_
  obtain ⟨x20, hc_1, h⟩ := bind_some h
  refine Qc rfl rfl rfl (args := [.agg (Scene.cl a0)]) (r := .ipt (Laid_basin.cl x20) 0) (calv rfl rfl fnok_102 rfl) (f102_ok hc_1) rfl ?_
  refine Qd rfl ?_
  refine Tr ?_
  refine Qe 1 rfl ?_
  refine Q1 rfl rfl rfl (Ax.nil_ipt rfl rfl) ?_
  refine Qe 2 rfl ?_
  obtain ⟨⟨x26_0, x26_1, x26_2⟩, hc_2, h⟩ := bind_some h
  refine Qc rfl rfl rfl (args := [.agg (Net.cl x20.net)]) (r := .tup [.lst 1 (x26_0.map icl), Ab x26_1, Ai x26_2]) (calv rfl rfl fnok_132 rfl) (f132_ok hc_2) rfl ?_
  refine Qd rfl ?_
  refine Tri.seq ?_
  refine Tri.seq ?_
  refine Tri.join1 ⟨[(1, .ipt (Scene.cl a0) 0), (6, .ipt (Laid_basin.cl x20) 0), (7, .lst 1 (x26_0.map icl)), (9, Ai x26_2), (35, Ab ((x26_2 != 0) || (!x26_1)))], []⟩ ?_ ?_
  ·refine Tri.cond (b := ((x26_2 != 0) || (!x26_1))) rfl (fun hb_1 => ?_) (fun hb_1 => ?_)
   ·have h := cond_t hb_1 h
    refine Tr ?_
    refine Qe 1 rfl ?_
    refine Q1 rfl rfl rfl (v := .lst 1 (([] : List Int).map icl)) (Ax.nl 1 rfl rfl) ?_
    refine Qd rfl ?_
    refine Tri.ret ?_
    refine Rr (fun r => .tup [.lst 1 (r.1.map icl), Ab r.2.1, Ai r.2.2]) (fun r => []) [] h ?_ trivial
    rfl
   ·have h := cond_f hb_1 h
    refine Tri.skip ?_
    refine Tr ?_
    refine Qn rfl rfl rfl (v := .hnd 10) (x := some (.arr 3 1 (([] : List Int).map icl))) (Ax.nil_new 3 1 (.inr rfl) rfl) rfl rfl rfl rfl rfl ?_
    refine RunD.done ?_
    refine Tri.seq ?_
    refine Tr ?_
    refine Qe 1 rfl ?_
    refine Q1 rfl rfl rfl (Ax.ln (cl := icl) rfl slc_26 rfl) ?_
    refine Qd rfl ?_
    obtain ⟨vo10_1, hj, h⟩ := bind_some h
    refine Tri.rngLv hj (fun p => ⟨[(1, .ipt (Scene.cl a0) 0), (6, .ipt (Laid_basin.cl x20) 0), (10, .hnd 10), (37, .lst 1 (x26_0.map icl)), (38, Ai (x26_0.length : Int)), (39, Ai p.1)], [(10, some (.arr 3 1 (p.2.map icl)))]⟩) (fun (y : List Int) => ⟨[(1, .ipt (Scene.cl a0) 0), (10, .hnd 10)], [(10, some (.arr 3 1 (y.map icl)))]⟩) (Ee [10] rfl ⟨im_flat icl_im ([] : List Int), trivial⟩) ?_ ?_ ?_
    ·refine Tri.seq ?_
     refine Tri.ent (Ent.norm [] [(20260000, 10, .arr 3 1 (vo10_1.map icl))] [(1, .ipt (Scene.cl a0) 0), (10, .hnd 20260000)] rfl ⟨⟨_, rfl, .arr (im_flat icl_im vo10_1)⟩, trivial⟩ ⟨.rfl' rfl, .hnd (List.Mem.head _), trivial⟩) ?_
     refine Tri.region ?_
     refine Qe 1 rfl ?_
     obtain ⟨x65, hc_3, h⟩ := bind_some h
     refine Qo [(20260000, .arr 3 1 (vo10_1.map icl))] [(20260000, .arr 3 1 (x65.map icl))] [] rfl rfl rfl (args := [.hnd 20260000]) (r := .tup []) (calv rfl rfl fnok_133 rfl) (f133_ok hc_3) ⟨rfl, trivial⟩ rfl rfl rfl rfl rfl ?_
     refine RunD.done ?_
     refine Tr ?_
     refine Qe 1 rfl ?_
     obtain ⟨x67, hc_4, h⟩ := bind_some h
     refine Qo [(20260000, .arr 3 1 (x65.map icl))] [(1355000, .arr 3 1 (x67.map icl))] [1355000] rfl rfl rfl (args := [.hnd 20260000]) (r := .hnd 1355000) (calv rfl rfl fnok_134 rfl) (f134_fr hc_4) ⟨rfl, trivial⟩ rfl rfl rfl rfl rfl ?_
     refine Qd rfl ?_
     refine Tri.seq ?_
     refine Tri.ent (Ent.norm [1355000] [] [(1, .ipt (Scene.cl a0) 0), (10, .lst 1 (x67.map icl))] rfl trivial ⟨.rfl' rfl, .frz (.hnd (List.Mem.head _) rfl (im_flat icl_im x67)) rfl, trivial⟩) ?_
     refine Tri.region ?_
     refine Qe 1 rfl ?_
     refine Q1 rfl rfl rfl (v := .fn 136 [.ipt (Scene.cl a0) 0]) (Ax.func rfl rfl) ?_
     obtain ⟨x70, hc_5, h⟩ := bind_some h
     refine Qc rfl rfl rfl (args := [.lst 1 (x67.map icl), .fn 136 [.ipt (Scene.cl a0) 0]]) (r := .lst 1 (x70.map icl)) (calv rfl rfl fnok_135 rfl) (f135_ok fnok_136 rfl (fun _ _ hr => f136_ok hr) hc_5) rfl ?_
     refine Qd rfl ?_
     refine Tri.ret ?_
     refine Rr (fun r => .tup [.lst 1 (r.1.map icl), Ab r.2.1, Ai r.2.2]) (fun r => []) [] h ?_ trivial
     rfl
    ·rintro v39 vo10 hi h
     refine Tp rfl ?_
     refine Tri.seq ?_
     refine Tri.cond (b := (decide (v39 < (x26_0.length : Int)))) rfl (fun hb_2 => ?_) (fun hb_2 => ?_)
     ·exact (lt_f hi hb_2).elim
     ·refine Tri.exit ?_
      exact Exists.intro vo10 (And.intro h (Ee [10] rfl ⟨imf icl_im, trivial⟩))
    ·rintro nx x v39 vo10 _ hi hw hx h
     refine Tp rfl ?_
     refine Tri.seq ?_
     refine Tri.cond (b := (decide (v39 < (x26_0.length : Int)))) rfl (fun hb_3 => ?_) (fun hb_3 => ?_)
     ·refine Tri.skip ?_
      refine Tri.seq ?_
      refine Tri.block ?_
      refine Tr ?_
      refine Q1 rfl rfl rfl (Ax.ix (cl := icl) rfl slc_26 rfl rfl hx) ?_
      refine Qd rfl ?_
      refine Tr ?_
      refine Qe 1 rfl ?_
      refine Q1 rfl rfl rfl (Ax.nil_ipt rfl rfl) ?_
      refine Qe 3 rfl ?_
      obtain ⟨y, hy, h⟩ := bind_some h
      refine Q1 rfl rfl rfl (Ax.ix (cl := Reason.cl) rfl slc_35 rfl rfl hy) ?_
      refine Qe 1 rfl ?_
      refine Qn rfl rfl rfl (v := .ptr 13 0) (x := some (.box (Reason.cl (⟨0, 0, 0, false⟩ : Reason)))) (Ax.alloc rfl rfl zer_42 rfl ⟨Sub.refl _, Sub.refl _, Sub.refl _, Sub.refl _, trivial⟩) rfl rfl rfl rfl rfl ?_
      refine Qs rfl rfl (x := some (.box (Reason.cl y))) (Ax.st_box rfl siz_42 rfl rfl rfl rfl rfl rfl rfl) ?_
      refine RunD.done ?_
      refine Tp rfl ?_
      obtain ⟨vo10_2, hj_1, h⟩ := bind_some h
      refine Tri.joinv vo10_2 (fun (y : List Int) => ⟨[(1, .ipt (Scene.cl a0) 0), (6, .ipt (Laid_basin.cl x20) 0), (10, .hnd 62), (37, .lst 1 (x26_0.map icl)), (38, Ai (x26_0.length : Int)), (39, Ai v39)], [(62, some (.arr 3 1 (y.map icl)))]⟩) ?_ ?_
      ·refine Tq rfl ?_
       exact Exists.intro (v39 + 1, vo10_2) (And.intro (And.intro rfl h) (Es [62] [39] rfl ⟨imf icl_im, trivial⟩ ⟨.imm (Sub.of_eq (show Ai (v39 + 1) = Ai (W (v39 + 1)) from congrArg Ai hw.symm)) rfl, trivial⟩))
      ·have h := hj_1
       refine Tri.cond (b := (y.Kind == 5)) rfl (fun hb_4 => ?_) (fun hb_4 => ?_)
       ·have h := cond_t hb_4 h
        refine Tri.region ?_
        refine Qe 5 rfl ?_
        obtain ⟨y_1, hy_1, h⟩ := bind_some h
        refine Q1 rfl rfl rfl (Ax.ix (cl := Sight.cl) rfl slc_27 rfl rfl hy_1) ?_
        refine Qe 2 rfl ?_
        refine Q1 rfl rfl rfl (v := .lst 1 (([y_1.No] : List Int).map icl)) (Ax.sl (xs := ([y_1.No] : List Int)) rfl slc_26 rfl rfl ⟨Sub.refl _, trivial⟩ rfl icl_len icl_one icl_im) ?_
        obtain ⟨z62, hz, h⟩ := bind_some h
        refine Qa rfl rfl rfl (v := .hnd 62) (x := some (.arr 3 1 (z62.map icl))) (Ax.app_l (cl := icl) rfl rfl slc_26 rfl rfl rfl icl_one icl_im hz rfl rfl) rfl rfl rfl rfl rfl ?_
        refine Qd rfl ?_
        exact Exists.intro z62 (And.intro h (Ee [62] rfl ⟨imf icl_im, trivial⟩))
       ·have h := cond_f hb_4 h
        refine Tri.skip ?_
        exact Exists.intro vo10 (And.intro h (Ee [10] rfl ⟨imf icl_im, trivial⟩))
     ·exact (lt_t hi hb_3).elim
  ·refine Tri.region ?_
   refine Qe 3 rfl ?_
   rcases b2 (x26_2 != 0) with hb_5 | hb_5
   ·refine Qk 32 hb_5 rfl ?_
    refine Qd rfl ?_
    exact (Es0 [35] rfl ⟨.imm (Sub.of_eq (show Ab ((x26_2 != 0) || (!x26_1)) = Ab true by simp only [cond_true, cond_false, Bool.true_or, Bool.false_or, Bool.true_and, Bool.false_and, Bool.or_true, Bool.or_false, Bool.and_true, Bool.and_false, hb, hb_5])) rfl, trivial⟩)
   ·refine Qk 32 hb_5 rfl ?_
    refine Qd rfl ?_
    exact (Es0 [35] rfl ⟨.imm (Sub.of_eq (show Ab ((x26_2 != 0) || (!x26_1)) = Ab (!x26_1) by simp only [cond_true, cond_false, Bool.true_or, Bool.false_or, Bool.true_and, Bool.false_and, Bool.or_true, Bool.or_false, Bool.and_true, Bool.and_false, hb, hb_5])) rfl, trivial⟩)
theorem f55_ok {K : Nat} {a0 : Basin} {a1 : Int} {r : Int × Bool × Int} (h : f55 K a0 a1 = some r) : CallOK Tryz.prog 55 [.agg (Basin.cl a0), Ai a1] [] (.tup [Ai r.1, Ab r.2.1, Ai r.2.2]) [] := by
 refine CallOK.of_tri Tryz.func55 rfl rfl (Nat.le_of_ble_eq_true rfl) ?_
 unfold f55 at h
 refine Tp rfl ?_
 refine Tri.seq ?_
 refine Tr ?_
 refine Qe 1 rfl ?_
 obtain ⟨x10, hc, h⟩ := bind_some h
 refine Qc rfl rfl rfl (args := [.agg (Basin.cl a0)]) (r := Ai x10) (calv rfl rfl fnok_74 rfl) (f74_ok hc) rfl ?_
 refine Qd rfl ?_
 refine Tp rfl ?_
 refine Tri.cond (b := (x10 != 0)) rfl (fun hb => ?_) (fun hb => ?_)
 ·have h := cond_t hb h
  refine Tp rfl ?_
  refine Tri.ret ?_
  refine Rr (fun r => .tup [Ai r.1, Ab r.2.1, Ai r.2.2]) (fun r => []) [] h ?_ trivial
  rfl
 ·have h := cond_f hb h
  refine Tri.skip ?_
  refine Tri.seq ?_
  refine Tr ?_
  refine Qe 3 rfl ?_
  refine Q1 rfl rfl rfl (Ax.ln (cl := Arr2_3.cl) rfl slc_23 rfl) ?_
  refine Qe 1 rfl ?_
  obtain ⟨x19, hc_1, h⟩ := bind_some h
  refine Qc rfl rfl rfl (args := [Ai a1, Ai 0, Ai (W ((a0.Pairs.length : Int) - 1))]) (r := Ab x19) (calv rfl rfl fnok_140 rfl) (f140_ok hc_1) rfl ?_
  refine Qd rfl ?_
  refine Tri.cond (b := (!x19)) rfl (fun hb_1 => ?_) (fun hb_1 => ?_)
  ·have h := cond_t hb_1 h
   refine Tp rfl ?_
   refine Tri.ret ?_
   refine Rr (fun r => .tup [Ai r.1, Ab r.2.1, Ai r.2.2]) (fun r => []) [] h ?_ trivial
   rfl
  ·have h := cond_f hb_1 h
   refine Tri.skip ?_
   refine Tr ?_
   refine Qe 3 rfl ?_
   obtain ⟨y, hy, h⟩ := bind_some h
   refine Q1 rfl rfl rfl (Ax.ix (cl := Arr2_3.cl) rfl slc_23 rfl rfl hy) ?_
   refine Qe 1 rfl ?_
   refine Qn rfl rfl rfl (v := .ptr 8 0) (x := some (.box (Arr2_3.cl (⟨0, 0⟩ : Arr2_3)))) (Ax.alloc rfl rfl zer_97 rfl ⟨Sub.refl _, Sub.refl _, trivial⟩) rfl rfl rfl rfl rfl ?_
   refine Qs rfl rfl (x := some (.box (Arr2_3.cl y))) (Ax.st_box rfl siz_97 rfl rfl rfl rfl rfl rfl rfl) ?_
   refine RunD.done ?_
   refine Tri.seq ?_
   refine Tri.seq ?_
   refine Tri.drawn [[], [0], [], [2], [0, 1, 2, 3], [0, 1, 2, 3, 4], [], [6], [], [8], [6, 7, 8, 9], [6, 7, 8, 9, 10], [0, 1, 2, 3, 4, 5, 6, 7, 8, 9, 10, 11], [0, 1, 2, 3, 4, 5, 6, 7, 8, 9, 10, 11, 12]] hmix (by kernel_rfl) ?_
   refine Qe 2 rfl ?_
   refine Q1 rfl rfl rfl (Ax.index_ptr (k := .i64) (n := 0) rfl arr_97 rfl rfl rfl (by decide) (by decide)) ?_
   refine Qe 1 rfl ?_
   obtain ⟨y_1, hy_1, h⟩ := bind_some h
   refine Q1 rfl rfl rfl (Ax.ix (cl := Cell.cl) rfl slc_22 rfl rfl hy_1) ?_
   refine Qe 3 rfl ?_
   refine Q1 rfl rfl rfl (Ax.index_ptr (k := .i64) (n := 1) rfl arr_97 rfl rfl rfl (by decide) (by decide)) ?_
   refine Qe 1 rfl ?_
   obtain ⟨y_2, hy_2, h⟩ := bind_some h
   refine Q1 rfl rfl rfl (Ax.ix (cl := Cell.cl) rfl slc_22 rfl rfl hy_2) ?_
   refine Qe 1 rfl ?_
   obtain ⟨x38, hc_2, h⟩ := bind_some h
   refine Qc rfl rfl rfl (args := [.agg (Cell.cl y_1), .agg (Cell.cl y_2)]) (r := Ab x38) (calv rfl rfl fnok_141 rfl) (f141_ok hc_2) rfl ?_
   refine Qe 1 rfl ?_
   refine RunD.done ⟨by kernel_rfl, freshL_of [] (by kernel_rfl) (by kernel_rfl), ?_⟩
   refine Tri.cond (b := (!x38)) rfl (fun hb_2 => ?_) (fun hb_2 => ?_)
   ·have h := cond_t hb_2 h
    refine Tp rfl ?_
    refine Tri.ret ?_
    refine Rr (fun r => .tup [Ai r.1, Ab r.2.1, Ai r.2.2]) (fun r => []) [] h ?_ trivial
    rfl
   ·have h := cond_f hb_2 h
    refine Tri.skip ?_
    refine Tr ?_
    refine Qe 2 rfl ?_
    obtain ⟨x42, hc_3, h⟩ := bind_some h
    refine Qc rfl rfl rfl (args := [.agg (Basin.cl a0), .agg (Arr2_3.cl y)]) (r := Ai x42) (calv rfl rfl fnok_142 rfl) (f142_ok hc_3) rfl ?_
    refine Qd rfl ?_
    refine Tri.ret ?_
    refine Rr (fun r => .tup [Ai r.1, Ab r.2.1, Ai r.2.2]) (fun r => []) [] h ?_ trivial
    rfl
theorem f189_ok {K : Nat} {a0 : Scene} {r : List Int} (h : f189 K a0 = some r) : CallOK Tryz.prog 189 [.agg (Scene.cl a0)] [] (.lst 1 (r.map icl)) [] := by
 refine CallOK.of_tri Tryz.func189 rfl rfl (Nat.le_of_ble_eq_true rfl) ?_
 unfold f189 at h
 refine Tr ?_
 refine Qe 1 rfl ?_
 refine Qn rfl rfl rfl (v := .hnd 2) (x := some (.arr 3 1 (([] : List Int).map icl))) (Ax.nil_new 3 1 (.inr rfl) rfl) rfl rfl rfl rfl rfl ?_
 refine RunD.done ?_
 refine Tri.seq ?_
 refine Tr ?_
 refine Qe 2 rfl ?_
 refine Q1 rfl rfl rfl (Ax.ln (cl := Sight.cl) rfl slc_27 rfl) ?_
 refine Qd rfl ?_
 obtain ⟨vo2_1, hj, h⟩ := bind_some h
 refine Tri.rngLv hj (fun p => ⟨[(2, .hnd 2), (6, .lst 5 (a0.Sights.map Sight.cl)), (7, Ai (a0.Sights.length : Int)), (8, Ai p.1)], [(2, some (.arr 3 1 (p.2.map icl)))]⟩) (fun (y : List Int) => ⟨[(2, .hnd 2)], [(2, some (.arr 3 1 (y.map icl)))]⟩) (Ee [2] rfl ⟨im_flat icl_im ([] : List Int), trivial⟩) ?_ ?_ ?_
 ·refine Tri.seq ?_
  refine Tri.ent (Ent.norm [] [(20260000, 2, .arr 3 1 (vo2_1.map icl))] [(2, .hnd 20260000)] rfl ⟨⟨_, rfl, .arr (im_flat icl_im vo2_1)⟩, trivial⟩ ⟨.hnd (List.Mem.head _), trivial⟩) ?_
  refine Tri.region ?_
  refine Qe 1 rfl ?_
  obtain ⟨x19, hc, h⟩ := bind_some h
  refine Qo [(20260000, .arr 3 1 (vo2_1.map icl))] [(20260000, .arr 3 1 (x19.map icl))] [] rfl rfl rfl (args := [.hnd 20260000]) (r := .tup []) (calv rfl rfl fnok_133 rfl) (f133_ok hc) ⟨rfl, trivial⟩ rfl rfl rfl rfl rfl ?_
  refine RunD.done ?_
  refine Tr ?_
  refine Qe 1 rfl ?_
  obtain ⟨x21, hc_1, h⟩ := bind_some h
  refine Qo [(20260000, .arr 3 1 (x19.map icl))] [(1355000, .arr 3 1 (x21.map icl))] [1355000] rfl rfl rfl (args := [.hnd 20260000]) (r := .hnd 1355000) (calv rfl rfl fnok_134 rfl) (f134_fr hc_1) ⟨rfl, trivial⟩ rfl rfl rfl rfl rfl ?_
  refine Qd rfl ?_
  refine Tri.ret ?_
  refine RetQ.eq2 (fun r => .lst 1 (r.map icl)) (fun r => []) (Option.some.inj h) ?_
  exact RetQ.mk (vs := [.hnd 1355000]) (.inr rfl) ⟨_, _, rfl, .tmp rfl, rfl⟩ [1355000] [] rfl rfl trivial (.frz (.hnd (List.Mem.head _) rfl (im_flat icl_im x21)) rfl)
 ·rintro v8 vo2 hi h
  refine Tp rfl ?_
  refine Tri.seq ?_
  refine Tri.cond (b := (decide (v8 < (a0.Sights.length : Int)))) rfl (fun hb => ?_) (fun hb => ?_)
  ·exact (lt_f hi hb).elim
  ·refine Tri.exit ?_
   exact Exists.intro vo2 (And.intro h (Ee [2] rfl ⟨imf icl_im, trivial⟩))
 ·rintro nx x v8 vo2 _ hi hw hx h
  refine Tp rfl ?_
  refine Tri.seq ?_
  refine Tri.cond (b := (decide (v8 < (a0.Sights.length : Int)))) rfl (fun hb_1 => ?_) (fun hb_1 => ?_)
  ·refine Tri.skip ?_
   refine Tri.seq ?_
   refine Tri.block ?_
   refine Tr ?_
   refine Q1 rfl rfl rfl (Ax.ix (cl := Sight.cl) rfl slc_27 rfl rfl hx) ?_
   refine Qe 1 rfl ?_
   refine Qn rfl rfl rfl (v := .ptr 4 0) (x := some (.box (Sight.cl (⟨0, 0, 0, 0, 0⟩ : Sight)))) (Ax.alloc rfl rfl zer_64 rfl ⟨Sub.refl _, Sub.refl _, Sub.refl _, Sub.refl _, Sub.refl _, trivial⟩) rfl rfl rfl rfl rfl ?_
   refine Qs rfl rfl (x := some (.box (Sight.cl x))) (Ax.st_box rfl siz_64 rfl rfl rfl rfl rfl rfl rfl) ?_
   refine RunD.done ?_
   refine Tri.region ?_
   refine Qe 3 rfl ?_
   refine Q1 rfl rfl rfl (v := .lst 1 (([x.No] : List Int).map icl)) (Ax.sl (xs := ([x.No] : List Int)) rfl slc_26 rfl rfl ⟨Sub.refl _, trivial⟩ rfl icl_len icl_one icl_im) ?_
   obtain ⟨z16, hz, h⟩ := bind_some h
   refine Qa rfl rfl rfl (v := .hnd 16) (x := some (.arr 3 1 (z16.map icl))) (Ax.app_l (cl := icl) rfl rfl slc_26 rfl rfl rfl icl_one icl_im hz rfl rfl) rfl rfl rfl rfl rfl ?_
   refine Qd rfl ?_
   refine Tq rfl ?_
   exact Exists.intro (v8 + 1, z16) (And.intro (And.intro rfl h) (Es [16] [8] rfl ⟨imf icl_im, trivial⟩ ⟨.imm (Sub.of_eq (show Ai (v8 + 1) = Ai (W (v8 + 1)) from congrArg Ai hw.symm)) rfl, trivial⟩))
  ·exact (lt_t hi hb_1).elim
theorem f191_ok {K : Nat} {a0 : List Span} {a1 : List Span} {r : Bool} (h : f191 K a0 a1 = some r) : CallOK Tryz.prog 191 [.lst 2 (a0.map Span.cl), .lst 2 (a1.map Span.cl)] [] (Ab r) [] := by
 refine CallOK.of_tri Tryz.func191 rfl rfl (Nat.le_of_ble_eq_true rfl) ?_
 unfold f191 at h
 refine Tp rfl ?_
 refine Tri.seq ?_
 refine Tr ?_
 refine Qe 1 rfl ?_
 refine Q1 rfl rfl rfl (Ax.ln (cl := Span.cl) rfl slc_183 rfl) ?_
 refine Qe 1 rfl ?_
 refine Q1 rfl rfl rfl (Ax.ln (cl := Span.cl) rfl slc_183 rfl) ?_
 refine Qd rfl ?_
 refine Tri.cond (b := ((a0.length : Int) != (a1.length : Int))) rfl (fun hb => ?_) (fun hb => ?_)
 ·have h := cond_t hb h
  refine Tp rfl ?_
  refine Tri.ret ?_
  exact Rb h rfl
 ·have h := cond_f hb h
  refine Tri.skip ?_
  refine Tri.seq ?_
  refine Tr ?_
  refine Qe 1 rfl ?_
  refine Q1 rfl rfl rfl (Ax.ln (cl := Span.cl) rfl slc_183 rfl) ?_
  refine Qd rfl ?_
  obtain ⟨j, hj, h⟩ := jo h
  refine Tri.rngL h (fun p => ⟨[(0, .lst 2 (a0.map Span.cl)), (1, .lst 2 (a1.map Span.cl)), (12, Ai (a0.length : Int)), (13, Ai p.1)], []⟩) (fun y => j y = some r) (fun (y : Unit) => ⟨[], []⟩) (E0 rfl) ?_ ?_ ?_
  ·rintro ⟨⟩ h
   subst hj
   refine Tp rfl ?_
   refine Tri.ret ?_
   exact Rb h rfl
  ·rintro v13 ⟨⟩ hi h
   refine Tp rfl ?_
   refine Tri.seq ?_
   refine Tri.cond (b := (decide (v13 < (a0.length : Int)))) rfl (fun hb_1 => ?_) (fun hb_1 => ?_)
   ·exact (lt_f hi hb_1).elim
   ·refine Tri.exit ?_
    exact Exists.intro () (And.intro h (E0 rfl))
  ·rintro nx x v13 ⟨⟩ _ hi hw hx h
   refine Tp rfl ?_
   refine Tri.seq ?_
   refine Tri.cond (b := (decide (v13 < (a0.length : Int)))) rfl (fun hb_2 => ?_) (fun hb_2 => ?_)
   ·refine Tri.skip ?_
    refine Tri.seq ?_
    refine Tri.block ?_
    refine Tp rfl ?_
    refine Tri.seq ?_
    refine Tri.drawn [] hmix (by kernel_rfl) ?_
    refine Qe 2 rfl ?_
    refine Q1 rfl rfl rfl (Ax.ix (cl := Span.cl) rfl slc_183 rfl rfl hx) ?_
    refine Qe 3 rfl ?_
    obtain ⟨y, hy, h⟩ := bind_some h
    refine Q1 rfl rfl rfl (Ax.ix (cl := Span.cl) rfl slc_183 rfl rfl hy) ?_
    refine Qe 1 rfl ?_
    refine Q1 rfl rfl rfl (v := Ab (!(decide (x = y)))) (Ax.nes (xs := [.int .i64 x.Lo, .int .i64 x.Hi]) (ys := [.int .i64 y.Lo, .int .i64 y.Hi]) (fsp_49 x y) rfl rfl rfl (eqs_49 x y)) ?_
    refine RunD.done ⟨by kernel_rfl, freshL_of [] (by kernel_rfl) (by kernel_rfl), ?_⟩
    refine Tri.cond (b := (!(decide (x = y)))) rfl (fun hb_3 => ?_) (fun hb_3 => ?_)
    ·have h := cond_t hb_3 h
     refine Tp rfl ?_
     refine Tri.ret ?_
     exact Rb h rfl
    ·have h := cond_f hb_3 h
     refine Tri.skip ?_
     refine Tq rfl ?_
     exact Exists.intro (v13 + 1, ()) (And.intro (And.intro rfl h) (Es0 [13] rfl ⟨.imm (Sub.of_eq (show Ai (v13 + 1) = Ai (W (v13 + 1)) from congrArg Ai hw.symm)) rfl, trivial⟩))
   ·exact (lt_t hi hb_2).elim
theorem f190_ok {K : Nat} {a0 : List Int} {a1 : Scene} {a2 : List Spot_basin} {a3 : List Span} {r : Bool} (h : f190 K a0 a1 a2 a3 = some r) : CallOK Tryz.prog 190 [.lst 1 (a0.map icl), .ipt (Scene.cl a1) 0, .ipt (cl180 a2) 0, .ipt (cl183 a3) 0] [] (Ab r) [] := by
 refine CallOK.of_tri Tryz.func190 rfl rfl (Nat.le_of_ble_eq_true rfl) ?_
 unfold f190 at h
 refine Tp rfl ?_
 refine Tri.seq ?_
 refine Tri.drawn [[], [], [1], [0, 1, 2], [], [0, 1, 2, 3, 4], [0, 1, 2, 3, 4, 5], [0, 1, 2, 3, 4, 5, 6], [0, 1, 2, 3, 4, 5, 6], [0, 1, 2, 3, 4, 5, 6, 7], [0, 1, 2, 3, 4, 5, 6, 7, 8, 9]] hmix (by kernel_rfl) ?_
 refine Qe 2 rfl ?_
 obtain ⟨x11, hc, h⟩ := bind_some h
 refine Qc rfl rfl rfl (args := [.lst 1 (a0.map icl), Ai (-1)]) (r := .fn 255 [.ipt (icl x11.1) 0, .ipt (cl26 x11.2) 0]) (calv rfl rfl fnok_139 rfl) (f139_ok hc) rfl ?_
 obtain ⟨x12, hc_1, h⟩ := bind_some h
 refine Qc rfl rfl rfl (args := [.agg (Scene.cl a1), .fn 255 [.ipt (icl x11.1) 0, .ipt (cl26 x11.2) 0]]) (r := .agg (Scene.cl x12)) (calv rfl rfl fnok_138 rfl) (f138_ok fnok_255 rfl (fun _ _ hr => f255_ok hr) hc_1) rfl ?_
 refine Qe 1 rfl ?_
 obtain ⟨⟨x14_0, x14_1⟩, hc_2, h⟩ := bind_some h
 refine Qc rfl rfl rfl (args := [.agg (Scene.cl x12), .lst 2 (a2.map Spot_basin.cl)]) (r := .tup [.lst 2 (x14_0.map Span.cl), Ai x14_1]) (calv rfl rfl fnok_114 rfl) (f114_ok hc_2) rfl ?_
 refine Qe 5 rfl ?_
 refine RunD.done ⟨by kernel_rfl, freshL_of [] (by kernel_rfl) (by kernel_rfl), ?_⟩
 refine Tri.seq ?_
 obtain ⟨v5, hj, h⟩ := bind_some h
 refine Tri.joinv v5 (fun (y : Bool) => ⟨[(5, Ab y)], []⟩) ?_ ?_
 ·refine Tri.ret ?_
  exact Rb h rfl
 ·have h := hj
  refine Tri.region ?_
  refine Qe 3 rfl ?_
  rcases b2 (x14_1 == 0) with hb | hb
  ·have h := cond_t hb h
   refine Qk 19 hb rfl ?_
   refine Qe 2 rfl ?_
   obtain ⟨x22, hc_3, h⟩ := bind_some h
   refine Qc rfl rfl rfl (args := [.lst 2 (x14_0.map Span.cl), .lst 2 (a3.map Span.cl)]) (r := Ab x22) (calv rfl rfl fnok_191 rfl) (f191_ok hc_3) rfl ?_
   refine Qd rfl ?_
   exact Exists.intro x22 (And.intro h (E0 rfl))
  ·have h := cond_f hb h
   refine Qk 19 hb rfl ?_
   refine Qd rfl ?_
   exact Exists.intro false (And.intro h (E0 rfl))
theorem f81_ok {K : Nat} {a0 : Scene} {a1 : List Int} {a2 : Int} {r : List Int × Int} (h : f81 K a0 a1 a2 = some r) : CallOK Tryz.prog 81 [.agg (Scene.cl a0), .lst 1 (a1.map icl), Ai a2] [] (.tup [.lst 1 (r.1.map icl), Ai r.2]) [] := by
 refine CallOK.of_tri Tryz.func81 rfl rfl (Nat.le_of_ble_eq_true rfl) ?_
 unfold f81 at h
 refine Tr ?_
 refine Qe 1 rfl ?_
 refine Q1 rfl rfl rfl (v := .lst 1 (([] : List Int).map icl)) (Ax.nl 1 rfl rfl) ?_
 refine Qd rfl ?_
 refine Tr ?_
 refine Qe 3 rfl ?_
 obtain ⟨⟨x15_0, x15_1⟩, hc, h⟩ := bind_some h
 refine Qc rfl rfl rfl (args := [.agg (Scene.cl a0), .lst 1 (a1.map icl), Ai a2]) (r := .tup [.lst 2 (x15_0.map Spot_basin.cl), Ai x15_1]) (calv rfl rfl fnok_113 rfl) (f113_ok hc) rfl ?_
 refine Qe 3 rfl ?_
 refine Qn rfl rfl rfl (v := .ptr 8 0) (x := some (.box (cl180 ([] : List Spot_basin)))) (Ax.alloc rfl rfl zer_180 rfl ⟨Sub.nil _, trivial⟩) rfl rfl rfl rfl rfl ?_
 refine Qs rfl rfl (x := some (.box (cl180 x15_0))) (Ax.st_box rfl siz_180 rfl rfl rfl rfl rfl rfl rfl) ?_
 refine Qd rfl ?_
 refine Tri.seq ?_
 refine Tp rfl ?_
 refine Tri.cond (b := (x15_1 != 0)) rfl (fun hb => ?_) (fun hb => ?_)
 ·have h := cond_t hb h
  refine Tr ?_
  refine Qe 1 rfl ?_
  refine Q1 rfl rfl rfl (v := .lst 1 (([] : List Int).map icl)) (Ax.nl 1 rfl rfl) ?_
  refine Qd rfl ?_
  refine Tri.ret ?_
  refine Rr (fun r => .tup [.lst 1 (r.1.map icl), Ai r.2]) (fun r => []) [] h ?_ trivial
  rfl
 ·have h := cond_f hb h
  refine Tri.skip ?_
  refine Tr ?_
  refine Qe 2 rfl ?_
  obtain ⟨⟨x24_0, x24_1⟩, hc_1, h⟩ := bind_some h
  refine Qc rfl rfl rfl (args := [.agg (Scene.cl a0), .lst 2 (x15_0.map Spot_basin.cl)]) (r := .tup [.lst 2 (x24_0.map Span.cl), Ai x24_1]) (calv rfl rfl fnok_114 rfl) (f114_ok hc_1) rfl ?_
  refine Qe 3 rfl ?_
  refine Qn rfl rfl rfl (v := .ptr 10 0) (x := some (.box (cl183 ([] : List Span)))) (Ax.alloc rfl rfl zer_183 rfl ⟨Sub.nil _, trivial⟩) rfl rfl rfl rfl rfl ?_
  refine Qs rfl rfl (x := some (.box (cl183 x24_0))) (Ax.st_box rfl siz_183 rfl rfl rfl rfl rfl rfl rfl) ?_
  refine Qd rfl ?_
  refine Tri.seq ?_
  refine Tp rfl ?_
  refine Tri.cond (b := (x24_1 != 0)) rfl (fun hb_1 => ?_) (fun hb_1 => ?_)
  ·have h := cond_t hb_1 h
   refine Tr ?_
   refine Qe 1 rfl ?_
   refine Q1 rfl rfl rfl (v := .lst 1 (([] : List Int).map icl)) (Ax.nl 1 rfl rfl) ?_
   refine Qd rfl ?_
   refine Tri.ret ?_
   refine Rr (fun r => .tup [.lst 1 (r.1.map icl), Ai r.2]) (fun r => []) [] h ?_ trivial
   rfl
  ·have h := cond_f hb_1 h
   refine Tri.skip ?_
   refine Tri.seq ?_
   refine Tri.ent (Ent.norm [8, 10] [] [(3, .ipt (Scene.cl a0) 0), (8, .ipt (cl180 x15_0) 0), (10, .ipt (cl183 x24_0) 0)] rfl trivial ⟨.rfl' rfl, .frz (.ptrV (List.Mem.head _) rfl ⟨(.imm rfl), trivial⟩) rfl, .frz (.ptrV (List.Mem.tail _ (List.Mem.head _)) rfl ⟨(.imm rfl), trivial⟩) rfl, trivial⟩) ?_
   refine Tri.region ?_
   refine Qe 1 rfl ?_
   obtain ⟨x31, hc_2, h⟩ := bind_some h
   refine Qc rfl rfl rfl (args := [.agg (Scene.cl a0)]) (r := .lst 1 (x31.map icl)) (calv rfl rfl fnok_189 rfl) (f189_ok hc_2) rfl ?_
   refine Q1 rfl rfl rfl (v := .fn 190 [.ipt (Scene.cl a0) 0, .ipt (cl180 x15_0) 0, .ipt (cl183 x24_0) 0]) (Ax.func rfl rfl) ?_
   obtain ⟨x33, hc_3, h⟩ := bind_some h
   refine Qc rfl rfl rfl (args := [.lst 1 (x31.map icl), .fn 190 [.ipt (Scene.cl a0) 0, .ipt (cl180 x15_0) 0, .ipt (cl183 x24_0) 0]]) (r := .lst 1 (x33.map icl)) (calv rfl rfl fnok_135 rfl) (f135_ok fnok_190 rfl (fun _ _ hr => f190_ok hr) hc_3) rfl ?_
   refine Qd rfl ?_
   refine Tri.ret ?_
   refine Rr (fun r => .tup [.lst 1 (r.1.map icl), Ai r.2]) (fun r => []) [] h ?_ trivial
   rfl
theorem f201_ok {K : Nat} {a0 : Laid_basin} {a1 : Reason} {r : Int} (h : f201 K a0 a1 = some r) : CallOK Tryz.prog 201 [.ipt (Laid_basin.cl a0) 0, .agg (Reason.cl a1)] [] (Ai r) [] := by
 refine CallOK.of_tri Tryz.func201 rfl rfl (Nat.le_of_ble_eq_true rfl) ?_
 unfold f201 at h
 refine Tp rfl ?_
 refine Tri.seq ?_
 refine Tr ?_
 refine Qe 1 rfl ?_
 refine Q1 rfl rfl rfl (Ax.nil_ipt rfl rfl) ?_
 refine Qe 2 rfl ?_
 refine Q1 rfl rfl rfl (Ax.ln (cl := Reason.cl) rfl slc_35 rfl) ?_
 refine Qd rfl ?_
 obtain ⟨j, hj, h⟩ := jo h
 refine Tri.rngL h (fun p => ⟨[(0, .ipt (Laid_basin.cl a0) 0), (3, .ipt (Reason.cl a1) 0), (10, Ai (a0.reasons.length : Int)), (11, Ai p.1)], []⟩) (fun y => j y = some r) (fun (y : Unit) => ⟨[], []⟩) (E0 rfl) ?_ ?_ ?_
 ·rintro ⟨⟩ h
  subst hj
  refine Tp rfl ?_
  refine Tri.ret ?_
  exact Ri h rfl
 ·rintro v11 ⟨⟩ hi h
  refine Tp rfl ?_
  refine Tri.seq ?_
  refine Tri.cond (b := (decide (v11 < (a0.reasons.length : Int)))) rfl (fun hb => ?_) (fun hb => ?_)
  ·exact (lt_f hi hb).elim
  ·refine Tri.exit ?_
   exact Exists.intro () (And.intro h (E0 rfl))
 ·rintro nx x v11 ⟨⟩ _ hi hw hx h
  refine Tp rfl ?_
  refine Tri.seq ?_
  refine Tri.cond (b := (decide (v11 < (a0.reasons.length : Int)))) rfl (fun hb_1 => ?_) (fun hb_1 => ?_)
  ·refine Tri.skip ?_
   refine Tri.seq ?_
   refine Tri.block ?_
   refine Tp rfl ?_
   refine Tri.seq ?_
   refine Tri.drawn [] hmix (by kernel_rfl) ?_
   refine Qe 1 rfl ?_
   refine Q1 rfl rfl rfl (Ax.nil_ipt rfl rfl) ?_
   refine Qe 3 rfl ?_
   refine Q1 rfl rfl rfl (Ax.ix (cl := Reason.cl) rfl slc_35 rfl rfl hx) ?_
   refine Qe 2 rfl ?_
   refine Q1 rfl rfl rfl (v := Ab (decide (x = a1))) (Ax.eqs (xs := [.int .i64 x.Kind, .int .i64 x.Index, .int .i64 x.Day, .bool x.Upper]) (ys := [.int .i64 a1.Kind, .int .i64 a1.Index, .int .i64 a1.Day, .bool a1.Upper]) (fsp_42 x a1) rfl rfl rfl (eqs_42 x a1)) ?_
   refine RunD.done ⟨by kernel_rfl, freshL_of [] (by kernel_rfl) (by kernel_rfl), ?_⟩
   refine Tri.cond (b := (decide (x = a1))) rfl (fun hb_2 => ?_) (fun hb_2 => ?_)
   ·have h := cond_t hb_2 h
    refine Tp rfl ?_
    refine Tri.ret ?_
    exact Ri h rfl
   ·have h := cond_f hb_2 h
    refine Tri.skip ?_
    refine Tq rfl ?_
    exact Exists.intro (v11 + 1, ()) (And.intro (And.intro rfl h) (Es0 [11] rfl ⟨.imm (Sub.of_eq (show Ai (v11 + 1) = Ai (W (v11 + 1)) from congrArg Ai hw.symm)) rfl, trivial⟩))
  ·exact (lt_t hi hb_1).elim
theorem f203_ok {K : Nat} {a0 : Int} {r : Int} (h : f203 K a0 = some r) : CallOK Tryz.prog 203 [Ai a0] [] (Ai r) [] := by
 refine CallOK.of_tri Tryz.func203 rfl rfl (Nat.le_of_ble_eq_true rfl) ?_
 unfold f203 at h
 refine Tp rfl ?_
 refine Tr ?_
 refine Qe 1 rfl ?_
 refine Q1 rfl rfl rfl (v := Ai (if (-1152921504606846976) > a0 then (-1152921504606846976) else a0)) (Ax.max rfl rfl rfl) ?_
 refine Q1 rfl rfl rfl (v := Ai (if 1152921504606846976 < (if (-1152921504606846976) > a0 then (-1152921504606846976) else a0) then 1152921504606846976 else (if (-1152921504606846976) > a0 then (-1152921504606846976) else a0))) (Ax.min rfl rfl rfl) ?_
 refine Qd rfl ?_
 refine Tri.ret ?_
 exact Ri h rfl
theorem f333_ok {K : Nat} {a0 : Int} {a1 : Net} {r : Bool} (h : f333 K a0 a1 = some r) : CallOK Tryz.prog 333 [Ai a0, .ipt (Net.cl a1) 0] [] (Ab r) [] := by
 refine CallOK.of_tri Tryz.func333 rfl rfl (Nat.le_of_ble_eq_true rfl) ?_
 unfold f333 at h
 refine Tp rfl ?_
 refine Tr ?_
 refine Qe 3 rfl ?_
 refine Q1 rfl rfl rfl (Ax.ln (cl := Diff.cl) rfl slc_32 rfl) ?_
 refine Qe 1 rfl ?_
 obtain ⟨x9, hc, h⟩ := bind_some h
 refine Qc rfl rfl rfl (args := [Ai a0, Ai 0, Ai (W ((a1.Diffs.length : Int) - 1))]) (r := Ab x9) (calv rfl rfl fnok_282 rfl) (f282_ok hc) rfl ?_
 refine Qd rfl ?_
 refine Tri.ret ?_
 exact Rb h rfl
theorem f283_ok {K : Nat} {a0 : Net} {a1 : List Int} {r : Bool} (h : f283 K a0 a1 = some r) : CallOK Tryz.prog 283 [.agg (Net.cl a0), .lst 1 (a1.map icl)] [] (Ab r) [] := by
 refine CallOK.of_tri Tryz.func283 rfl rfl (Nat.le_of_ble_eq_true rfl) ?_
 unfold f283 at h
 refine Tp rfl ?_
 refine Tr ?_
 refine Qe 1 rfl ?_
 refine Q1 rfl rfl rfl (v := .fn 333 [.ipt (Net.cl a0) 0]) (Ax.func rfl rfl) ?_
 obtain ⟨x7, hc, h⟩ := bind_some h
 refine Qc rfl rfl rfl (args := [.lst 1 (a1.map icl), .fn 333 [.ipt (Net.cl a0) 0]]) (r := Ab x7) (calv rfl rfl fnok_292 rfl) (f292_ok fnok_333 rfl (fun _ _ hr => f333_ok hr) hc) rfl ?_
 refine Qd rfl ?_
 refine Tri.ret ?_
 exact Rb h rfl
theorem f284_ok {K : Nat} {a0 : Net} {a1 : Int} {a2 : Int} {a3 : List Int} {r : Int × Bool} (h : f284 K a0 a1 a2 a3 = some r) : CallOK Tryz.prog 284 [.agg (Net.cl a0), Ai a1, Ai a2, .lst 1 (a3.map icl)] [] (.tup [Ai r.1, Ab r.2]) [] := by
 refine CallOK.of_tri Tryz.func284 rfl rfl (Nat.le_of_ble_eq_true rfl) ?_
 unfold f284 at h
 refine Tp rfl ?_
 refine Tp rfl ?_
 refine Tri.seq ?_
 refine Tr ?_
 refine Qe 1 rfl ?_
 refine Q1 rfl rfl rfl (Ax.ln (cl := icl) rfl slc_26 rfl) ?_
 refine Qd rfl ?_
 obtain ⟨j, hj, h⟩ := jo h
 refine Tri.rngL h (fun p => ⟨[(1, Ai p.2.1), (2, Ai a2), (4, .ipt (Net.cl a0) 0), (10, Ai p.2.2), (14, .lst 1 (a3.map icl)), (15, Ai (a3.length : Int)), (16, Ai p.1)], []⟩) (fun y => j y = some r) (fun (y : Int × Int) => ⟨[(1, Ai y.1), (2, Ai a2), (10, Ai y.2)], []⟩) (E0 rfl) ?_ ?_ ?_
 ·rintro ⟨v1_1, v10_1⟩ h
  subst hj
  refine Tp rfl ?_
  refine Tri.ret ?_
  refine Rr (fun r => .tup [Ai r.1, Ab r.2]) (fun r => []) [] h ?_ trivial
  rfl
 ·rintro v16 ⟨v1, v10⟩ hi h
  refine Tp rfl ?_
  refine Tri.seq ?_
  refine Tri.cond (b := (decide (v16 < (a3.length : Int)))) rfl (fun hb => ?_) (fun hb => ?_)
  ·exact (lt_f hi hb).elim
  ·refine Tri.exit ?_
   exact Exists.intro (v1, v10) (And.intro h (E0 rfl))
 ·rintro nx x v16 ⟨v1, v10⟩ _ hi hw hx h
  refine Tp rfl ?_
  refine Tri.seq ?_
  refine Tri.cond (b := (decide (v16 < (a3.length : Int)))) rfl (fun hb_1 => ?_) (fun hb_1 => ?_)
  ·refine Tri.skip ?_
   refine Tri.seq ?_
   refine Tri.block ?_
   refine Tr ?_
   refine Q1 rfl rfl rfl (Ax.ix (cl := icl) rfl slc_26 rfl rfl hx) ?_
   refine Qd rfl ?_
   refine Tr ?_
   refine Qe 3 rfl ?_
   obtain ⟨y, hy, h⟩ := bind_some h
   refine Q1 rfl rfl rfl (Ax.ix (cl := Diff.cl) rfl slc_32 rfl rfl hy) ?_
   refine Qe 1 rfl ?_
   refine Qn rfl rfl rfl (v := .ptr 13 0) (x := some (.box (Diff.cl (⟨0, 0, 0⟩ : Diff)))) (Ax.alloc rfl rfl zer_174 rfl ⟨Sub.refl _, Sub.refl _, Sub.refl _, trivial⟩) rfl rfl rfl rfl rfl ?_
   refine Qs rfl rfl (x := some (.box (Diff.cl y))) (Ax.st_box rfl siz_174 rfl rfl rfl rfl rfl rfl rfl) ?_
   refine RunD.done ?_
   refine Tri.seq ?_
   refine Tp rfl ?_
   refine Tri.cond (b := (y.From != v1)) rfl (fun hb_2 => ?_) (fun hb_2 => ?_)
   ·have h := cond_t hb_2 h
    refine Tp rfl ?_
    refine Tri.ret ?_
    refine Rr (fun r => .tup [Ai r.1, Ab r.2]) (fun r => []) [] h ?_ trivial
    rfl
   ·have h := cond_f hb_2 h
    refine Tri.skip ?_
    refine Tp rfl ?_
    refine Tq rfl ?_
    refine Tq rfl ?_
    exact Exists.intro (v16 + 1, (y.To, (W (v10 + y.Most)))) (And.intro (And.intro rfl h) (Es0 [16] rfl ⟨.imm (Sub.of_eq (show Ai (v16 + 1) = Ai (W (v16 + 1)) from congrArg Ai hw.symm)) rfl, trivial⟩))
  ·exact (lt_t hi hb_1).elim
theorem f204_ok {K : Nat} {a0 : Net} {a1 : Int} {a2 : Int} {a3 : Int} {a4 : List Int} {r : Int} (h : f204 K a0 a1 a2 a3 a4 = some r) : CallOK Tryz.prog 204 [.agg (Net.cl a0), Ai a1, Ai a2, Ai a3, .lst 1 (a4.map icl)] [] (Ai r) [] := by
 refine CallOK.of_tri Tryz.func204 rfl rfl (Nat.le_of_ble_eq_true rfl) ?_
 unfold f204 at h
 refine Tp rfl ?_
 refine Tri.seq ?_
 refine Tri.seq ?_
 refine Tri.drawn [[], [], [], [2], [2, 3], [1, 2, 3, 4], [], [], [7], [7, 8], [1, 2, 3, 4, 5, 6, 7, 8, 9], [], [], [1, 2, 3, 4, 5, 6, 7, 8, 9, 10, 11, 12], [1, 2, 3, 4, 5, 6, 7, 8, 9, 10, 11, 12, 13], [0, 1, 2, 3, 4, 5, 6, 7, 8, 9, 10, 11, 12, 13, 14], [0, 1, 2, 3, 4, 5, 6, 7, 8, 9, 10, 11, 12, 13, 14, 15]] hmix (by kernel_rfl) ?_
 refine Qe 5 rfl ?_
 obtain ⟨x19, hc, h⟩ := bind_some h
 refine Qc rfl rfl rfl (args := [Ai a1, Ai 0, Ai (W (a0.Nodes - 1))]) (r := Ab x19) (calv rfl rfl fnok_282 rfl) (f282_ok hc) rfl ?_
 refine Qe 4 rfl ?_
 obtain ⟨x24, hc_1, h⟩ := bind_some h
 refine Qc rfl rfl rfl (args := [Ai a2, Ai 0, Ai (W (a0.Nodes - 1))]) (r := Ab x24) (calv rfl rfl fnok_282 rfl) (f282_ok hc_1) rfl ?_
 refine Qe 2 rfl ?_
 obtain ⟨x27, hc_2, h⟩ := bind_some h
 refine Qc rfl rfl rfl (args := [.agg (Net.cl a0), .lst 1 (a4.map icl)]) (r := Ab x27) (calv rfl rfl fnok_283 rfl) (f283_ok hc_2) rfl ?_
 refine Q1 rfl rfl rfl (v := .lst 1 (([x19, x24, x27] : List Bool).map bcl)) (Ax.sl (xs := ([x19, x24, x27] : List Bool)) rfl slc_191 rfl rfl ⟨Sub.refl _, Sub.refl _, Sub.refl _, trivial⟩ rfl bcl_len bcl_one bcl_im) ?_
 obtain ⟨x29, hc_3, h⟩ := bind_some h
 refine Qc rfl rfl rfl (args := [.agg (Net.cl a0), .lst 1 (([x19, x24, x27] : List Bool).map bcl)]) (r := Ai x29) (calv rfl rfl fnok_223 rfl) (f223_ok hc_3) rfl ?_
 refine Qe 1 rfl ?_
 refine RunD.done ⟨by kernel_rfl, freshL_of [] (by kernel_rfl) (by kernel_rfl), ?_⟩
 refine Tp rfl ?_
 refine Tri.cond (b := (x29 != 0)) rfl (fun hb => ?_) (fun hb => ?_)
 ·have h := cond_t hb h
  refine Tp rfl ?_
  refine Tri.ret ?_
  exact Ri h rfl
 ·have h := cond_f hb h
  refine Tri.skip ?_
  refine Tri.seq ?_
  refine Tr ?_
  refine Qe 4 rfl ?_
  obtain ⟨⟨x38_0, x38_1⟩, hc_4, h⟩ := bind_some h
  refine Qc rfl rfl rfl (args := [.agg (Net.cl a0), Ai a1, Ai a2, .lst 1 (a4.map icl)]) (r := .tup [Ai x38_0, Ab x38_1]) (calv rfl rfl fnok_284 rfl) (f284_ok hc_4) rfl ?_
  refine Qd rfl ?_
  refine Tri.seq ?_
  refine Tri.join1 ⟨[(55, Ab ((!x38_1) || ((decide ((a4.length : Int) > (W (a0.Nodes - 1)))) || (decide (x38_0 > a3)))))], []⟩ ?_ ?_
  ·refine Tri.cond (b := ((!x38_1) || ((decide ((a4.length : Int) > (W (a0.Nodes - 1)))) || (decide (x38_0 > a3))))) rfl (fun hb_1 => ?_) (fun hb_1 => ?_)
   ·have h := cond_t hb_1 h
    refine Tp rfl ?_
    refine Tri.ret ?_
    exact Ri h rfl
   ·have h := cond_f hb_1 h
    refine Tri.skip ?_
    refine Tp rfl ?_
    refine Tri.ret ?_
    exact Ri h rfl
  ·refine Tri.region ?_
   refine Qe 3 rfl ?_
   rcases b2 (!x38_1) with hb_2 | hb_2
   ·refine Qk 43 hb_2 rfl ?_
    refine Qd rfl ?_
    exact (Es0 [55] rfl ⟨.imm (Sub.of_eq (show Ab ((!x38_1) || ((decide ((a4.length : Int) > (W (a0.Nodes - 1)))) || (decide (x38_0 > a3)))) = Ab true by simp only [cond_true, cond_false, Bool.true_or, Bool.false_or, Bool.true_and, Bool.false_and, Bool.or_true, Bool.or_false, Bool.and_true, Bool.and_false, hb, hb_2])) rfl, trivial⟩)
   ·refine Qk 43 hb_2 rfl ?_
    refine Qe 1 rfl ?_
    refine Q1 rfl rfl rfl (Ax.ln (cl := icl) rfl slc_26 rfl) ?_
    refine Qe 6 rfl ?_
    rcases b2 (decide ((a4.length : Int) > (W (a0.Nodes - 1)))) with hb_3 | hb_3
    ·refine Qk 51 hb_3 rfl ?_
     refine Qd rfl ?_
     exact (Es0 [55] rfl ⟨.imm (Sub.of_eq (show Ab ((!x38_1) || ((decide ((a4.length : Int) > (W (a0.Nodes - 1)))) || (decide (x38_0 > a3)))) = Ab true by simp only [cond_true, cond_false, Bool.true_or, Bool.false_or, Bool.true_and, Bool.false_and, Bool.or_true, Bool.or_false, Bool.and_true, Bool.and_false, hb, hb_2, hb_3])) rfl, trivial⟩)
    ·refine Qk 51 hb_3 rfl ?_
     refine Qd rfl ?_
     exact (Es0 [55] rfl ⟨.imm (Sub.of_eq (show Ab ((!x38_1) || ((decide ((a4.length : Int) > (W (a0.Nodes - 1)))) || (decide (x38_0 > a3)))) = Ab (decide (x38_0 > a3)) by simp only [cond_true, cond_false, Bool.true_or, Bool.false_or, Bool.true_and, Bool.false_and, Bool.or_true, Bool.or_false, Bool.and_true, Bool.and_false, hb, hb_2, hb_3])) rfl, trivial⟩)
end Go.Proofs.YthlchdnbokhclaaGreat.Ql

import Derived.Test.YthlchdnbokhclaaGreatQa1
import Derived.Orders
set_option linter.all false
namespace Go.Proofs.YthlchdnbokhclaaGreat.Ql
open Go
section
variable {P : Program} {C : Ctx} {κ : Kap} {s : AS} {a : Act} {w : World} {o : Oper}
theorem run_getObj_mp {r c : Nat} {es : Array MapEntry} (h : w.heap[r]? = some (.map es c)) : (getObj r).run P w = .ok (.map es c) w := by simp [getObj, Sem.run, h]
theorem run_setObj_mp {r c : Nat} {es : Array MapEntry} (o : Obj) (h : w.heap[r]? = some (.map es c)) : (setObj r o).run P w = .ok () { w with heap := w.heap.setIfInBounds r o } := by simp [setObj, Sem.run, h]
theorem G.take_over (hg : G C κ s a w) {id d e sz g cap n m : Nat} {rows rows' : List (List AV)} {cur cur' : Array Value} (hne : d ≠ id) (hfr : s.fresh C.ob0 d) (h : Own w (OW C κ) κ id e sz rows g cap cur) {w' : World}
    (hw : w' = w ∧ cur' = cur ∨ w' = w.setRow g cur') (hcs : cur'.size = cap * sz) (hm : m ≤ cap) (hrl : rows'.length = m) (hrv : Rv w (OW C κ) κ rows'.flatten (cur'.toList.take (m * sz)))
    (hl : ∀ r ∈ rows', r.length = sz ∧ r.all AV.im = true) (h1 : ∀ v ∈ cur'.toList.take (m * sz), v.oneCell' = true) {wr : List (Nat × Option AO)} (hwr : wr = [(d, some (.arr e sz rows')), (id, none)]) (hn : n = n) :
    G C ((κ.set id none).set d (some (.arr (.slice (some ⟨g, 0, none⟩) m cap)))) { s with ob := wr ++ s.ob } a w' := by
  subst hwr
  have hsz : w'.heap.size = w.heap.size := by
    rcases hw with ⟨rfl, _⟩ | rfl
    · rfl
    · exact setRow_size _ _ _
  have hold : ∀ b, b ≠ g → w'.heap[b]? = w.heap[b]? := by
    intro b hb
    rcases hw with ⟨rfl, _⟩ | rfl
    · rfl
    · exact setRow_other w g b _ hb
  have hgg : w'.heap[g]? = some (.cells cur' e (0, 0)) := by
    rcases hw with ⟨rfl, rfl⟩ | rfl
    · exact h.hh
    · exact setRow_heap w g cur _ e (0, 0) h.hh
  have hf : w'.os = w.os ∧ w'.tape = w.tape ∧ w'.output = w.output := by
    rcases hw with ⟨rfl, _⟩ | rfl
    · exact ⟨rfl, rfl, rfl⟩
    · exact ⟨rfl, rfl, rfl⟩
  refine hg.swap h.k hfr hne (w' := w') (k := .arr (.slice (some ⟨g, 0, none⟩) m cap)) (o := .arr e sz rows') (by omega) (fun b _ hn => hold b (fun e => hn (by subst e; rfl))) hf (fun b hb => .inl (by simpa [KO.blk, vblk] using hb)) (fun hkp => ?_)
  refine ⟨_, _, rfl, ⟨?_, .inr ⟨g, cap, _, by rw [hrl], Nat.zero_le _, hgg, by omega, h.cm, hcs, rfl⟩⟩, ?_, hl, ?_⟩
  · have hcl : cur'.toList.length = cur'.size := Array.length_toList
    rw [hrl, List.length_take, hcl, hcs]
    have := Nat.mul_le_mul_right sz hm
    omega
  · rw [hrl]
    refine Rv_men hkp _ _ (fun i l e => ?_) hrv
    simp only [Kap.set] at e
    by_cases h1 : i = d
    · subst h1
      exact .inr (menL_im _ (flat_im hl))
    · rw [if_neg h1] at e
      split at e
      · cases e
      · exact .inl e
  · rw [hrl]; exact h1
set_option maxHeartbeats 2000000 in
theorem Ex.sound {rd : List Nat} {v : AV} {wr : List (Nat × Option AO)} (hax : Ex P o (Ql.ev s.tm) (lo s.ob) rd v wr) (hg : G C κ s a w) (hd : ∀ d, o.dst = some d → d < C.n)
    (hf : ∀ p ∈ wr, p.1 ∈ rd ∨ s.fresh C.ob0 p.1) {next : Act → World → Prop} {Q : Exit → Act → World → Prop} (hn : Fin C s o v wr next) : o.wp P a w next Q := by
  cases hax with
  | sl_hnd ho ht hx hb hlo hhi h1 h2 =>
    rename_i T x lo hi e sz by_ z id e' rows l h
    obtain ⟨i, hi', hs, _, hz⟩ := ht.info
    rcases hnd_own (sz := _) hg hx hb with ⟨hv, hk, hr⟩ | ⟨g, cap, cur, hO, hv⟩
    · subst hr
      simp only [List.length_nil] at h2
      have : h = 0 := by omega
      have : l = 0 := by omega
      subst_vars
      refine quiet hg hd hn (u := .slice none 0 0) ?_ ?_
      · have := run_slice (P := P) (w := w) (lo := lo.map a.eval) (hi := hi.map a.eval) ht (ad := none) (n := 0) (cap := 0) (bnd hg hlo) (bnd hg hhi) (Nat.le_refl _) (Nat.le_refl _)
        simp only [ite_true, Nat.sub_self] at this
        simp [execOp, ho, hv, this]
      · simp only [R]
        exact ⟨rfl, fun k hk' => by rw [hk] at hk'; cases hk'; exact ⟨none, 0, 0, rfl, by simp, by simp, by simp, none, by simp⟩⟩
    · refine quiet hg hd hn (u := .slice (if cap = l then some ⟨g, 0, none⟩ else (some ⟨g, 0, none⟩ : Option Addr).map (·.add (l * sz))) (h - l) (cap - l)) ?_ ?_
      · have := run_slice (P := P) (w := w) (lo := lo.map a.eval) (hi := hi.map a.eval) ht (ad := some ⟨g, 0, none⟩) (n := rows.length) (cap := cap) (bnd hg hlo) (bnd hg hhi) h1 (Nat.le_trans h2 hO.nc)
        simp [execOp, ho, hv, this]
      · simp only [R]
        refine ⟨rfl, fun k hk' => ?_⟩
        rw [hO.k] at hk'; cases hk'
        refine ⟨_, _, cap, rfl, h1, h2, hO.nc, _, rfl, fun hl => if_neg (by omega), fun hl => ?_⟩
        subst hl
        split <;> simp [Addr.add_lit]
  | sl_max ho ht hx hb hl hh hm h1 h2 h3 =>
    rename_i T x y1 y2 y3 e sz by_ z id e' rows k1 k2 k3 l h m
    obtain ⟨i, hi', hs, _, hz⟩ := ht.info
    have e1 := ev_int hg hl
    have e2 := ev_int hg hh
    have e3 := ev_int hg hm
    have go : ∀ (ad : Option Addr) (n cap : Nat), m ≤ cap → a.eval x = .slice ad n cap → o.wp P a w next Q := by
      intro ad n cap hc hv
      refine quiet hg hd hn (u := .slice (if m = l then ad else ad.map (·.add (l * sz))) (h - l) (m - l)) ?_ (by simp [R])
      simp [execOp, ho, hv, e1, e2, e3, Instr.sliceAt, Instr.slice, run_underlying ht.und, Instr.sliceBounds, Instr.sliceBound, asIntOf, h1, h2, hc, run_size (P := P) (T := e) (n := sz) (by simp [hi', hs])]
    rcases hnd_own (sz := _) hg hx hb with ⟨hv, hk, hr⟩ | ⟨g, cap, cur, hO, hv⟩
    · subst hr; exact go none 0 0 (by simpa using h3) hv
    · exact go _ _ cap (Nat.le_trans h3 hO.nc) hv
  | sl_vw ho ht hx hb hlo hhi h1 h2 =>
    rename_i T x lo hi e sz by_ z id l0 h0 c e' rows l h
    rcases vw_own hg hx hb with ⟨hv, hk, hr, rfl, rfl, rfl⟩ | ⟨g, cap, cur, ad, hO, a1, a2, a3, hv, d1, d2⟩
    · have : h = 0 := by omega
      have : l = 0 := by omega
      subst_vars
      refine quiet hg hd hn (u := .slice none 0 0) ?_ ?_
      · have := run_slice (P := P) (w := w) (lo := lo.map a.eval) (hi := hi.map a.eval) ht (ad := none) (n := 0) (cap := 0) (bnd hg hlo) (bnd hg hhi) (Nat.le_refl _) (Nat.le_refl _)
        simp only [ite_true, Nat.sub_self] at this
        simp [execOp, ho, hv, this]
      · simp only [R]
        exact ⟨rfl, fun k hk' => by rw [hk] at hk'; cases hk'; exact ⟨none, 0, 0, rfl, by simp, by simp, by simp, none, by simp⟩⟩
    · have hrun := run_slice (P := P) (w := w) (lo := lo.map a.eval) (hi := hi.map a.eval) ht (ad := ad) (n := h0 - l0) (cap := cap - l0) (bnd hg hlo) (bnd hg hhi) h1 (by omega)
      refine quiet hg hd hn (u := .slice (if cap - l0 = l then ad else ad.map (·.add (l * sz))) (h - l) (cap - l0 - l)) ?_ ?_
      · simp [execOp, ho, hv, hrun]
      · simp only [R]
        refine ⟨rfl, fun k hk' => ?_⟩
        rw [hO.k] at hk'; cases hk'
        have e1 : l0 + h - (l0 + l) = h - l := by omega
        have e2 : cap - l0 - l = cap - (l0 + l) := by omega
        refine ⟨_, _, cap, rfl, by omega, by omega, by omega, _, by rw [e1, e2], fun hl => ?_, fun hl => ?_⟩
        · rw [if_neg (by omega), d1 (by omega)]; simp [Addr.add_lit, Nat.add_mul]
        · have : l0 = 0 := by omega
          have : l = 0 := by omega
          subst_vars
          rw [d2 rfl]
          split <;> simp [Addr.add_lit]
  | len_vw ho ht hx hb =>
    rename_i T x e sz by_ z id l h c e' rows
    rcases vw_own hg hx hb with ⟨hv, hk, hr, rfl, rfl, rfl⟩ | ⟨g, cap, cur, ad, hO, a1, a2, a3, hv, d1, d2⟩
    · refine quiet hg hd hn (u := .int .i64 0) ?_ (by simp [R])
      simp [execOp, ho, resolve, invoke, builtin, hv, run_len_slice ht]
    · refine quiet hg hd hn (u := .int .i64 (h - l : Nat)) ?_ (by simp [R])
      simp [execOp, ho, resolve, invoke, builtin, hv, run_len_slice ht]
  | ix_vw ho ht hx hb hi h0 hr =>
    rename_i T x i e sz by_ z id l h c e' rows k n
    have hI := ev_int hg hi
    rcases vw_own hg hx hb with ⟨hv, hk, hr', rfl, rfl, rfl⟩ | ⟨g, cap, cur, ad, hO, a1, a2, a3, hv, d1, d2⟩
    · omega
    · have hcl := d1 (by omega)
      refine quiet hg hd hn (u := .pointer (some ⟨g, (l + n.toNat) * sz, none⟩)) ?_ ?_
      · simp [execOp, ho, hv, hI, hcl, run_indexAt_slice ht h0 hr, Nat.add_mul]
      · simp only [R]
        refine ⟨rfl, fun k' hk' => ?_⟩
        rw [hO.k] at hk'; cases hk'
        exact ⟨_, g, rfl, rfl, by simp⟩
  | clear_vw ho ht hx hb h1 =>
    rename_i T x e sz by_ z id l h c e' rows
    have hsz : z.cells.size = sz := ht.2.2.1
    have hsz0 : 0 < sz := ht.2.2.2
    obtain ⟨i, hi', his, hib, hiz⟩ := ht.info
    rcases vw_own hg hx hb with ⟨hv, hk, hr', rfl, rfl, rfl⟩ | ⟨g, cap, cur, ad, hO, a1, a2, a3, hv, d1, d2⟩
    · subst hr'
      refine wp_value (v := .tuple #[]) (w' := w) ?_ (hn _ _ ⟨κ, ?_⟩)
      · simp [execOp, ho, resolve, invoke, builtin, hv, Builtin.clear_, run_underlying ht.und]
      · have hsame : G C κ { s with ob := (id, some (.arr e' sz (clr [] 0 0 (z.cells.toList.map .sc)))) :: s.ob } a w := by
          refine hg.write hk (o := .arr e' sz (clr [] 0 0 (z.cells.toList.map .sc))) rfl (fun _ _ => rfl) ⟨rfl, rfl, rfl⟩ ⟨_, [], rfl, by simpa [clr] using World.ownsRow_nil w 0 e' sz, by simp [clr, Rv], by simp [clr], by simp⟩
        exact hsame.putd hd (by simp only [R]; exact ⟨#[], rfl, by simp [Rv]⟩)
    · by_cases hz : h - l = 0
      · have hclr : clr rows l h (z.cells.toList.map .sc) = rows := by
          unfold clr
          rw [show min h rows.length - l = 0 by omega, show max l h = l by omega]
          simp
        refine wp_value (v := .tuple #[]) (w' := w) ?_ (hn _ _ ⟨κ, ?_⟩)
        · rw [hz] at hv
          cases ad <;> simp [execOp, ho, resolve, invoke, builtin, hv, Builtin.clear_, run_underlying ht.und]
        · have hsame : G C κ { s with ob := (id, some (.arr e' sz (clr rows l h (z.cells.toList.map .sc)))) :: s.ob } a w := by
            rw [hclr]
            obtain ⟨k, hk, hro⟩ := hg.obj hb
            exact hg.write hk (o := .arr e' sz rows) rfl (fun _ _ => rfl) ⟨rfl, rfl, rfl⟩ hro
          exact hsame.putd hd (by simp only [R]; exact ⟨#[], rfl, by simp [Rv]⟩)
      · have had := d1 (by omega)
        subst had
        have hzl := zeroCells_list (z := z) (n := h - l) (by omega)
        have hul : ((List.replicate (h - l) z.cells.toList).flatten).length = (h - l) * sz := by
          rw [flat_len (sz := sz) (fun r hr => by rw [(List.mem_replicate.1 hr).2]; simpa using hsz)]; simp
        have hfit : l * sz + ((List.replicate (h - l) z.cells.toList).flatten).length ≤ cap * sz := by
          rw [hul, ← Nat.add_mul]; exact Nat.mul_le_mul_right _ (by omega)
        have h1' : ∀ v ∈ (List.replicate (h - l) z.cells.toList).flatten, v.oneCell' = true := by
          intro v hv
          obtain ⟨r, hr, hv⟩ := List.mem_flatten.1 hv
          rw [(List.mem_replicate.1 hr).2] at hv
          exact List.all_eq_true.1 h1 v hv
        have hst := run_store_at (P := P) (w := w) (p := l * sz) hO.hh (by rw [hO.cs]; exact hfit) h1'
        refine wp_value (v := .tuple #[]) ?_ (hn _ _ ⟨κ, (hg.rewr hO (rows' := clr rows l h (z.cells.toList.map .sc)) (us := (List.replicate (h - l) z.cells.toList).flatten) (p := l * sz) hfit ?_ ?_ ?_ h1').putd hd ?_⟩)
        · have hne : ∃ m, h - l = m + 1 := ⟨h - l - 1, by omega⟩
          obtain ⟨m, hm⟩ := hne
          rw [hm] at hv hst hzl ⊢
          simp [execOp, ho, resolve, invoke, builtin, hv, Builtin.clear_, run_underlying ht.und, run_zero (P := P) (T := e) (z := z) (w := w) (by simp [hi', hiz]), hzl, hst]
        · unfold clr
          simp only [List.length_append, List.length_take, List.length_replicate, List.length_drop]
          omega
        · have hrl := fun r hr => (hO.rl r hr).1
          unfold clr
          simp only [List.flatten_append]
          rw [flat_take hrl, flat_drop hrl, hul]
          have e1 : l * sz + (h - l) * sz = max l h * sz := by rw [← Nat.add_mul]; congr 1; omega
          rw [e1]
          refine Rv_append (Rv_append (Rv_take hO.rv _) ?_) (Rv_drop hO.rv _)
          have e2 : ((List.replicate (h - l) z.cells.toList).flatten).take (rows.length * sz - l * sz) = (List.replicate (min h rows.length - l) z.cells.toList).flatten := by
            rw [← Nat.sub_mul, ← flat_take (sz := sz) (fun r hr => by rw [(List.mem_replicate.1 hr).2]; simpa using hsz), List.take_replicate]
            congr 2; omega
          rw [e2]
          generalize min h rows.length - l = m
          induction m with
          | zero => simp [Rv]
          | succ m ih =>
            rw [List.replicate_succ, List.replicate_succ, List.flatten_cons, List.flatten_cons]
            refine Rv_append ?_ ih
            have : ∀ us : List Value, Rv w (OW C κ) κ (us.map .sc) us := by
              intro us
              induction us with
              | nil => simp [Rv]
              | cons u us ih => simp only [List.map_cons, Rv]; exact ⟨u, us, rfl, by simp [R], ih⟩
            exact this _
        · intro r hr
          unfold clr at hr
          rcases List.mem_append.1 hr with hr | hr
          · rcases List.mem_append.1 hr with hr | hr
            · exact hO.rl r (List.mem_of_mem_take hr)
            · rw [(List.mem_replicate.1 hr).2]
              exact ⟨by simpa using hsz, by simp [AV.im]⟩
          · exact hO.rl r (List.mem_of_mem_drop hr)
        · simp only [R]; exact ⟨#[], rfl, by simp [Rv]⟩
  | app_vw ho hd' ht hx hy hb h1 h3 h4 he hne =>
    rename_i T x y e sz by_ z id h c l2 h2 c2 e' rows d
    subst he
    have hfr : s.fresh C.ob0 d := (hf (d, _) (List.mem_cons_self ..)).resolve_left (by simpa using hne)
    obtain ⟨i, hi', his, hib, hiz⟩ := ht.info
    rcases vw_own hg hx hb with ⟨hv, hk, hr', _, rfl, rfl⟩ | ⟨g, cap, cur, ad, hO, a1, a2, a3, hv, d1, d2⟩
    · rcases vw_own hg hy hb with ⟨hv2, _, _, rfl, rfl, rfl⟩ | ⟨g, cap, cur, ad, hO, a1, a2, a3, hv2, d1, d2⟩
      · subst hr'
        refine wp_value (v := .slice none 0 0) (w' := w) ?_ (hn _ _ ⟨(κ.set id none).set d (some (.arr (.slice none 0 0))), ?_⟩)
        · simp [execOp, ho, resolve, invoke, builtin, hv, hv2, Builtin.append_, run_underlying ht.und, run_size (P := P) (T := e) (n := sz) (by simp [hi', his]), Builtin.lenOf, Builtin.firstCells]
        · have hgc := hg.swap hk hfr hne (w' := w) (k := .arr (.slice none 0 0)) (o := .arr e sz (([] : List (List AV)).take 0 ++ (([] : List (List AV)).drop 0).take (0 - 0))) (Nat.le_refl _) (fun _ _ _ => rfl) ⟨rfl, rfl, rfl⟩ (fun b hb => .inl hb)
            (fun _ => ⟨_, [], rfl, by simpa using World.ownsRow_nil w 0 e sz, by simp [Rv], by simp, by simp⟩)
          refine hgc.putd hd ?_
          simp only [R]
          exact ⟨rfl, fun k hk => by simp [Kap.set] at hk; subst hk; exact ⟨none, 0, 0, rfl, by simp, by simp, by simp, none, by simp⟩⟩
      · rw [hO.k] at hk; simp at hk
    · have had := d2 rfl
      subst had
      simp only [Nat.sub_zero] at hv
      rcases vw_own hg hy hb with ⟨_, hk, _⟩ | ⟨g', cap', cur', ad2, hO', b1, b2, b3, hv2, d3, d4⟩
      · rw [hO.k] at hk; simp at hk
      · have hkk := hO'.k
        rw [hO.k] at hkk
        simp only [Option.some.injEq, KO.arr.injEq, Value.slice.injEq, Addr.mk.injEq, and_true, true_and] at hkk
        obtain ⟨rfl, rfl⟩ := hkk
        have hh' := hO'.hh
        rw [hO.hh] at hh'
        simp only [Option.some.injEq, Obj.cells.injEq, and_true] at hh'
        subst hh'
        have hrl := fun r hr => (hO.rl r hr).1
        have hm1 : l2 * sz + (h2 - l2) * sz ≤ rows.length * sz := by rw [← Nat.add_mul]; exact Nat.mul_le_mul_right _ (by omega)
        obtain ⟨us, u0, u1, u2, u3, u4⟩ := hO.cells (p := l2 * sz) (m := (h2 - l2) * sz) hm1
        have hcl : cur.toList.length = cap * sz := by have := hO.cs; rw [Array.length_toList]; exact this
        have hfit : h * sz + us.length ≤ cap * sz := by rw [u1, ← Nat.add_mul]; exact Nat.mul_le_mul_right _ (by omega)
        have hsz0 : 0 < sz := ht.2.2.2
        have htk := take_wr (us := us) (p := h * sz) (N := (h + (h2 - l2)) * sz) (rfl : cur.toList.take ((h + (h2 - l2)) * sz) = _) (by rw [hcl]; exact Nat.mul_le_mul_right _ (by omega))
        have htk2 : (cur.toList.take (h * sz) ++ us ++ cur.toList.drop (h * sz + us.length)).take ((h + (h2 - l2)) * sz) = (cur.toList.take (rows.length * sz)).take (h * sz) ++ us := by
          have f1 : (cur.toList.take ((h + (h2 - l2)) * sz)).take (h * sz) = (cur.toList.take (rows.length * sz)).take (h * sz) := by
            rw [List.take_take, List.take_take, Nat.min_eq_left (Nat.mul_le_mul_right _ (by omega)), Nat.min_eq_left (Nat.mul_le_mul_right _ h1)]
          have f2 : us.take ((h + (h2 - l2)) * sz - h * sz) = us := List.take_of_length_le (by rw [u1, Nat.add_mul]; omega)
          have f3 : (cur.toList.take ((h + (h2 - l2)) * sz)).drop (h * sz + us.length) = [] := List.drop_eq_nil_of_le (by rw [List.length_take, hcl, u1, Nat.add_mul]; omega)
          rw [htk, f1, f2, f3, List.append_nil]
        have hres : ∃ w', (Builtin.append_ #[T, T] o.type #[.slice (some ⟨g, 0, none⟩) h cap, .slice ad2 (h2 - l2) (cap - l2)]).run P w = .ok (.slice (some ⟨g, 0, none⟩) (h + (h2 - l2)) cap) w' ∧
            (w' = w ∧ us = [] ∨ w' = w.setRow g (cur.toList.take (h * sz) ++ us ++ cur.toList.drop (h * sz + us.length)).toArray) := by
          by_cases hz : l2 < h2
          · have := d3 (by omega)
            subst this
            exact ⟨_, run_append_room (P := P) (w := w) T o.type e i ht.und hi' g h cap cur hO.hh ⟨g, l2 * sz, none⟩ (h2 - l2) (cap - l2) us (by rw [his]; exact u1) u2 u3 (by omega) (by rw [his]; have := hO.cs; omega), by rw [his]; exact .inr rfl⟩
          · have e0 : h2 - l2 = 0 := by omega
            have hus : us = [] := List.eq_nil_of_length_eq_zero (by rw [u1, e0]; simp)
            refine ⟨w, ?_, .inl ⟨rfl, hus⟩⟩
            rw [e0]
            have hle : h ≤ cap := by omega
            cases ad2 <;> simp [Builtin.append_, run_underlying ht.und, run_size (P := P) (T := e) (n := sz) (by simp [hi', his]), Builtin.lenOf, Builtin.firstCells, hle, storeCells]
            have := run_loadCells_list (P := P) w (by assumption) [] (by simp)
            simp at this
            simp [this, storeCells]
        obtain ⟨w', hrun, hw'⟩ := hres
        have hrows : (rows.take h ++ (rows.drop l2).take (h2 - l2)).length = h + (h2 - l2) := by simp; omega
        have hnew : ∀ cur' : Array Value, cur'.toList.take ((h + (h2 - l2)) * sz) = (cur.toList.take (rows.length * sz)).take (h * sz) ++ us →
            Rv w (OW C κ) κ (rows.take h ++ (rows.drop l2).take (h2 - l2)).flatten (cur'.toList.take ((h + (h2 - l2)) * sz)) ∧ ∀ v ∈ cur'.toList.take ((h + (h2 - l2)) * sz), v.oneCell' = true := by
          intro cur' he
          rw [he]
          refine ⟨?_, ?_⟩
          · rw [List.flatten_append, flat_take hrl, flat_take (sz := sz) (fun r hr => hrl r (List.mem_of_mem_drop hr)), flat_drop hrl]
            exact Rv_append (Rv_take hO.rv _) u4
          · intro v hv
            rcases List.mem_append.1 hv with hv | hv
            · exact hO.one v (List.mem_of_mem_take hv)
            · exact u3 v hv
        have hl' : ∀ r ∈ rows.take h ++ (rows.drop l2).take (h2 - l2), r.length = sz ∧ r.all AV.im = true := by
          intro r hr
          rcases List.mem_append.1 hr with hr | hr
          · exact hO.rl r (List.mem_of_mem_take hr)
          · exact hO.rl r (List.mem_of_mem_drop (List.mem_of_mem_take hr))
        have hfin : G C ((κ.set id none).set d (some (.arr (.slice (some ⟨g, 0, none⟩) (h + (h2 - l2)) cap)))) { s with ob := [(d, some (.arr e sz (rows.take h ++ (rows.drop l2).take (h2 - l2)))), (id, none)] ++ s.ob } a w' := by
          rcases hw' with ⟨rfl, hus⟩ | hw'
          · have he : cur.toList.take ((h + (h2 - l2)) * sz) = (cur.toList.take (rows.length * sz)).take (h * sz) ++ us := by
              have : (h2 - l2) * sz = 0 := by rw [← u1, hus]; rfl
              rw [hus, List.append_nil, List.take_take, Nat.min_eq_left (Nat.mul_le_mul_right _ h1), Nat.add_mul, this, Nat.add_zero]
            obtain ⟨n1, n2⟩ := hnew cur he
            exact hg.take_over (n := 0) hne hfr hO (.inl ⟨rfl, rfl⟩) hO.cs (by omega) hrows n1 hl' n2 rfl rfl
          · obtain ⟨n1, n2⟩ := hnew (cur.toList.take (h * sz) ++ us ++ cur.toList.drop (h * sz + us.length)).toArray (by rw [List.toList_toArray]; exact htk2)
            refine hg.take_over (n := 0) hne hfr hO (.inr hw') ?_ (by omega) hrows n1 hl' n2 rfl rfl
            simp only [List.size_toArray, List.length_append, List.length_take, List.length_drop, hcl]; omega
        refine wp_value (v := .slice (some ⟨g, 0, none⟩) (h + (h2 - l2)) cap) (w' := w') ?_ (hn _ _ ⟨_, hfin.putd hd ?_⟩)
        · simp [execOp, ho, resolve, invoke, builtin, hv, hv2, hrun]
        · simp only [R]
          refine ⟨rfl, fun k hk => ?_⟩
          simp [Kap.set] at hk
          subst hk
          exact ⟨_, _, cap, rfl, by omega, h4, by omega, _, by simp, fun _ => by simp [Addr.add_lit], fun _ => rfl⟩
  | own_vw ho hd' hx hb h1 hne =>
    rename_i x sz id h c e' rows d
    have hfr : s.fresh C.ob0 d := (hf (d, _) (List.mem_cons_self ..)).resolve_left (by simpa using hne)
    rcases vw_own hg hx hb with ⟨hv, hk, hr', _, rfl, rfl⟩ | ⟨g, cap, cur, ad, hO, a1, a2, a3, hv, d1, d2⟩
    · subst hr'
      refine wp_value (v := .slice none 0 0) (w' := w) ?_ (hn _ _ ⟨(κ.set id none).set d (some (.arr (.slice none 0 0))), ?_⟩)
      · rcases ho with ho | ho <;> simp [execOp, ho, hv]
      · have hgc := hg.swap hk hfr hne (w' := w) (k := .arr (.slice none 0 0)) (o := .arr e' sz ([].take 0)) (Nat.le_refl _) (fun _ _ _ => rfl) ⟨rfl, rfl, rfl⟩ (fun b hb => .inl hb)
          (fun _ => ⟨_, [], rfl, by simpa using World.ownsRow_nil w 0 e' sz, by simp [Rv], by simp, by simp⟩)
        refine hgc.putd hd ?_
        simp only [R]
        exact ⟨rfl, fun k hk => by simp [Kap.set] at hk; exact hk.symm⟩
    · have had := d2 rfl
      subst had
      simp only [Nat.sub_zero] at hv
      refine wp_value (v := .slice (some ⟨g, 0, none⟩) h cap) (w' := w) ?_ (hn _ _ ⟨(κ.set id none).set d (some (.arr (.slice (some ⟨g, 0, none⟩) h cap))), ?_⟩)
      · rcases ho with ho | ho <;> simp [execOp, ho, hv]
      · have hrl := fun r hr => (hO.rl r hr).1
        have htt : (cur.toList.take (rows.length * sz)).take (h * sz) = cur.toList.take (h * sz) := by
          rw [List.take_take, Nat.min_eq_left (Nat.mul_le_mul_right _ h1)]
        have hgc := hg.take_over (n := 0) hne hfr hO (rows' := rows.take h) (m := h) (.inl ⟨rfl, rfl⟩) hO.cs (by omega) (by simp; omega)
          (by rw [flat_take hrl, ← htt]; exact Rv_take hO.rv _) (fun r hr => hO.rl r (List.mem_of_mem_take hr)) (fun v hv => hO.one v (List.mem_of_mem_take (by rw [htt]; exact hv))) rfl rfl
        refine hgc.putd hd ?_
        simp only [R]
        exact ⟨rfl, fun k hk => by simp [Kap.set] at hk; exact hk.symm⟩
  | copy_hl ho ht hx hb hy h1 hi =>
    rename_i T S x y e sz by_ z id e' rows news
    obtain ⟨i, hi', his, hib, hiz⟩ := ht.info
    have hY := hg.ev y; rw [hy] at hY
    obtain ⟨ad, c, us, hyv, hul, hus, hnone, hu1, huR, hnl⟩ := news_vals hY h1
    rcases hnd_own (sz := sz) hg hx hb with ⟨hv, hk, hr⟩ | ⟨g, cap, cur, hO, hv⟩
    · subst hr
      refine wp_value (v := .int .i64 0) (w' := w) ?_ (hn _ _ ⟨κ, ?_⟩)
      · have := run_loadCells_list (P := P) w
        cases ad with
        | none => simp [execOp, ho, resolve, invoke, builtin, hv, hyv, Builtin.copy_, run_underlying ht.und, run_size (P := P) (T := e) (n := sz) (by simp [hi', his]), Builtin.lenOf, Builtin.firstCells, goInt]
        | some ad =>
          have := this ad [] (by simp)
          simp only [List.length_nil] at this
          simp [execOp, ho, resolve, invoke, builtin, hv, hyv, Builtin.copy_, run_underlying ht.und, run_size (P := P) (T := e) (n := sz) (by simp [hi', his]), Builtin.lenOf, Builtin.firstCells, this, goInt]
      · have hsame : G C κ { s with ob := (id, some (.arr e' sz (news.take ([] : List (List AV)).length ++ ([] : List (List AV)).drop news.length))) :: s.ob } a w :=
          hg.write hk (o := .arr e' sz _) rfl (fun _ _ => rfl) ⟨rfl, rfl, rfl⟩ ⟨_, [], rfl, by simpa using World.ownsRow_nil w 0 e' sz, by simp [Rv], by simp, by simp⟩
        exact hsame.putd hd (by simp [R])
    · have hlen : (min news.length rows.length) * sz ≤ us.length := by rw [hul]; exact Nat.mul_le_mul_right _ (by omega)
      have hul' : (us.take ((min news.length rows.length) * sz)).length = (min news.length rows.length) * sz := by rw [List.length_take]; omega
      have hfit : 0 + (us.take ((min news.length rows.length) * sz)).length ≤ cap * sz := by rw [hul', Nat.zero_add]; exact Nat.mul_le_mul_right _ (by have := hO.nc; omega)
      have h1' : ∀ v ∈ us.take ((min news.length rows.length) * sz), v.oneCell' = true := fun v hv => hu1 v (List.mem_of_mem_take hv)
      have hst := run_store_at (P := P) (w := w) (p := 0) hO.hh (by rw [hO.cs]; exact hfit) h1'
      have hfc : (Builtin.firstCells sz (min news.length rows.length) (.slice ad news.length c)).run P w = .ok (us.take ((min news.length rows.length) * sz)).toArray w := by
        cases ad with
        | none =>
          have h0 := hnone rfl
          have : us = [] := List.eq_nil_of_length_eq_zero (by rw [hul, h0]; simp)
          subst this
          simp [Builtin.firstCells]
        | some ad => exact run_firstCells_some w sz _ ad _ _ _ hul' (fun j v hj => hus ad rfl j v (by
            rw [List.getElem?_take] at hj
            split at hj
            · exact hj
            · cases hj))
      have hnl' : ∀ r ∈ news, r.length = sz := hnl
      refine wp_value (v := .int .i64 (min news.length rows.length : Nat)) ?_ (hn _ _ ⟨κ, (hg.rewr hO (rows' := news.take rows.length ++ rows.drop news.length) (us := us.take ((min news.length rows.length) * sz)) (p := 0) hfit ?_ ?_ ?_ h1').putd hd (by simp [R])⟩)
      · have hmin : Nat.min news.length rows.length = min news.length rows.length := rfl
        simp [execOp, ho, resolve, invoke, builtin, hv, hyv, Builtin.copy_, run_underlying ht.und, run_size (P := P) (T := e) (n := sz) (by simp [hi', his]), Builtin.lenOf, hmin, hfc, hst, goInt]
      · simp only [List.length_append, List.length_take, List.length_drop]; omega
      · have hrl := fun r hr => (hO.rl r hr).1
        rw [List.flatten_append, flat_take hnl', flat_drop hrl, hul', Nat.zero_add, List.take_zero, List.nil_append, Nat.sub_zero]
        refine Rv_append ?_ ?_
        · have e1 : (us.take ((min news.length rows.length) * sz)).take (rows.length * sz) = us.take (rows.length * sz) := by
            rw [List.take_take]
            by_cases hc : news.length ≤ rows.length
            · rw [List.take_of_length_le (i := min (rows.length * sz) (min news.length rows.length * sz)), List.take_of_length_le (i := rows.length * sz)]
              · rw [hul]; exact Nat.mul_le_mul_right _ hc
              · rw [hul, Nat.min_eq_left hc]
                have := Nat.mul_le_mul_right sz hc
                omega
            · have hmm : min news.length rows.length = rows.length := Nat.min_eq_right (by omega)
              rw [hmm, Nat.min_self]
          rw [e1]
          exact Rv_take (Rv_of_RIv _ _ huR) _
        · have e2 : (cur.toList.take (rows.length * sz)).drop (min news.length rows.length * sz) = (cur.toList.take (rows.length * sz)).drop (news.length * sz) := by
            by_cases hc : news.length ≤ rows.length
            · rw [Nat.min_eq_left hc]
            · rw [List.drop_eq_nil_of_le, List.drop_eq_nil_of_le]
              · have h1 := hO.len; rw [h1]; exact Nat.mul_le_mul_right _ (by omega)
              · have h1 := hO.len; rw [h1]; exact Nat.mul_le_mul_right _ (by omega)
          rw [e2]
          exact Rv_drop hO.rv _
      · intro r hr
        rcases List.mem_append.1 hr with hr | hr
        · have hr := List.mem_of_mem_take hr
          exact ⟨hnl r hr, List.all_eq_true.2 fun x hx => List.all_eq_true.1 hi x (List.mem_flatten.2 ⟨r, hr, hx⟩)⟩
        · exact hO.rl r (List.mem_of_mem_drop hr)
  | copy_vv ho ht hx hy hb h1 h3 =>
    rename_i T S x y e sz by_ z id l h c l2 h2 c2 e' rows
    obtain ⟨i, hi', his, hib, hiz⟩ := ht.info
    generalize hm : min (h2 - l2) (h - l) = m at *
    rcases vw_own hg hx hb with ⟨hv, hk, hr', rfl, rfl, rfl⟩ | ⟨g, cap, cur, ad, hO, a1, a2, a3, hv, d1, d2⟩
    · rcases vw_own hg hy hb with ⟨hv2, _, _, rfl, rfl, rfl⟩ | ⟨g, cap, cur, ad, hO, a1, a2, a3, hv2, d1, d2⟩
      · subst hr'
        have : m = 0 := by omega
        subst this
        refine wp_value (v := .int .i64 0) (w' := w) ?_ (hn _ _ ⟨κ, ?_⟩)
        · simp [execOp, ho, resolve, invoke, builtin, hv, hv2, Builtin.copy_, run_underlying ht.und, run_size (P := P) (T := e) (n := sz) (by simp [hi', his]), Builtin.lenOf, Builtin.firstCells, goInt]
        · have hsame : G C κ { s with ob := (id, some (.arr e' sz ((([] : List (List AV)).take 0 ++ (([] : List (List AV)).drop 0).take 0 ++ ([] : List (List AV)).drop (0 + 0))))) :: s.ob } a w :=
            hg.write hk (o := .arr e' sz _) rfl (fun _ _ => rfl) ⟨rfl, rfl, rfl⟩ ⟨_, [], rfl, by simpa using World.ownsRow_nil w 0 e' sz, by simp [Rv], by simp, by simp⟩
          exact hsame.putd hd (by simp [R])
      · rw [hO.k] at hk; simp at hk
    · rcases vw_own hg hy hb with ⟨_, hk, _⟩ | ⟨g', cap', cur', ad2, hO', b1, b2, b3, hv2, d3, d4⟩
      · rw [hO.k] at hk; simp at hk
      · have hkk := hO'.k
        rw [hO.k] at hkk
        simp only [Option.some.injEq, KO.arr.injEq, Value.slice.injEq, Addr.mk.injEq, and_true, true_and] at hkk
        obtain ⟨rfl, rfl⟩ := hkk
        have hh' := hO'.hh
        rw [hO.hh] at hh'
        simp only [Option.some.injEq, Obj.cells.injEq, and_true] at hh'
        subst hh'
        have hrl := fun r hr => (hO.rl r hr).1
        have hm1 : l2 * sz + m * sz ≤ rows.length * sz := by rw [← Nat.add_mul]; exact Nat.mul_le_mul_right _ (by omega)
        obtain ⟨us, u0, u1, u2, u3, u4⟩ := hO.cells (p := l2 * sz) (m := m * sz) hm1
        have hfit : l * sz + us.length ≤ cap * sz := by rw [u1, ← Nat.add_mul]; exact Nat.mul_le_mul_right _ (by omega)
        have hst := run_store_at (P := P) (w := w) (p := l * sz) hO.hh (by rw [hO.cs]; exact hfit) u3
        have hnc := hO.nc
        have hrows : (rows.take l ++ (rows.drop l2).take m ++ rows.drop (l + m)).length = rows.length := by simp only [List.length_append, List.length_take, List.length_drop]; omega
        have hG := hg.rewr hO (rows' := rows.take l ++ (rows.drop l2).take m ++ rows.drop (l + m)) (us := us) (p := l * sz) hfit hrows
          (by
            rw [List.flatten_append, List.flatten_append, flat_take hrl, flat_take (sz := sz) (fun r hr => hrl r (List.mem_of_mem_drop hr)), flat_drop hrl, flat_drop hrl, u1]
            rw [List.take_of_length_le (l := us) (by rw [u1, ← Nat.sub_mul]; exact Nat.mul_le_mul_right _ (by omega)), ← Nat.add_mul]
            exact Rv_append (Rv_append (Rv_take hO.rv _) u4) (Rv_drop hO.rv _))
          (by
            intro r hr
            rcases List.mem_append.1 hr with hr | hr
            · rcases List.mem_append.1 hr with hr | hr
              · exact hO.rl r (List.mem_of_mem_take hr)
              · exact hO.rl r (List.mem_of_mem_drop (List.mem_of_mem_take hr))
            · exact hO.rl r (List.mem_of_mem_drop hr)) u3
        by_cases hz : m = 0
        · subst hz
          have hus : us = [] := List.eq_nil_of_length_eq_zero (by rw [u1]; simp)
          have hfc : (Builtin.firstCells sz 0 (.slice ad2 (h2 - l2) (cap - l2))).run P w = .ok #[] w := by
            cases ad2 with
            | none => simp [Builtin.firstCells]
            | some q => exact run_firstCells_some w sz 0 q _ _ [] (by simp) (by simp)
          have hst0 : ∀ q, (storeCells q []).run P w = .ok () w := fun q => by simp [storeCells]
          have hsame : w.setRow g (cur.toList.take (l * sz) ++ us ++ cur.toList.drop (l * sz + us.length)).toArray = w := by
            rw [hus, List.append_nil, List.length_nil, Nat.add_zero, List.take_append_drop, Array.toArray_toList]
            exact setRow_self w g cur _ _ hO.hh
          rw [hsame] at hG
          refine wp_value (v := .int .i64 (0 : Nat)) (w' := w) ?_ (hn _ _ ⟨κ, hG.putd hd (by simp [R])⟩)
          have hmin : Nat.min (h2 - l2) (h - l) = 0 := hm
          cases ad <;> simp [execOp, ho, resolve, invoke, builtin, hv, hv2, Builtin.copy_, run_underlying ht.und, run_size (P := P) (T := e) (n := sz) (by simp [hi', his]), Builtin.lenOf, hmin, hfc, hst0, goInt]
        · have e1 := d1 (by omega)
          have e2 := d3 (by omega)
          subst e1; subst e2
          have hfc : (Builtin.firstCells sz m (.slice (some ⟨g, l2 * sz, none⟩) (h2 - l2) (cap - l2))).run P w = .ok us.toArray w := run_firstCells_some w sz m _ _ _ us u1 u2
          have hmin : Nat.min (h2 - l2) (h - l) = m := hm
          refine wp_value (v := .int .i64 (m : Nat)) ?_ (hn _ _ ⟨κ, hG.putd hd (by simp [R])⟩)
          simp [execOp, ho, resolve, invoke, builtin, hv, hv2, Builtin.copy_, run_underlying ht.und, run_size (P := P) (T := e) (n := sz) (by simp [hi', his]), Builtin.lenOf, hmin, hfc, hst, goInt]
  | strix ho hT hi h0 hb =>
    rename_i T bs i k n b
    have hI := ev_int hg hi
    refine quiet hg hd hn (u := .int .u8 b.toNat) ?_ (by simp [R])
    have h2 : bs[n.toNat]? = some b := by
      have h3 := (List.getElem?_eq_some_iff.1 hb)
      obtain ⟨h4, h5⟩ := h3
      have h6 : n.toNat < bs.size := by simpa using h4
      rw [getElem?_pos bs n.toNat h6, ← h5]
      rfl
    have hc : a.eval (.const (.string bs)) = .string bs := rfl
    simp [execOp, ho, hI, hc, Instr.index, asIntOf, run_underlying hT, h0, h2]
  | nil_fz ho hx =>
    rename_i x cells off
    have hR := hg.ev x; rw [hx] at hR
    simp only [R, RI] at hR
    obtain ⟨b, p, hu, hb, ho', hc⟩ := hR
    refine quiet hg hd hn (u := a.eval x) ?_ (by simp only [R, RI]; exact ⟨b, p, hu, hb, ho', hc⟩)
    simp [execOp, ho, hu]
  | mk_map ho hd' =>
    rename_i T d
    have hfr : s.fresh C.ob0 d := (hf (d, _) (List.mem_singleton.2 rfl)).resolve_left (by simp)
    refine wp_value (v := .map (some w.heap.size)) (w' := w.alloc (.map #[] 0)) ?_ (hn _ _ ⟨κ.set d (some (.arr (.map (some w.heap.size)))), ?_⟩)
    · simp [execOp, ho, Instr.makeMap]
    · have hgc := hg.create hfr (w' := w.alloc (.map #[] 0)) (k := .arr (.map (some w.heap.size))) (o := .mp []) (by simp) (fun b hb => heap_alloc_old w _ b hb) ⟨rfl, rfl, rfl⟩
        (fun b hb => by simp [KO.blk, vblk] at hb; omega) ⟨_, #[], 0, rfl, heap_alloc_new w _, rfl⟩
      refine hgc.putd hd ?_
      simp only [R]
      exact ⟨rfl, fun k hk => by simp [Kap.set] at hk; exact hk.symm⟩
  | lookup ho hT hm hb hk =>
    rename_i T m k id xs p
    obtain ⟨K, E, e, t1, t2, t3, t4, t5, t6, t7⟩ := hT
    have hM := hg.ev m; rw [hm] at hM; simp only [R] at hM
    have hK := hg.ev k; rw [hk] at hK; simp only [R, Rv] at hK
    obtain ⟨ko, hko, b, arr, cl, rfl, hh, he⟩ := hg.obj hb
    have hmv := hM.2 _ hko
    simp only [KO.arr.injEq] at hmv
    obtain ⟨vs, hkv, v1, r1, e1, rfl, v2, r2, e2, rfl, e3⟩ := hK
    have hvs : vs = #[.int .i64 p.1, .int .i64 p.2] := by
      apply Array.toList_inj.1
      rw [e1, e2, e3]
    subst hvs
    obtain ⟨r, hr, hc⟩ := run_findKey (w := w) t2 t3 t4 (p := p) (es := arr.toList) he
    have hck := run_checkKey (P := P) (w := w) t2 t3 t4 (p := p) (b := arr.isEmpty)
    refine quiet hg hd hn (u := .bool (xs.contains p)) ?_ (by simp [R])
    simp only [prV] at hr hck
    rcases hc with ⟨c1, c2⟩ | ⟨c1, j, q, c2, c3, c4⟩
    · subst c2
      simp [execOp, ho, ← hmv, hkv, Instr.lookup, run_underlying t1, run_getObj_mp hh, hck, hr, run_zero t5]
      simpa using c1
    · subst c4
      simp [execOp, ho, ← hmv, hkv, Instr.lookup, run_underlying t1, run_getObj_mp hh, hck, hr]
      simpa using c1
  | put ho hT hm hb hk hv =>
    rename_i T m k v id xs p
    obtain ⟨K, E, e, t1, t2, t3, t4, t5, t6, t7⟩ := hT
    have hM := hg.ev m; rw [hm] at hM; simp only [R] at hM
    have hK := hg.ev k; rw [hk] at hK; simp only [R, Rv] at hK
    have hV := hg.ev v; rw [hv] at hV; simp only [R] at hV
    obtain ⟨ko, hko, b, arr, cl, rfl, hh, he⟩ := hg.obj hb
    have hmv := hM.2 _ hko
    simp only [KO.arr.injEq] at hmv
    obtain ⟨vs, hkv, v1, r1, e1, rfl, v2, r2, e2, rfl, e3⟩ := hK
    have hvs : vs = #[.int .i64 p.1, .int .i64 p.2] := by
      apply Array.toList_inj.1
      rw [e1, e2, e3]
    subst hvs
    obtain ⟨r, hr, hc⟩ := run_findKey (w := w) t2 t3 t4 (p := p) (es := arr.toList) he
    have hck := run_checkKey (P := P) (w := w) t2 t3 t4 (p := p) (b := false)
    simp only [prV] at hr hck
    have hblk : b < w.heap.size := (Array.getElem?_eq_some_iff.1 hh).1
    have fin : ∀ (arr' : Array MapEntry) (cl' : Nat), arr'.toList.map (fun e => (e.key, e.val)) = (if xs.contains p then xs else xs ++ [p]).map prV →
        G C κ { s with ob := (id, some (.mp ((if xs.contains p then xs else xs ++ [p]).map prV))) :: s.ob } a { w with heap := w.heap.setIfInBounds b (.map arr' cl') } := by
      intro arr' cl' h
      refine hg.write hko (o := .mp _) (by simp) (fun b' hb' => ?_) ⟨rfl, rfl, rfl⟩ ⟨b, arr', cl', rfl, ?_, h⟩
      · have : b ≠ b' := fun e => hb' (by subst e; rfl)
        simp [Array.getElem?_setIfInBounds, this]
      · simp [hblk]
    rcases hc with ⟨c1, c2⟩ | ⟨c1, j, q, c2, c3, c4⟩
    · subst c2
      refine wp_unit (w' := { w with heap := w.heap.setIfInBounds b (.map (arr.push { key := .agg #[.int .i64 p.1, .int .i64 p.2], val := .bool true, born := cl }) (cl + 1)) }) ?_ (hn _ _ ⟨κ, (fin _ _ ?_).putd hd (by simp [R])⟩)
      · simp [execOp, ho, ← hmv, hkv, hV, Instr.mapUpdate, run_underlying t1, run_getObj_mp hh, hck, hr, run_setObj_mp _ hh]
      · rw [if_neg (by simpa using c1)]
        simp [he, prV]
    · subst c4
      have hj : j < arr.size := by
        have h1 := (List.getElem?_eq_some_iff.1 c2).1
        have h2 := congrArg List.length he
        simp at h2; omega
      have hkey : arr[j].key = .agg #[.int .i64 p.1, .int .i64 p.2] ∧ arr[j].val = .bool true := by
        have h1 := congrArg (fun l => l[j]?) he
        simp only [List.getElem?_map, c2, Option.map_some] at h1
        have h2 : arr.toList[j]? = some arr[j] := by simp [hj]
        rw [h2] at h1
        simp only [Option.map_some, Option.some.injEq, prV, Prod.mk.injEq, c3] at h1
        exact h1
      have hsb : Instr.sameBits 10000 (.agg #[.int .i64 p.1, .int .i64 p.2]) (.agg #[.int .i64 p.1, .int .i64 p.2]) = true := by
        rw [show (10000 : Nat) = 9998 + 1 + 1 from rfl]
        simp [Instr.sameBits]
      have hkeep : (Instr.keyThatStays (.agg #[.int .i64 p.1, .int .i64 p.2]) (.agg #[.int .i64 p.1, .int .i64 p.2])).run P w = .ok (.agg #[.int .i64 p.1, .int .i64 p.2]) w := by
        unfold Instr.keyThatStays
        rw [if_pos hsb]
        simp
      refine wp_unit (w' := { w with heap := w.heap.setIfInBounds b (.map (arr.modify j fun e => { e with key := .agg #[.int .i64 p.1, .int .i64 p.2], val := .bool true }) cl) }) ?_ (hn _ _ ⟨κ, (fin _ _ ?_).putd hd (by simp [R])⟩)
      · simp [execOp, ho, ← hmv, hkv, hV, Instr.mapUpdate, run_underlying t1, run_getObj_mp hh, hck, hr, hj, hkey.1, hkeep, run_setObj_mp _ hh]
      · rw [if_pos c1, ← he]
        apply List.ext_getElem?
        intro q
        simp only [List.getElem?_map, Array.getElem?_toList, Array.getElem?_modify]
        by_cases hq : j = q
        · subst hq
          simp [hj, hkey]
        · simp [hq]
end
end Go.Proofs.YthlchdnbokhclaaGreat.Ql
namespace Go.Proofs.YthlchdnbokhclaaGreat.Ql
open Go
section
variable {P : Program} {C : Ctx} {κ : Kap} {s : AS} {a : Act} {w : World} {o : Oper}
theorem Ax.sound {rd : List Nat} {v : AV} {wr : List (Nat × Option AO)} (hax : Ax P o (Ql.ev s.tm) (lo s.ob) rd v wr) (hg : G C κ s a w) (hd : ∀ d, o.dst = some d → d < C.n)
    (hf : ∀ p ∈ wr, p.1 ∈ rd ∨ s.fresh C.ob0 p.1) {next : Act → World → Prop} {Q : Exit → Act → World → Prop} (hn : Fin C s o v wr next) : o.wp P a w next Q := by
  cases hax with
  | ext h => exact h.sound hg hd hf hn
  | move ho hs =>
    rename_i x
    refine quiet hg hd hn (u := a.eval x) ?_ (hs _ _ _ _ (hg.ev x))
    rcases ho with ho | ho <;> simp [execOp, ho]
  | load_ipt ho hz hx hs hl =>
    rename_i T x n ag cells off cs
    have hR := hg.ev x; rw [hx] at hR
    obtain ⟨b, p, hu, hb, ho', hc⟩ := R_ipt hR
    obtain ⟨vs, hvl, hvc, hvR, hv1⟩ := RIc_vals (RIc_seg hc hs)
    refine quiet hg hd hn ?_ (R_pack (Rv_of_RIv _ _ hvR))
    simp [execOp, ho, hu, Instr.loadAt, Instr.sureAddr, run_loadVar hz (hvl.trans hl) hvc]
  | load_box ho hz hx hb hs hl =>
    rename_i T x n ag id cells off cs
    have hR := hg.ev x; rw [hx] at hR
    obtain ⟨k, hk, b, cur, e, rfl, hh, hv, h1⟩ := hg.obj hb
    simp only [R] at hR
    obtain ⟨b', hb', hu⟩ := hR.2 _ hk
    cases hb'
    have hseg := Rv_seg off n hv
    rw [hs] at hseg
    refine quiet hg hd hn ?_ (R_pack hseg)
    simp [execOp, ho, hu, Instr.loadAt, Instr.sureAddr]
    rw [run_loadVar hz ((Rv_length hseg).trans hl) (fun j v hj => ?_)]
    · rfl
    · rw [List.getElem?_take] at hj
      split at hj
      · rw [List.getElem?_drop] at hj
        rw [cell_of_row w b (off + j) cur e (0, 0) hh]
        simpa using hj
      · cases hj
  | load_arr ho hz hx hb hr hs hl =>
    rename_i T x n ag id e sz i j rows r cs
    have hR := hg.ev x; rw [hx] at hR
    obtain ⟨k, hk, hro⟩ := hg.obj hb
    simp only [R] at hR
    obtain ⟨u, b, rfl, hub, hu⟩ := hR.2 _ hk
    obtain ⟨vs, hvl, hvc, hvR, hv1⟩ := row_vals hro hub hr hs hl
    refine quiet hg hd hn ?_ (R_pack hvR)
    simp [execOp, ho, hu, Instr.loadAt, Instr.sureAddr, run_loadVar hz hvl hvc]
  | field_ipt ho hf' hx =>
    rename_i S x f fo cells off
    have hR := hg.ev x; rw [hx] at hR
    obtain ⟨b, p, hu, hb, ho', hc⟩ := R_ipt hR
    refine quiet hg hd hn (u := .pointer (some ⟨b, p + (off + fo), none⟩)) ?_ (by simp only [R, RI]; exact ⟨b, p, rfl, hb, ho', hc⟩)
    simp [execOp, ho, hu, run_fieldAt hf', Nat.add_assoc]
  | field_ptr ho hf' hx hb =>
    rename_i S x f fo id off ob
    have hR := hg.ev x; rw [hx] at hR
    obtain ⟨k, hk, hro⟩ := hg.obj hb
    simp only [R] at hR
    obtain ⟨b, rfl, hu⟩ := hR.2 _ hk
    refine quiet hg hd hn (u := .pointer (some ⟨b, off + fo, none⟩)) ?_ (by simp only [R]; exact ⟨rfl, fun k hk' => by rw [hk] at hk'; cases hk'; exact ⟨b, rfl, rfl⟩⟩)
    simp [execOp, ho, hu, run_fieldAt hf']
  | field_eptr ho hf' hx hb =>
    rename_i S x f fo id sz i j ob
    have hR := hg.ev x; rw [hx] at hR
    obtain ⟨k, hk, hro⟩ := hg.obj hb
    simp only [R] at hR
    obtain ⟨u, b, rfl, hub, hu⟩ := hR.2 _ hk
    refine quiet hg hd hn (u := .pointer (some ⟨b, i * sz + (j + fo), none⟩)) ?_ (by simp only [R]; exact ⟨rfl, fun k hk' => by rw [hk] at hk'; cases hk'; exact ⟨u, b, rfl, hub, rfl⟩⟩)
    simp [execOp, ho, hu, run_fieldAt hf', Nat.add_assoc]
  | index_lst ho ht hx hi h0 hr =>
    rename_i T x i e sz by_ z rows k n r
    have hR := hg.ev x; rw [hx] at hR
    have hI := hg.ev i; rw [hi] at hI
    simp only [R] at hI
    simp only [R, RI] at hR
    obtain ⟨ad, cap, hu, hcap, hrr⟩ := hR
    have hlen := (List.getElem?_eq_some_iff.1 hr).1
    rcases hrr with rfl | ⟨b, off, rfl, hb, ho', hrows⟩
    · simp at hlen
    · obtain ⟨hrl, hrc⟩ := RIr_get hrows hr
      refine quiet hg hd hn (u := .pointer (some ⟨b, off + n.toNat * sz + 0, none⟩)) ?_ (by simp only [R, RI]; exact ⟨b, _, rfl, hb, ho', hrc⟩)
      simp [execOp, ho, hu, hI, run_indexAt_slice ht h0 hlen]
  | index_hnd ho ht hx hb hi h0 hr =>
    rename_i T x i e sz by_ z id e' rows k n
    have hR := hg.ev x; rw [hx] at hR
    have hI := hg.ev i; rw [hi] at hI
    simp only [R] at hI
    obtain ⟨ko, hk, hro⟩ := hg.obj hb
    simp only [R] at hR
    have hku := hR.2 _ hk
    subst hku
    obtain ⟨u', vals, hu', hown, hv, hl, h1⟩ := hro
    cases hu'
    rcases hown.2 with ⟨_, hz⟩ | ⟨g, cap, cur, hval, hb0, hgg, hnc, hcm, hcs, htk⟩
    · omega
    · refine quiet hg hd hn (u := .pointer (some ⟨g, n.toNat * sz, none⟩)) ?_ ?_
      · simp [execOp, ho, hval, hI, run_indexAt_slice ht h0 hr]
      · simp only [R]
        refine ⟨rfl, fun k' hk' => ?_⟩
        rw [hk] at hk'; cases hk'
        exact ⟨_, g, rfl, by rw [hval]; rfl, by simp⟩
  | index_ipt ho ht hx hi h0 hr =>
    rename_i T x i len esz cells off k n
    have hR := hg.ev x; rw [hx] at hR
    have hI := hg.ev i; rw [hi] at hI
    simp only [R] at hI
    obtain ⟨b, p, hu, hb, ho', hc⟩ := R_ipt hR
    refine quiet hg hd hn (u := .pointer (some ⟨b, p + (off + n.toNat * esz), none⟩)) ?_ (by simp only [R, RI]; exact ⟨b, p, rfl, hb, ho', hc⟩)
    simp [execOp, ho, hu, hI, run_indexAt_array ht h0 hr, Nat.add_assoc]
  | index_ptr ho ht hx hb hi h0 hr =>
    rename_i T x i len esz id off ob k n
    have hR := hg.ev x; rw [hx] at hR
    have hI := hg.ev i; rw [hi] at hI
    simp only [R] at hI
    obtain ⟨ko, hk, hro⟩ := hg.obj hb
    simp only [R] at hR
    obtain ⟨b, rfl, hu⟩ := hR.2 _ hk
    refine quiet hg hd hn (u := .pointer (some ⟨b, off + n.toNat * esz, none⟩)) ?_ (by simp only [R]; exact ⟨rfl, fun k hk' => by rw [hk] at hk'; cases hk'; exact ⟨b, rfl, rfl⟩⟩)
    simp [execOp, ho, hu, hI, run_indexAt_array ht h0 hr]
  | store_box ho hz hx hb hy hl h1 hn' =>
    rename_i T x y n ag id cells off cs
    have hR := hg.ev x; rw [hx] at hR
    obtain ⟨k, hk, b, cur, e, rfl, hh, hv, ho1⟩ := hg.obj hb
    simp only [R] at hR
    obtain ⟨b', hb', hu⟩ := hR.2 _ hk
    cases hb'
    subst hy
    have hcl := R_cl (hg.ev y) h1
    have hcn : (a.eval y).cells.size = n := by have := Rv_length hcl; simpa [hl] using this
    have hcur : cur.size = cells.length := by have := Rv_length hv; simpa using this
    have h1' := Rv_one hcl h1
    refine wp_unit (w' := w.setRow b (cur.toList.take off ++ (a.eval y).cells.toList ++ cur.toList.drop (off + n)).toArray) ?_ (hn _ _ ⟨κ, ?_⟩)
    · simp [execOp, ho, hu, Instr.storeAt, Instr.sureAddr]
      rw [run_storeVar hz hh hcn (by omega) h1']
      simp
    · have hr2 := Rv_aset hv hcl off
      have hgw := hg.write hk (w' := w.setRow b (cur.toList.take off ++ (a.eval y).cells.toList ++ cur.toList.drop (off + n)).toArray) (o := .box (aset cells off (Ql.ev s.tm y).cl))
        (setRow_size _ _ _) (fun b' hb' => setRow_other w b b' _ (fun e => hb' (by simp [KO.blk, e]))) ⟨rfl, rfl, rfl⟩ ?_
      · exact hgw.putd hd (by simp [R])
      · have hkp : Keeps w (OW C κ) (w.setRow b (cur.toList.take off ++ (a.eval y).cells.toList ++ cur.toList.drop (off + n)).toArray) (OW C κ) :=
          ⟨by rw [setRow_size]; exact Nat.le_refl _, fun c _ hno => ⟨hno, setRow_other w b c _ (fun e => hno (.inr ⟨id, _, hk, by simp [KO.blk, e]⟩))⟩⟩
        refine ⟨b, _, e, rfl, setRow_heap w b cur _ e (0, 0) hh, ?_, ?_⟩
        · have hlen : (a.eval y).cells.toList.length = n := by simpa using hcn
          rw [hlen] at hr2
          simpa using Rv_mono hkp (fun _ _ e => e) _ _ hr2
        · intro v hv'
          simp only [List.toList_toArray, List.mem_append] at hv'
          rcases hv' with (hv' | hv') | hv'
          · exact ho1 v (List.mem_of_mem_take hv')
          · exact h1' v hv'
          · exact ho1 v (List.mem_of_mem_drop hv')
  | store_arr ho hz hx hb hr hy hl h1 him hn' =>
    rename_i T x y n ag id e sz i j rows r cs
    have hR := hg.ev x; rw [hx] at hR
    obtain ⟨k, hk, u, vals, rfl, hown, hv, hlen, ho1⟩ := hg.obj hb
    simp only [R] at hR
    obtain ⟨u', b, hu', hub, hu⟩ := hR.2 _ hk
    cases hu'
    subst hy
    have hcl := R_cl (hg.ev y) h1
    have hcn : (a.eval y).cells.size = n := by have := Rv_length hcl; simpa [hl] using this
    have h1' := Rv_one hcl h1
    have hrl := hlen r (List.mem_of_getElem? hr)
    have hi := (List.getElem?_eq_some_iff.1 hr).1
    rcases hown.2 with ⟨hval, _⟩ | ⟨g, cap, cur, hval, hb0, hgg, hnc, hcm, hcs, htk⟩
    · rw [hval] at hub; simp [Value.ownBlock] at hub
    · have hbg : b = g := by rw [hval] at hub; simp [Value.ownBlock] at hub; exact hub.symm
      subst hbg
      have hp : i * sz + j + n ≤ rows.length * sz := by
        have : (i + 1) * sz ≤ rows.length * sz := Nat.mul_le_mul_right _ hi
        rw [Nat.add_mul] at this; omega
      have hp2 : rows.length * sz ≤ cap * sz := Nat.mul_le_mul_right _ hnc
      have hvl : vals.length = rows.length * sz := hown.1
      refine wp_unit (w' := w.setRow b (cur.toList.take (i * sz + j) ++ (a.eval y).cells.toList ++ cur.toList.drop (i * sz + j + n)).toArray) ?_ (hn _ _ ⟨κ, ?_⟩)
      · simp [execOp, ho, hu, Instr.storeAt, Instr.sureAddr]
        rw [run_storeVar hz hgg hcn (by omega) h1']
        simp
      · have hr2 := Rv_aset hv hcl (i * sz + j)
        rw [← flatten_set (fun r hr => (hlen r hr).1) hr (by omega)] at hr2
        have hgw := hg.write hk (w' := w.setRow b (cur.toList.take (i * sz + j) ++ (a.eval y).cells.toList ++ cur.toList.drop (i * sz + j + n)).toArray) (o := .arr e sz (rows.set i (aset r j (Ql.ev s.tm y).cl)))
          (setRow_size _ _ _) (fun b' hb' => setRow_other w b b' _ (fun e => hb' (by simp [KO.blk, vblk_own hown, hub, e]))) ⟨rfl, rfl, rfl⟩ ?_
        · exact hgw.putd hd (by simp [R])
        · have hkp : Keeps w (OW C κ) (w.setRow b (cur.toList.take (i * sz + j) ++ (a.eval y).cells.toList ++ cur.toList.drop (i * sz + j + n)).toArray) (OW C κ) :=
            ⟨by rw [setRow_size]; exact Nat.le_refl _, fun c _ hno => ⟨hno, setRow_other w b c _ (fun e => hno (.inr ⟨id, _, hk, by simp [KO.blk, vblk_own hown, hub, e]⟩))⟩⟩
          have hlc : (a.eval y).cells.toList.length = n := by simpa using hcn
          rw [hlc] at hr2
          have he : (cur.toList.take (i * sz + j) ++ (a.eval y).cells.toList ++ cur.toList.drop (i * sz + j + n)).toArray.toList.take ((rows.set i (aset r j (Ql.ev s.tm y).cl)).length * sz) =
              vals.take (i * sz + j) ++ (a.eval y).cells.toList ++ vals.drop (i * sz + j + n) := by
            subst htk
            simp only [List.length_set]
            apply List.ext_getElem?
            intro q
            simp only [List.getElem?_take, List.getElem?_append, List.getElem?_drop, List.length_append, List.length_take, Array.length_toList, hcs, hlc]
            have m1 : Min.min (i * sz + j) (cap * sz) = i * sz + j := by omega
            have m2 : Min.min (i * sz + j) (Min.min (rows.length * sz) (cap * sz)) = i * sz + j := by omega
            rw [m1, m2]
            by_cases q1 : q < rows.length * sz
            · by_cases q2 : q < i * sz + j + n
              · by_cases q3 : q < i * sz + j
                · simp [q1, q2, q3]
                · simp [q1, q2, q3]
              · have q4 : i * sz + j + n + (q - (i * sz + j + n)) = q := by omega
                simp [q1, q2, q4]
            · have q2 : ¬ q < i * sz + j + n := by omega
              have q4 : i * sz + j + n + (q - (i * sz + j + n)) = q := by omega
              simp [q1, q2, q4]
          refine ⟨u, _, rfl, ⟨?_, .inr ⟨b, cap, _, by simpa using hval, hb0, setRow_heap w b cur _ e (0, 0) hgg, by simpa using hnc, hcm, ?_, rfl⟩⟩, ?_, ?_, ?_⟩
          · have := Rv_length hr2
            simp only [List.length_set, List.length_take, List.length_append, List.length_drop, Array.length_toList, hcs, hlc]
            omega
          · simp only [List.size_toArray, List.length_append, List.length_take, List.length_drop, Array.length_toList, hcs, hlc]
            omega
          · have hR3 := Rv_mono hkp (fun _ _ e => e) _ _ hr2
            rw [he]
            exact hR3
          · intro q hq
            rcases List.mem_or_eq_of_mem_set hq with hq | rfl
            · exact hlen q hq
            · refine ⟨by rw [aset_length (by omega)]; exact hrl.1, ?_⟩
              have hri := (hlen r (List.mem_of_getElem? hr)).2
              unfold aset
              simp only [List.all_append, Bool.and_eq_true]
              exact ⟨⟨List.all_eq_true.2 fun x hx => List.all_eq_true.1 hri x (List.mem_of_mem_take hx), him⟩, List.all_eq_true.2 fun x hx => List.all_eq_true.1 hri x (List.mem_of_mem_drop hx)⟩
          · intro v hv'
            rw [he] at hv'
            simp only [List.mem_append] at hv'
            rcases hv' with (hv' | hv') | hv'
            · exact ho1 v (List.mem_of_mem_take hv')
            · exact h1' v hv'
            · exact ho1 v (List.mem_of_mem_drop hv')
  | alloc ho hd' hz h1 hsub =>
    rename_i T z id cs
    have hzi : ∃ i, P.info? T = some i ∧ i.zero = some z := by
      unfold Zer at hz
      cases hi : P.info? T with
      | none => simp [hi] at hz
      | some i => simp [hi] at hz; exact ⟨i, rfl, hz⟩
    obtain ⟨i, hi, hzz⟩ := hzi
    have hfr : s.fresh C.ob0 id := (hf (id, _) (List.mem_singleton.2 rfl)).resolve_left (by simp)
    refine wp_value (v := .pointer (some ⟨w.heap.size, 0, none⟩)) (w' := w.alloc (.cells z.cells T)) ?_ (hn _ _ ⟨κ.set id (some (.box w.heap.size)), ?_⟩)
    · simp [execOp, ho, Instr.alloc, zeroValue, typeInfo, hi, hzz, newVar, newRow]
    · have hgc := hg.create hfr (w' := w.alloc (.cells z.cells T)) (k := .box w.heap.size) (o := .box cs) (by simp) (fun b hb => heap_alloc_old w _ b hb) ⟨rfl, rfl, rfl⟩
        (fun b hb => by simp [KO.blk] at hb; omega) ⟨_, z.cells, T, rfl, heap_alloc_new w _, ?_, fun v hv => List.all_eq_true.1 h1 v hv⟩
      · exact hgc.putd hd (by simp only [R]; exact ⟨rfl, fun k hk => by simp [Kap.set] at hk; subst hk; exact ⟨_, rfl, rfl⟩⟩)
      · refine Rv_sub hsub ?_
        generalize z.cells.toList = l
        induction l with
        | nil => simp [Rv]
        | cons x xs ih => simp only [List.map_cons, Rv]; exact ⟨_, _, rfl, by simp [R], ih⟩
  | box_ipt ho hx h1 hi =>
    rename_i T x cs
    subst hx
    have hcl := R_cl (hg.ev x) h1
    refine quiet_new hg hd hn (u := .pointer (some ⟨w.heap.size, 0 + 0, none⟩)) (ob := .cells (a.eval x).cells T) ?_ ?_
    · simp [execOp, ho, Instr.box, newVar, newRow]
    · simp only [R, RI]
      exact ⟨_, 0, rfl, by simp, not_owned_new hg, RIc_new hcl hi (Rv_one hcl h1)⟩
  | box_ptr ho hd' hx h1 =>
    rename_i T x cs id
    subst hx
    have hcl := R_cl (hg.ev x) h1
    have hfr : s.fresh C.ob0 id := (hf (id, _) (List.mem_singleton.2 rfl)).resolve_left (by simp)
    refine wp_value (v := .pointer (some ⟨w.heap.size, 0, none⟩)) (w' := w.alloc (.cells (a.eval x).cells T)) ?_ (hn _ _ ⟨κ.set id (some (.box w.heap.size)), ?_⟩)
    · simp [execOp, ho, Instr.box, newVar, newRow]
    · have hgc := hg.create hfr (w' := w.alloc (.cells (a.eval x).cells T)) (k := .box w.heap.size) (o := .box (Ql.ev s.tm x).cl) (by simp) (fun b hb => heap_alloc_old w _ b hb) ⟨rfl, rfl, rfl⟩
        (fun b hb => by simp [KO.blk] at hb; omega) ⟨_, (a.eval x).cells, T, rfl, heap_alloc_new w _, ?_, Rv_one hcl h1⟩
      · exact hgc.putd hd (by simp only [R]; exact ⟨rfl, fun k hk => by simp [Kap.set] at hk; subst hk; exact ⟨_, rfl, rfl⟩⟩)
      · exact Rv_new hg hfr rfl (ev_men hfr x) hcl
  | build ho hz hp hb hsub =>
    rename_i T z cs0 cs ps parts
    have hpart : ∀ l : List (Nat × Operand), Rv w (OW C κ) κ ((l.map fun p => (p.1, Ql.ev s.tm p.2)).map (·.2)) ((l.map fun p => (p.1, a.eval p.2)).map (·.2)) := by
      intro l
      induction l with
      | nil => simp [Rv]
      | cons x xs ih => simp only [List.map_cons, Rv]; exact ⟨_, _, rfl, hg.ev _, ih⟩
    have hz0 : Rv w (OW C κ) κ (z.cells.toList.map .sc) z.cells.toList := by
      generalize z.cells.toList = l
      induction l with
      | nil => simp [Rv]
      | cons x xs ih => simp only [List.map_cons, Rv]; exact ⟨_, _, rfl, by simp [R], ih⟩
    obtain ⟨c, hc, hR⟩ := fill_ok (parts := parts.toList.map fun p => (p.1, Ql.ev s.tm p.2)) (vs := parts.toList.map fun p => (p.1, a.eval p.2)) (by rw [List.map_map, List.map_map]; rfl) (hpart _) hz0 hb
    refine quiet hg hd hn (u := .agg c) ?_ (by simp only [R]; exact ⟨c, rfl, Rv_sub hsub hR⟩)
    have := hp w _ c hc
    have he : (parts.map fun (x : Nat × Operand) => (x.1, a.eval x.2)) = (parts.toList.map fun (p : Nat × Operand) => (p.1, a.eval p.2)).toArray := by apply Array.ext'; rw [Array.toList_map]
    simp only [execOp, ho]
    rw [he]
    simp [this]
  | slice_lit ho ht hnn hb hsub hl hs h1 hi =>
    rename_i T len e sz by_ z rows fl parts
    obtain ⟨i, hi', his, hib, hiz⟩ := ht.info
    have hpart : ∀ l : List (Nat × Operand), Rv w (OW C κ) κ ((l.map fun p => (p.1, Ql.ev s.tm p.2)).map (·.2)) ((l.map fun p => (p.1, a.eval p.2)).map (·.2)) := by
      intro l
      induction l with
      | nil => simp [Rv]
      | cons x xs ih => simp only [List.map_cons, Rv]; exact ⟨_, _, rfl, hg.ev _, ih⟩
    have key : ∃ cur : Array Value, cur.size = len * sz ∧ ∀ (vs : List (Nat × Value)) (c : Array Value), Instr.fill (fun i => some (i * sz, sz)) cur vs = some c → (Instr.buildSlice T len vs.toArray).run P w = .ok (.slice (some ⟨w.heap.size, 0, none⟩) len len) (w.alloc (.cells c e)) := by
      by_cases h0 : len * sz = 0
      · refine ⟨(Array.range (len * sz)).map ((#[] : Array Value)[· % (#[] : Array Value).size]!), by simp, fun vs c hc => ?_⟩
        simp only [Instr.buildSlice, Sem.run_bind, run_underlying ht.und, Result.andThen_ok, run_size (P := P) (T := e) (n := sz) (by simp [hi', his])]
        rw [if_neg (by omega)]
        simp only [h0, if_true, Sem.run_pure, Result.andThen_ok, Sem.run_bind] at hc ⊢
        rw [hc]
        simp [newRow]
      · refine ⟨(Array.range (len * sz)).map (z.cells[· % z.cells.size]!), by simp, fun vs c hc => ?_⟩
        simp only [Instr.buildSlice, Sem.run_bind, run_underlying ht.und, Result.andThen_ok, run_size (P := P) (T := e) (n := sz) (by simp [hi', his])]
        rw [if_neg (by omega)]
        simp only [h0, if_false, zeroValue, typeInfo, hi', hiz, Sem.run_bind, run_program, Result.andThen_ok, Sem.run_pure]
        rw [hc]
        simp [newRow]
    obtain ⟨cur, hcs, hrun⟩ := key
    have hz0 : Rv w (OW C κ) κ (List.replicate (len * sz) .undef) cur.toList :=
      Rv_of (by simp [hcs]) fun k x v hk _ => by
        have := List.mem_of_getElem? hk
        simp at this; rw [this.2]; simp [R]
    obtain ⟨c, hc, hR⟩ := fill_ok (parts := parts.toList.map fun p => (p.1, Ql.ev s.tm p.2)) (vs := parts.toList.map fun p => (p.1, a.eval p.2)) (by rw [List.map_map, List.map_map]; rfl) (hpart _) hz0 hb
    have hR := Rv_sub hsub hR
    have h1' := Rv_one hR h1
    refine quiet_new hg hd hn (u := .slice (some ⟨w.heap.size, 0, none⟩) rows.length rows.length) (ob := .cells c e) ?_ ?_
    · have he : (parts.map fun (x : Nat × Operand) => (x.1, a.eval x.2)) = (parts.toList.map fun (p : Nat × Operand) => (p.1, a.eval p.2)).toArray := by apply Array.ext'; rw [Array.toList_map]
      simp only [execOp, ho]
      rw [he]
      simp [hrun _ c hc, hl]
    · simp only [R, RI]
      refine ⟨_, _, rfl, Nat.le_refl _, ?_⟩
      by_cases hr0 : rows = []
      · exact .inl hr0
      · exact .inr ⟨_, 0, rfl, by simp, not_owned_new hg, chunk_RIr hs (RIc_new hR hi h1')⟩
  | slice_obj ho ht hnn hb hsub hl hs h1 hi =>
    rename_i T len e sz by_ z rows fl id parts
    obtain ⟨i, hi', his, hib, hiz⟩ := ht.info
    have hpart : ∀ l : List (Nat × Operand), Rv w (OW C κ) κ ((l.map fun p => (p.1, Ql.ev s.tm p.2)).map (·.2)) ((l.map fun p => (p.1, a.eval p.2)).map (·.2)) := by
      intro l
      induction l with
      | nil => simp [Rv]
      | cons x xs ih => simp only [List.map_cons, Rv]; exact ⟨_, _, rfl, hg.ev _, ih⟩
    have key : ∃ cur : Array Value, cur.size = len * sz ∧ ∀ (vs : List (Nat × Value)) (c : Array Value), Instr.fill (fun i => some (i * sz, sz)) cur vs = some c → (Instr.buildSlice T len vs.toArray).run P w = .ok (.slice (some ⟨w.heap.size, 0, none⟩) len len) (w.alloc (.cells c e)) := by
      by_cases h0 : len * sz = 0
      · refine ⟨(Array.range (len * sz)).map ((#[] : Array Value)[· % (#[] : Array Value).size]!), by simp, fun vs c hc => ?_⟩
        simp only [Instr.buildSlice, Sem.run_bind, run_underlying ht.und, Result.andThen_ok, run_size (P := P) (T := e) (n := sz) (by simp [hi', his])]
        rw [if_neg (by omega)]
        simp only [h0, if_true, Sem.run_pure, Result.andThen_ok, Sem.run_bind] at hc ⊢
        rw [hc]
        simp [newRow]
      · refine ⟨(Array.range (len * sz)).map (z.cells[· % z.cells.size]!), by simp, fun vs c hc => ?_⟩
        simp only [Instr.buildSlice, Sem.run_bind, run_underlying ht.und, Result.andThen_ok, run_size (P := P) (T := e) (n := sz) (by simp [hi', his])]
        rw [if_neg (by omega)]
        simp only [h0, if_false, zeroValue, typeInfo, hi', hiz, Sem.run_bind, run_program, Result.andThen_ok, Sem.run_pure]
        rw [hc]
        simp [newRow]
    obtain ⟨cur, hcs, hrun⟩ := key
    have hz0 : Rv w (OW C κ) κ (List.replicate (len * sz) .undef) cur.toList :=
      Rv_of (by simp [hcs]) fun k x v hk _ => by
        have := List.mem_of_getElem? hk
        simp at this; rw [this.2]; simp [R]
    obtain ⟨c, hc, hR⟩ := fill_ok (parts := parts.toList.map fun p => (p.1, Ql.ev s.tm p.2)) (vs := parts.toList.map fun p => (p.1, a.eval p.2)) (by rw [List.map_map, List.map_map]; rfl) (hpart _) hz0 hb
    have hR := Rv_sub hsub hR
    have h1' := Rv_one hR h1
    have hfr : s.fresh C.ob0 id := (hf (id, _) (List.mem_singleton.2 rfl)).resolve_left (by simp)
    have hrun' : (execOp a.eval o).run P w = .ok (.value (.slice (some ⟨w.heap.size, 0, none⟩) rows.length rows.length)) (w.alloc (.cells c e)) := by
      have he : (parts.map fun (x : Nat × Operand) => (x.1, a.eval x.2)) = (parts.toList.map fun (p : Nat × Operand) => (p.1, a.eval p.2)).toArray := by apply Array.ext'; rw [Array.toList_map]
      simp only [execOp, ho]
      rw [he]
      simp [hrun _ c hc, hl]
    have hfl := flatten_len (sz := sz) (rows := rows) hs
    have hcz : c.size = rows.length * sz := (Array.length_toList (xs := c)).symm.trans ((Rv_length hR).trans hfl)
    have hlen63 : rows.length ≤ maxLen := by
      have h0 := ht.2.2.2
      have : rows.length * 1 ≤ rows.length * sz := Nat.mul_le_mul_left _ h0
      rw [← hl] at hnn
      simp only [maxLen]; omega
    refine wp_value hrun' (hn _ _ ⟨κ.set id (some (.arr (.slice (some ⟨w.heap.size, 0, none⟩) rows.length rows.length))), ?_⟩)
    have hkp : Keeps w (OW C κ) (w.alloc (.cells c e)) (OW C (κ.set id (some (.arr (.slice (some ⟨w.heap.size, 0, none⟩) rows.length rows.length))))) := ⟨by simp, fun b hb hno => ⟨by
      rintro (hx | ⟨i, l, hi, hbl⟩)
      · exact hno (.inl hx)
      · simp only [Kap.set] at hi
        split at hi
        · cases hi; simp [KO.blk, vblk] at hbl; omega
        · exact hno (.inr ⟨i, l, hi, hbl⟩), heap_alloc_old w _ b hb⟩⟩
    have hgc := hg.create hfr (w' := w.alloc (.cells c e)) (k := .arr (.slice (some ⟨w.heap.size, 0, none⟩) rows.length rows.length)) (o := .arr e sz rows) (by simp) (fun b hb => heap_alloc_old w _ b hb) ⟨rfl, rfl, rfl⟩
      (fun b hb => by simp [KO.blk, vblk] at hb; omega)
      ⟨_, c.toList, rfl, ⟨by simpa using hcz, .inr ⟨w.heap.size, rows.length, c, rfl, Nat.zero_le _, heap_alloc_new w _, Nat.le_refl _, hlen63, hcz, by rw [List.take_of_length_le (by simp [hcz])]⟩⟩,
        Rv_of_RIv _ _ (RIv_mono hkp _ _ (RI_all hR hi)), fun r hr => ⟨hs r hr, List.all_eq_true.2 fun x hx => List.all_eq_true.1 hi x (List.mem_flatten.2 ⟨r, hr, hx⟩)⟩, h1'⟩
    exact hgc.putd hd (by simp only [R]; exact ⟨rfl, fun k hk => by simp [Kap.set] at hk; exact hk.symm⟩)
  | slice_new ho hd' ht =>
    rename_i T e sz by_ z id
    obtain ⟨i, hi', his, hib, hiz⟩ := ht.info
    have hfr : s.fresh C.ob0 id := (hf (id, _) (List.mem_singleton.2 rfl)).resolve_left (by simp)
    refine wp_value (v := .slice (some ⟨w.heap.size, 0, none⟩) 0 0) (w' := w.alloc (.cells #[] e)) ?_ (hn _ _ ⟨κ.set id (some (.arr (.slice (some ⟨w.heap.size, 0, none⟩) 0 0))), ?_⟩)
    · simp [execOp, ho, Instr.buildSlice, run_underlying ht.und, run_size (P := P) (T := e) (n := sz) (by simp [hi', his]), Instr.fill, newRow]
      have h0 : (Array.range 0 : Array Nat) = #[] := by apply Array.ext' ; simp
      rw [h0]; simp
    · have hgc := hg.create hfr (w' := w.alloc (.cells #[] e)) (k := .arr (.slice (some ⟨w.heap.size, 0, none⟩) 0 0)) (o := .arr e sz []) (by simp) (fun b hb => heap_alloc_old w _ b hb) ⟨rfl, rfl, rfl⟩
        (fun b hb => by simp [KO.blk, vblk] at hb; omega)
        ⟨_, [], rfl, World.ownsRow_made w #[] 0 (Nat.zero_le _) (by simp [maxLen]) (by simp), by simp [Rv], by simp, by simp⟩
      exact hgc.putd hd (by simp only [R]; exact ⟨rfl, fun k hk => by simp [Kap.set] at hk; exact hk.symm⟩)
  | extract ho hx hv =>
    rename_i x i vs
    have hR := hg.ev x; rw [hx] at hR
    simp only [R] at hR
    obtain ⟨us, hu, hv'⟩ := hR
    obtain ⟨u, hu1, hu2⟩ := Rv_get hv' hv
    refine quiet hg hd hn (u := u) ?_ hu2
    have : us[i]? = some u := by simpa using hu1
    simp [execOp, ho, hu, Instr.extract, this]
  | pick ho hc hv =>
    rename_i c x y b
    have hC := hg.ev c; rw [hc] at hC
    simp only [R] at hC
    cases b with
    | true => exact quiet hg hd hn (u := a.eval x) (by simp [execOp, ho, hC, asBool]) (by simp at hv; rw [← hv]; exact hg.ev x)
    | false => exact quiet hg hd hn (u := a.eval y) (by simp [execOp, ho, hC, asBool]) (by simp at hv; rw [← hv]; exact hg.ev y)
  | bin ho hx hy hv =>
    rename_i op T x y U k n m v
    have hX := hg.ev x; rw [hx] at hX; simp only [R] at hX
    have hY := hg.ev y; rw [hy] at hY; simp only [R] at hY
    refine quiet hg hd hn (u := v) ?_ (by simp [R])
    have := run_bin2 (P := P) (w := w) (T := T) (x := x) (y := y) hv
    simp only [execOp, ho, hX, hY, Sem.run_bind, this, Result.andThen_ok] at this ⊢
    simp [this]
  | div ho hx hy hop hm =>
    rename_i op T x y U k n m
    have hX := hg.ev x; rw [hx] at hX; simp only [R] at hX
    have hY := hg.ev y; rw [hy] at hY; simp only [R] at hY
    refine quiet hg hd hn (u := .int k (if op = .quo then k.wrap (n.tdiv m) else n.tmod m)) ?_ (by simp [R])
    have := run_div (P := P) (w := w) (T := T) (x := x) (y := y) (k := k) (n := n) hm hop
    simp only [execOp, ho, hX, hY, Sem.run_bind, this, Result.andThen_ok] at this ⊢
    simp [this]
  | binc ho hx hy hv =>
    rename_i op T x y U X Y V
    have hX := hg.ev x; rw [hx] at hX; have hX := ofConst_eq hX
    have hY := hg.ev y; rw [hy] at hY; have hY := ofConst_eq hY
    refine quiet hg hd hn (u := V) ?_ (R_ofConst V)
    have := hv w
    simp only [execOp, ho, hX, hY, Sem.run_bind] at this ⊢
    simp [this]
  | nilcmp ho hT hx hne =>
    rename_i T x U e sz rows
    have hR := hg.ev x; rw [hx] at hR
    simp only [R, RI] at hR
    obtain ⟨ad, cap, hv, _, hr⟩ := hR
    obtain ⟨b, off, had, _⟩ := hr.resolve_left hne
    subst had
    refine quiet hg hd hn (u := .bool false) ?_ (by simp [R])
    have h2 : ∀ v : Value, (Op.equal T (.slice (some ⟨b, off, none⟩) rows.length cap) (.slice none 0 0)).run P w = .ok false w := by
      intro _
      unfold Op.equal
      rw [show Op.maxDepth = 9999 + 1 from rfl, Op.equalIn]
      simp only [Sem.run_bind, run_underlying hT, Result.andThen_ok]
      rfl
    have hc0 : a.eval (.const (.slice none 0 0)) = .slice none 0 0 := rfl
    simp [execOp, ho, hv, eqGuard, binOp, h2 .nilFunc, hc0]
  | un ho hx hv =>
    rename_i op T x X V
    have hX := hg.ev x; rw [hx] at hX; simp only [R] at hX
    refine quiet hg hd hn (u := V) ?_ (by simp [R])
    simp [execOp, ho, hX, hv w]
  | conv ho hx hv =>
    rename_i S T x X V
    have hX := hg.ev x; rw [hx] at hX; simp only [R] at hX
    refine quiet hg hd hn (u := V) ?_ (by simp [R])
    simp [execOp, ho, hX, hv w]
  | len_lst ho ht hx =>
    rename_i T x e sz by_ z rows sz'
    have hX := hg.ev x; rw [hx] at hX; simp only [R, RI] at hX
    obtain ⟨ad, cap, hu, _⟩ := hX
    refine quiet hg hd hn (u := .int .i64 rows.length) ?_ (by simp [R])
    simp [execOp, ho, resolve, invoke, builtin, hu, run_len_slice ht]
  | len_hnd ho ht hx hb =>
    rename_i T x e sz by_ z id e' sz' rows
    have hR := hg.ev x; rw [hx] at hR
    obtain ⟨ko, hk, hro⟩ := hg.obj hb
    simp only [R] at hR
    have hku := hR.2 _ hk
    subst hku
    obtain ⟨u', vals, hu', hown, hv, hl, h1⟩ := hro
    cases hu'
    refine quiet hg hd hn (u := .int .i64 rows.length) ?_ (by simp [R])
    rcases hown.2 with ⟨hval, hz⟩ | ⟨g, cap, cur, hval, _⟩
    · simp [execOp, ho, resolve, invoke, builtin, hval, run_len_slice ht, hz]
    · simp [execOp, ho, resolve, invoke, builtin, hval, run_len_slice ht]
  | min ho hx hy =>
    rename_i x y ts k n m
    have hX := hg.ev x; rw [hx] at hX; simp only [R] at hX
    have hY := hg.ev y; rw [hy] at hY; simp only [R] at hY
    refine quiet hg hd hn (u := .int k (if m < n then m else n)) ?_ (by simp [R])
    simp [execOp, ho, resolve, invoke, builtin, hX, hY, Builtin.min_, Builtin.min2]
  | max ho hx hy =>
    rename_i x y ts k n m
    have hX := hg.ev x; rw [hx] at hX; simp only [R] at hX
    have hY := hg.ev y; rw [hy] at hY; simp only [R] at hY
    refine quiet hg hd hn (u := .int k (if m > n then m else n)) ?_ (by simp [R])
    simp [execOp, ho, resolve, invoke, builtin, hX, hY, Builtin.max_, Builtin.max2]
  | nil_ipt ho hx =>
    rename_i x cells off
    have hR := hg.ev x; rw [hx] at hR
    obtain ⟨b, p, hu, hb, ho', hc⟩ := R_ipt hR
    refine quiet hg hd hn (u := a.eval x) ?_ (by rw [← hx]; exact hg.ev x)
    simp [execOp, ho, hu]
  | nil_ptr ho hx hb =>
    rename_i x id off ob
    have hR := hg.ev x; rw [hx] at hR
    obtain ⟨ko, hk, hro⟩ := hg.obj hb
    simp only [R] at hR
    obtain ⟨b, rfl, hu⟩ := hR.2 _ hk
    refine quiet hg hd hn (u := a.eval x) ?_ (by rw [← hx]; exact hg.ev x)
    simp [execOp, ho, hu]
  | func ho hv =>
    rename_i f cs vs
    refine quiet hg hd hn (u := .func (.func f) #[] (cs.map a.eval)) ?_ ?_
    · simp [execOp, ho, Instr.makeFunc]
    · simp only [R]
      refine ⟨_, rfl, ?_⟩
      subst hv
      simp only [Array.toList_map]
      generalize cs.toList = l
      induction l with
      | nil => simp [Rv]
      | cons x xs ih => simp only [List.map_cons, Rv]; exact ⟨_, _, rfl, hg.ev x, ih⟩
  | iface ho hd' hni =>
    rename_i T x d
    refine quiet hg hd hn (u := .iface T (a.eval x)) ?_ (by simp only [R]; exact ⟨_, rfl, hg.ev x⟩)
    simp only [execOp, ho, Instr.makeInterface, Sem.run_bind, run_underlying hd', Result.andThen_ok]
    cases d <;> simp at hni ⊢
  | sub ho ht hx hlo hhi h1 h2 =>
    rename_i T x lo hi e sz by_ z rows l h
    have hR := hg.ev x; rw [hx] at hR
    obtain ⟨ad, cap, hu, hcap, hrr⟩ := R_lst hR
    obtain ⟨i, hi', his, hib, hiz⟩ := ht.info
    have hlen : ((rows.drop l).take (h - l)).length = h - l := by simp; omega
    have hbounds : (Instr.sliceBounds true rows.length cap (lo.map a.eval) (hi.map a.eval) none).run P w = .ok (l, h, cap) w := by
      have hH : (match hi.map a.eval with | some v => Instr.sliceBound v cap .sliceAcap | none => pure rows.length : Sem Nat).run P w = .ok h w := by
        cases hi with
        | none => simp only at hhi; subst hhi; simp
        | some y =>
          obtain ⟨k, hk⟩ := hhi
          have hy := hg.ev y; rw [hk] at hy; simp only [R] at hy
          have hle : h ≤ cap := by omega
          simp [hy, Instr.sliceBound, asIntOf, hle]
      have hL : (match lo.map a.eval with | some v => Instr.sliceBound v h .sliceB | none => pure 0 : Sem Nat).run P w = .ok l w := by
        cases lo with
        | none => simp only at hlo; subst hlo; simp
        | some y =>
          obtain ⟨k, hk⟩ := hlo
          have hy := hg.ev y; rw [hk] at hy; simp only [R] at hy
          simp [hy, Instr.sliceBound, asIntOf, h1]
      unfold Instr.sliceBounds
      cases hi <;> cases lo <;> simp at hH hL ⊢ <;> simp [hH, hL]
    refine quiet hg hd hn (u := .slice (if cap = l then ad else ad.map (·.add (l * sz))) (h - l) (cap - l)) ?_ ?_
    · simp [execOp, ho, Instr.sliceAt, run_underlying ht.und, hu, Instr.slice, hbounds, run_size (P := P) (T := e) (n := sz) (by simp [hi', his])]
    · simp only [R, RI]
      refine ⟨if cap = l then ad else ad.map (·.add (l * sz)), cap - l, by rw [hlen], by omega, ?_⟩
      by_cases hcl : cap = l
      · left; apply List.eq_nil_of_length_eq_zero; omega
      · rcases hrr with rfl | ⟨b, off, rfl, hb, ho', hrows⟩
        · left; simp
        · right
          refine ⟨b, off + l * sz, by rw [if_neg hcl]; simp [Addr.add_lit], hb, ho', RIr_of fun q r hq => ?_⟩
          rw [List.getElem?_take] at hq
          split at hq
          · rw [List.getElem?_drop] at hq
            have := RIr_get hrows hq
            rwa [show off + (l + q) * sz = off + l * sz + q * sz by rw [Nat.add_mul]; omega] at this
          · cases hq
  | make ho hd' ht hx hy hb h63 h1 =>
    rename_i T x y e sz by_ z k k' n id
    obtain ⟨i, hi', his, hib, hiz⟩ := ht.info
    have hX := hg.ev x; rw [hx] at hX; simp only [R] at hX
    have hY := hg.ev y; rw [hy] at hY; simp only [R] at hY
    have hfr : s.fresh C.ob0 id := (hf (id, _) (List.mem_singleton.2 rfl)).resolve_left (by simp)
    obtain ⟨w', hr, hown, hgr⟩ := run_make_full (P := P) w w.heap.size T e i z sz ht.und hi' hiz his k k' n (by rw [hib]; exact hb) h63 (Nat.le_refl _)
    have hold : ∀ b, b < w.heap.size → w'.heap[b]? = w.heap[b]? := fun b hb => hgr.block b hb (by simp)
    refine wp_value (v := .slice (some ⟨w.heap.size, 0, none⟩) n n) (w' := w') ?_ (hn _ _ ⟨κ.set id (some (.arr (.slice (some ⟨w.heap.size, 0, none⟩) n n))), ?_⟩)
    · simp [execOp, ho, hX, hY, hr]
    · have hzl : (z.cells.toList.map AV.sc).length = sz := by simpa using ht.2.2.1
      have hsz0 := ht.2.2.2
      have hgc := hg.create hfr (w' := w') (k := .arr (.slice (some ⟨w.heap.size, 0, none⟩) n n)) (o := .arr e sz (List.replicate n (z.cells.toList.map .sc))) hgr.size hold ⟨hgr.os, hgr.tape, hgr.output⟩
        (fun b hb => by simp [KO.blk, vblk] at hb; omega)
        ⟨_, (madeCells z.cells (n * sz)).toList, rfl, ⟨by rw [List.length_replicate]; exact hown.1, ?_⟩, ?_, ?_, ?_⟩
      · exact hgc.putd hd (by simp only [R]; exact ⟨rfl, fun k hk => by simp [Kap.set] at hk; exact hk.symm⟩)
      · rcases hown.2 with hn' | ⟨g, cap, cur, e1, e2, e3⟩
        · exact .inl (by simpa using hn')
        · exact .inr ⟨g, cap, cur, by simpa using e1, Nat.zero_le _, by simpa using e3⟩
      · refine Rv_of (by simp [madeCells, flatten_len (sz := sz) (rows := List.replicate n (z.cells.toList.map AV.sc)) (fun r hr => by rw [(List.mem_replicate.1 hr).2]; exact hzl)]) fun q x v hq hv => ?_
        have hql : q < n * sz := by
          have := (List.getElem?_eq_some_iff.1 hv).1
          simpa [madeCells] using this
        rw [repl_flat _ n q (by rw [hzl]; exact hql), hzl, List.getElem?_map] at hq
        have hmod : q % sz < z.cells.size := by rw [ht.2.2.1]; exact Nat.mod_lt _ hsz0
        have hv2 : v = z.cells[q % sz]! := by
          simp [madeCells, ht.2.2.1] at hv
          obtain ⟨q', hq', hv'⟩ := hv
          rw [List.getElem?_range hql] at hq'
          cases hq'
          exact hv'.symm
        rw [Array.getElem?_toList, Array.getElem?_eq_getElem hmod] at hq
        simp at hq
        subst hq
        simp only [R]
        rw [hv2, getElem!_pos z.cells (q % sz) hmod]
      · intro r hr; rw [(List.mem_replicate.1 hr).2]; exact ⟨hzl, by simp [AV.im]⟩
      · intro v hv
        simp only [madeCells, Array.toList_map, List.mem_map] at hv
        obtain ⟨q, _, rfl⟩ := hv
        have hmod : q % z.cells.size < z.cells.size := Nat.mod_lt _ (by rw [ht.2.2.1]; exact hsz0)
        rw [getElem!_pos z.cells _ hmod]
        exact List.all_eq_true.1 h1 _ (by simp)
  | append ho hd' ht hx hb hy h1 hi hnn h63 hne =>
    rename_i T x y e sz by_ z id d rows news
    have hX := hg.ev x; rw [hx] at hX; simp only [R] at hX
    have hY := hg.ev y; rw [hy] at hY
    obtain ⟨k0, hk0, u, vals, rfl, hown, hv, hlen, ho1⟩ := hg.obj hb
    have hu := hX.2 _ hk0
    cases hu
    have hfr : s.fresh C.ob0 d := (hf (d, _) (List.mem_cons_self ..)).resolve_left (by simpa using hne)
    obtain ⟨ad, c, us, hyv, hul, hus, hnone, hu1, huR, hnl⟩ := news_vals hY h1
    obtain ⟨v', w', hr, hown', hgr, hblk⟩ := run_app (P := P) (ty := o.type) ht hown (c := c) hul hus hnone hu1 h63 hnn
    refine wp_value (v := v') (w' := w') ?_ (hn _ _ ⟨(κ.set id none).set d (some (.arr v')), ?_⟩)
    · simp [execOp, ho, resolve, invoke, builtin, hyv, hr]
    · have hgc := hg.swap hk0 hfr hne (w' := w') (k := .arr v') (o := .arr e sz (rows ++ news)) hgr.size (fun b hb hn => hgr.block b hb (fun e => hn (by rw [← vblk_own hown] at e; exact e.symm))) ⟨hgr.os, hgr.tape, hgr.output⟩ (fun b hb => by have := hblk b (by rw [← vblk_own hown']; exact hb); rw [← vblk_own hown] at this; exact this)
        (fun hkp => ⟨v', vals ++ us, rfl, by simpa using hown', ?_, ?_, ?_⟩)
      · refine hgc.putd hd ?_
        simp only [R]
        refine ⟨?_, fun k hk => by simp [Kap.set] at hk; exact hk.symm⟩
        rcases hown'.2 with ⟨rfl, _⟩ | ⟨g, cap, cur, rfl, _⟩ <;> rfl
      · rw [List.flatten_append]
        refine Rv_append (Rv_men hkp _ _ (fun i l e => ?_) hv) (Rv_of_RIv _ _ (RIv_mono hkp _ _ huR))
        simp only [Kap.set] at e
        by_cases h1 : i = d
        · subst h1
          exact .inr (menL_im _ (flat_im hlen))
        · rw [if_neg h1] at e
          split at e
          · cases e
          · exact .inl e
      · intro r hr
        rcases List.mem_append.1 hr with hr | hr
        · exact hlen r hr
        · exact ⟨hnl r hr, List.all_eq_true.2 fun x hx => List.all_eq_true.1 hi x (List.mem_flatten.2 ⟨r, hr, hx⟩)⟩
      · intro v hv
        rcases List.mem_append.1 hv with hv | hv
        · exact ho1 v hv
        · exact hu1 v hv
  | append_nil ho hd' ht hx hy h1 hi hnn h63 =>
    rename_i T x y e sz by_ z d news
    have hX := hg.ev x; rw [hx] at hX; simp only [R] at hX
    have hY := hg.ev y; rw [hy] at hY
    have hfr : s.fresh C.ob0 d := (hf (d, _) (List.mem_singleton.2 rfl)).resolve_left (by simp)
    obtain ⟨ad, c, us, hyv, hul, hus, hnone, hu1, huR, hnl⟩ := news_vals hY h1
    obtain ⟨v', w', hr, hown', hgr, hblk⟩ := run_app (P := P) (ty := o.type) ht (World.ownsRow_nil w 0 e sz) (c := c) hul hus hnone hu1 (by simpa using h63) (by simpa using hnn)
    have hold : ∀ b, b < w.heap.size → w'.heap[b]? = w.heap[b]? := fun b hb => hgr.block b hb (by simp [Value.ownBlock])
    have hkb : ∀ b, (KO.arr v').blk = some b → w.heap.size ≤ b := fun b hb => (hblk b (by rw [← vblk_own hown']; exact hb)).resolve_left (by simp [Value.ownBlock])
    refine wp_value (v := v') (w' := w') ?_ (hn _ _ ⟨κ.set d (some (.arr v')), ?_⟩)
    · simp [execOp, ho, resolve, invoke, builtin, hX, hyv, hr]
    · have hkp : Keeps w (OW C κ) w' (OW C (κ.set d (some (.arr v')))) := ⟨hgr.size, fun b hb hno => ⟨by
        rintro (hx | ⟨i, l, hi, hbl⟩)
        · exact hno (.inl hx)
        · simp only [Kap.set] at hi
          split at hi
          · cases hi; have := hkb b hbl; omega
          · exact hno (.inr ⟨i, l, hi, hbl⟩), hold b hb⟩⟩
      have hgc := hg.create hfr (w' := w') (k := .arr v') (o := .arr e sz news) hgr.size hold ⟨hgr.os, hgr.tape, hgr.output⟩ hkb
        ⟨v', us, rfl, by simpa using hown', Rv_of_RIv _ _ (RIv_mono hkp _ _ huR), fun r hr => ⟨hnl r hr, List.all_eq_true.2 fun x hx => List.all_eq_true.1 hi x (List.mem_flatten.2 ⟨r, hr, hx⟩)⟩, hu1⟩
      refine hgc.putd hd ?_
      simp only [R]
      refine ⟨?_, fun k hk => by simp [Kap.set] at hk; exact hk.symm⟩
      rcases hown'.2 with ⟨rfl, _⟩ | ⟨g, cap, cur, rfl, _⟩ <;> rfl
  | nil_new e sz ho hx =>
    rename_i x d
    have hX := hg.ev x; rw [hx] at hX; simp only [R] at hX
    have hfr : s.fresh C.ob0 d := (hf (d, _) (List.mem_singleton.2 rfl)).resolve_left (by simp)
    refine wp_value (v := .slice none 0 0) (w' := w) ?_ (hn _ _ ⟨κ.set d (some (.arr (.slice none 0 0))), ?_⟩)
    · rcases ho with ho | ho <;> simp [execOp, ho, hX]
    · have hgc := hg.create hfr (w' := w) (k := .arr (.slice none 0 0)) (o := .arr e sz []) (Nat.le_refl _) (fun _ _ => rfl) ⟨rfl, rfl, rfl⟩ (fun b hb => by simp [KO.blk, vblk] at hb)
        ⟨_, [], rfl, World.ownsRow_nil w 0 e sz, by simp [Rv], by simp, by simp⟩
      exact hgc.putd hd (by simp only [R]; exact ⟨rfl, fun k hk => by simp [Kap.set] at hk; exact hk.symm⟩)
end
end Go.Proofs.YthlchdnbokhclaaGreat.Ql
namespace Go.Proofs.YthlchdnbokhclaaGreat.Ql
open Go
def sm (obs : List (Nat × AO)) : List (Nat × Option AO) := obs.map fun p => (p.1, some p.2)
def rmv (obs : List (Nat × AO)) : List (Nat × Option AO) := obs.map fun p => (p.1, none)
def keys (obs : List (Nat × AO)) : List Nat := obs.map (·.1)
theorem lo_sm_mem : ∀ {obs : List (Nat × AO)} {id : Nat} {o : AO}, lo (sm obs) id = some o → (id, o) ∈ obs
  | [], _, _, h => by simp [sm, lo] at h
  | p :: r, id, o, h => by
    rw [show sm (p :: r) = (p.1, some p.2) :: sm r from rfl, lo_cons] at h
    split at h
    · rename_i e; cases h; subst e; exact List.mem_cons_self ..
    · exact List.mem_cons_of_mem _ (lo_sm_mem h)
theorem lo_sm_keys : ∀ {obs : List (Nat × AO)} {id : Nat}, id ∈ keys obs → ∃ o, lo (sm obs) id = some o
  | [], _, h => by simp [keys] at h
  | p :: r, id, h => by
    rw [show sm (p :: r) = (p.1, some p.2) :: sm r from rfl, lo_cons]
    by_cases e : p.1 = id
    · exact ⟨_, by rw [if_pos e]⟩
    · rw [if_neg e]
      refine lo_sm_keys ?_
      simp only [keys, List.map_cons, List.mem_cons] at h
      exact h.resolve_left (fun x => e x.symm)
theorem keys_of_lo {obs : List (Nat × AO)} {id : Nat} {o : AO} (h : lo (sm obs) id = some o) : id ∈ keys obs := List.mem_map.2 ⟨(id, o), lo_sm_mem h, rfl⟩
theorem lo_append (l m : List (Nat × Option AO)) (id : Nat) : lo (l ++ m) id = if id ∈ l.map (·.1) then lo l id else lo m id := by
  induction l with
  | nil => simp
  | cons p r ih =>
    obtain ⟨i, o⟩ := p
    rw [List.cons_append, lo_cons, lo_cons, ih]
    by_cases e : i = id
    · simp [e]
    · have : ¬ id = i := fun x => e x.symm
      simp only [List.map_cons, List.mem_cons, this, false_or, if_neg e]
theorem lo_rmv (obs : List (Nat × AO)) (id : Nat) : lo (rmv obs) id = none := by
  induction obs with
  | nil => rfl
  | cons p r ih =>
    rw [show rmv (p :: r) = (p.1, none) :: rmv r from rfl, lo_cons]
    split
    · rfl
    · exact ih
structure Objs (w : World) (ox : Nat → Prop) (κ : Kap) (obs : List (Nat × AO)) : Prop where
  ob : ∀ id o, lo (sm obs) id = some o → ∃ k, κ id = some k ∧ RO w (fun b => ox b ∨ owned κ b) κ o k
  live : ∀ id k, κ id = some k → ∃ o, lo (sm obs) id = some o
  inj : ∀ i j k l b, κ i = some k → κ j = some l → k.blk = some b → l.blk = some b → i = j
  dis : ∀ b, owned κ b → ¬ ox b
def CallOK (P : Program) (f : FuncId) (args : List AV) (obs : List (Nat × AO)) (r : AV) (obs' : List (Nat × AO)) : Prop :=
  ∀ (ox : Nat → Prop) (w : World) (κ : Kap) (cargs : Array Value), (∀ b, ox b → b < w.heap.size) → Objs w ox κ obs → Rv w (fun b => ox b ∨ owned κ b) κ args cargs.toList →
    Calls P f cargs w fun e w' => ∃ v κ', e = .returned v ∧ Fr (owned κ) w w' ∧ Objs w' ox κ' obs' ∧ R w' (fun b => ox b ∨ owned κ' b) κ' r v ∧
      (∀ b, owned κ' b → b < w.heap.size → owned κ b) ∧ ∀ id k, κ id = some k → id ∈ keys obs' → κ' id = some k
mutual
def AV.only (ks : List Nat) : AV → Bool
  | .hnd i | .ptr i _ | .eptr i _ _ _ | .vw i _ _ _ _ => ks.contains i
  | .agg cs | .tup cs | .fn _ cs => onlyL ks cs
  | .ifc _ x => x.only ks
  | _ => true
def onlyL (ks : List Nat) : List AV → Bool
  | [] => true
  | x :: xs => x.only ks && onlyL ks xs
end
mutual
theorem only_men {ks : List Nat} {j : Nat} (hj : j ∉ ks) : ∀ x : AV, x.only ks = true → x.men j = false
  | .hnd i, h => by simp [AV.only, AV.men] at h ⊢; rintro rfl; exact hj h
  | .ptr i _, h => by simp [AV.only, AV.men] at h ⊢; rintro rfl; exact hj h
  | .eptr i _ _ _, h => by simp [AV.only, AV.men] at h ⊢; rintro rfl; exact hj h
  | .vw i _ _ _ _, h => by simp [AV.only, AV.men] at h ⊢; rintro rfl; exact hj h
  | .agg cs, h => by simp only [AV.only, AV.men] at h ⊢; exact onlyL_men hj cs h
  | .tup cs, h => by simp only [AV.only, AV.men] at h ⊢; exact onlyL_men hj cs h
  | .fn _ cs, h => by simp only [AV.only, AV.men] at h ⊢; exact onlyL_men hj cs h
  | .ifc _ x, h => by simp only [AV.only, AV.men] at h ⊢; exact only_men hj x h
  | .fz _, _ => rfl
  | .undef, _ => rfl
  | .sc _, _ => rfl
  | .lst _ _, _ => rfl
  | .ipt _ _, _ => rfl
theorem onlyL_men {ks : List Nat} {j : Nat} (hj : j ∉ ks) : ∀ xs : List AV, onlyL ks xs = true → menL j xs = false
  | [], _ => rfl
  | x :: xs, h => by
    simp only [onlyL, Bool.and_eq_true] at h
    simp only [menL, only_men hj x h.1, onlyL_men hj xs h.2, Bool.or_self]
end
def AO.only (ks : List Nat) : AO → Bool
  | .box cells => onlyL ks cells
  | .arr _ _ _ => true
  | .mp _ => true
theorem AO.only_men {ks : List Nat} {j : Nat} (hj : j ∉ ks) (o : AO) (h : o.only ks = true) : o.men j = false := by
  cases o with
  | box => exact onlyL_men hj _ h
  | arr => rfl
  | mp => rfl
section
variable {C : Ctx} {κ : Kap} {s : AS} {a : Act} {w : World}
def kapP (κ : Kap) (ks : List Nat) : Kap := fun i => if i ∈ ks then κ i else none
def kapN (κ κ' : Kap) (ks : List Nat) : Kap := fun i => if i ∈ ks then κ' i else κ i
theorem G.call0 (h : G C κ s a w) {obs obs' : List (Nat × AO)} {ox : Nat → Prop} {κ' : Kap} {w' : World} (hσ : ∀ id o, lo (sm obs) id = some o → lo s.ob id = some o)
    (hfr : ∀ id, id ∈ keys obs' → id ∈ keys obs ∨ s.fresh C.ob0 id) (hF : Fr (owned (kapP κ (keys obs))) w w') (hO : Objs w' ox κ' obs')
    (hold : ∀ b, owned κ' b → b < w.heap.size → owned (kapP κ (keys obs)) b) (hkeep : ∀ id k, kapP κ (keys obs) id = some k → id ∈ keys obs' → κ' id = some k)
    (honly : obs'.all (fun p => p.2.only (keys obs' ++ keys obs)) = true)
    (hRO : ∀ id o k, (id, o) ∈ obs' → RO w' (fun b => ox b ∨ owned κ' b) κ' o k → RO w' (OW C (kapN κ κ' (keys obs' ++ keys obs))) κ' o k) :
    G C (kapN κ κ' (keys obs' ++ keys obs)) { s with ob := sm obs' ++ rmv obs ++ s.ob } a w' ∧ Keeps w (OW C κ) w' (OW C (kapN κ κ' (keys obs' ++ keys obs))) := by
  have hκ' : ∀ i k, κ' i = some k → i ∈ keys obs' := fun i k e => by obtain ⟨o, ho⟩ := hO.live i k e; exact keys_of_lo ho
  have hp : ∀ i k, i ∈ keys obs → κ i = some k → kapP κ (keys obs) i = some k := fun i k hi e => by simp [kapP, hi, e]
  have hpo : ∀ b, owned (kapP κ (keys obs)) b → owned κ b := by
    rintro b ⟨i, k, e, hb⟩
    simp only [kapP] at e
    split at e
    · exact ⟨i, k, e, hb⟩
    · cases e
  have hnk : ∀ i k, i ∉ keys obs → κ i = some k → i ∉ keys obs' := fun i k hi e hi' => by
    rcases hfr i hi' with h1 | h1
    · exact hi h1
    · obtain ⟨o, ho⟩ := h.live i k e
      rw [h1.n] at ho; cases ho
  have cases_ : ∀ i k, kapN κ κ' (keys obs' ++ keys obs) i = some k → (κ' i = some k ∧ i ∈ keys obs') ∨ (κ i = some k ∧ i ∉ keys obs' ∧ i ∉ keys obs) := by
    intro i k e
    simp only [kapN] at e
    split at e
    · exact .inl ⟨e, hκ' i k e⟩
    · rename_i hn; simp at hn; exact .inr ⟨e, hn.1, hn.2⟩
  have hown : ∀ b, owned (kapN κ κ' (keys obs' ++ keys obs)) b → owned κ' b ∨ ∃ i k, κ i = some k ∧ k.blk = some b ∧ i ∉ keys obs' ∧ i ∉ keys obs := by
    rintro b ⟨i, k, e, hb⟩
    rcases cases_ i k e with ⟨e, _⟩ | ⟨e, h1, h2⟩
    · exact .inl ⟨i, k, e, hb⟩
    · exact .inr ⟨i, k, e, hb, h1, h2⟩
  have hkp : Keeps w (OW C κ) w' (OW C (kapN κ κ' (keys obs' ++ keys obs))) := by
    refine ⟨hF.size, fun b hb hn => ⟨?_, hF.block b hb fun e => hn (.inr (hpo b e))⟩⟩
    rintro (hx | hx)
    · exact hn (.inl hx)
    · rcases hown b hx with e | ⟨i, k, e, hb', _⟩
      · exact hn (.inr (hpo b (hold b e hb)))
      · exact hn (.inr ⟨i, k, e, hb'⟩)
  have hcomp : ∀ i k, kapN κ κ' (keys obs' ++ keys obs) i = some k → κ i = some k ∨ (i ∈ keys obs' ∧ s.fresh C.ob0 i) := by
    intro i k e
    rcases cases_ i k e with ⟨e, hi⟩ | ⟨e, _⟩
    · rcases hfr i hi with h1 | h1
      · obtain ⟨o, ho⟩ := lo_sm_keys h1
        obtain ⟨k1, hk1, _⟩ := h.ob i o (hσ i o ho)
        have := hkeep i k1 (hp i k1 h1 hk1) hi
        rw [e] at this; cases this; exact .inl hk1
      · exact .inr ⟨hi, h1⟩
    · exact .inl e
  have hlo : ∀ id, lo (sm obs' ++ rmv obs ++ s.ob) id = if id ∈ keys obs' then lo (sm obs') id else if id ∈ keys obs then none else lo s.ob id := by
    intro id
    have e1 : (sm obs').map (·.1) = keys obs' := by simp [sm, keys, Function.comp_def]
    have e2 : (rmv obs).map (·.1) = keys obs := by simp [rmv, keys, Function.comp_def]
    rw [List.append_assoc, lo_append, e1, lo_append, e2, lo_rmv]
  refine ⟨{
    tm := fun t => R_men hkp _ _ (fun i k e => (hcomp i k e).imp (fun e => e) (fun e => e.2.t t)) (h.tm t)
    ob := fun id o ho => by
      rw [hlo] at ho
      split at ho
      · rename_i hi
        obtain ⟨k, hk, hr⟩ := hO.ob id o ho
        have hr2 := hRO id o k (lo_sm_mem ho) hr
        refine ⟨k, by simp [kapN, hi, hk], RO_men (Keeps.refl _ _) (fun _ _ => rfl) (fun j l e => ?_) hr2⟩
        by_cases hj : j ∈ keys obs' ++ keys obs
        · simp only [kapN, hj, if_true] at e; exact .inl e
        · exact .inr (AO.only_men hj o (List.all_eq_true.1 honly (id, o) (lo_sm_mem ho)))
      · split at ho
        · cases ho
        · rename_i h1 h2
          obtain ⟨k, hk, hr⟩ := h.ob id o ho
          refine ⟨k, by simp [kapN, h1, h2, hk], RO_men hkp (fun b hb => hF.block b (RO_lt hr hb) fun e => ?_) (fun j l e => (hcomp j l e).imp (fun e => e) (fun e => e.2.o id o ho)) hr⟩
          obtain ⟨j, l, e, hb'⟩ := e
          simp only [kapP] at e
          split at e
          · have := h.inj id j k l b hk e hb hb'; subst this; contradiction
          · cases e
    live := fun id k e => by
      rw [hlo]
      rcases cases_ id k e with ⟨e, hi⟩ | ⟨e, h1, h2⟩
      · rw [if_pos hi]; exact hO.live id k e
      · rw [if_neg h1, if_neg h2]; exact h.live id k e
    inj := fun i j k l b hi hj hb hb' => by
      rcases cases_ i k hi with ⟨e1, m1⟩ | ⟨e1, m1, n1⟩ <;> rcases cases_ j l hj with ⟨e2, m2⟩ | ⟨e2, m2, n2⟩
      · exact hO.inj i j k l b e1 e2 hb hb'
      · exfalso
        have hlt := h.fresh_lt b (.inr ⟨j, l, e2, hb'⟩)
        obtain ⟨q, m, e, hq⟩ := hold b ⟨i, k, e1, hb⟩ hlt
        simp only [kapP] at e
        split at e
        · have := h.inj j q l m b e2 e hb' hq; subst this; contradiction
        · cases e
      · exfalso
        have hlt := h.fresh_lt b (.inr ⟨i, k, e1, hb⟩)
        obtain ⟨q, m, e, hq⟩ := hold b ⟨j, l, e2, hb'⟩ hlt
        simp only [kapP] at e
        split at e
        · have := h.inj i q k m b e1 e hb hq; subst this; contradiction
        · cases e
      · exact h.inj i j k l b e1 e2 hb hb'
    size := h.size
    dfs := h.dfs
    fr := ⟨hF.os.trans h.fr.os, hF.tape.trans h.fr.tape, hF.output.trans h.fr.output, Nat.le_trans h.fr.size hF.size, fun b hb hn =>
      (hF.block b (Nat.lt_of_lt_of_le hb h.fr.size) fun e => hn ((h.old b (hpo b e)).1 hb)).trans (h.fr.block b hb hn)⟩
    old := fun b hb => by
      rcases hown b hb with e | ⟨i, k, e, hb', _⟩
      · by_cases hlt : b < w.heap.size
        · exact h.old b (hpo b (hold b e hlt))
        · have := h.fr.size
          exact ⟨fun hl => by omega, fun hx => by have := C.hox b hx; omega⟩
      · exact h.old b ⟨i, k, e, hb'⟩
    keep := fun id k e => by
      simp only [kapN]
      split
      · rename_i hi
        cases hk' : κ' id with
        | none => exact .inl rfl
        | some k1 =>
          right
          have hi' := hκ' id k1 hk'
          rcases hfr id hi' with h1 | h1
          · obtain ⟨o, ho⟩ := lo_sm_keys h1
            obtain ⟨k2, hk2, _⟩ := h.ob id o (hσ id o ho)
            have := hkeep id k2 (hp id k2 h1 hk2) hi'
            rw [hk'] at this; cases this
            rcases h.keep id k e with e' | e'
            · rw [hk2] at e'; cases e'
            · rw [hk2] at e'; exact e'
          · obtain ⟨o, ho⟩ := C.hk0 id k e; rw [h1.c] at ho; cases ho
      · exact h.keep id k e }, hkp⟩
theorem Objs.pass (h : G C κ s a w) {obs : List (Nat × AO)} (hσ : ∀ id o, lo (sm obs) id = some o → lo s.ob id = some o) :
    (fun b => (OW C κ b ∧ ¬ owned (kapP κ (keys obs)) b) ∨ owned (kapP κ (keys obs)) b) = OW C κ ∧ Objs w (fun b => OW C κ b ∧ ¬ owned (kapP κ (keys obs)) b) (kapP κ (keys obs)) obs := by
  have hpo : ∀ b, owned (kapP κ (keys obs)) b → owned κ b := by
    rintro b ⟨i, k, e, hb⟩
    simp only [kapP] at e
    split at e
    · exact ⟨i, k, e, hb⟩
    · cases e
  have hle : ∀ i k, kapP κ (keys obs) i = some k → κ i = some k ∧ i ∈ keys obs := by
    intro i k e
    simp only [kapP] at e
    split at e
    · exact ⟨e, ‹_›⟩
    · cases e
  have hE : (fun b => (OW C κ b ∧ ¬ owned (kapP κ (keys obs)) b) ∨ owned (kapP κ (keys obs)) b) = OW C κ := by
    funext b
    apply propext
    constructor
    · rintro (h1 | h1)
      · exact h1.1
      · exact .inr (hpo b h1)
    · intro h1
      by_cases h2 : owned (kapP κ (keys obs)) b
      · exact .inr h2
      · exact .inl ⟨h1, h2⟩
  refine ⟨hE, ?_, ?_, ?_, ?_⟩
  · intro id o ho
    obtain ⟨k, hk, hr⟩ := h.ob id o (hσ id o ho)
    refine ⟨k, by simp [kapP, keys_of_lo ho, hk], ?_⟩
    rw [hE]
    exact RO_men (Keeps.refl _ _) (fun _ _ => rfl) (fun i l e => .inl (hle i l e).1) hr
  · intro id k e; exact lo_sm_keys (hle id k e).2
  · intro i j k l b hi hj hb hb'; exact h.inj i j k l b (hle i k hi).1 (hle j l hj).1 hb hb'
  · intro b hb hx; exact hx.2 hb
end
end Go.Proofs.YthlchdnbokhclaaGreat.Ql
namespace Go.Proofs.YthlchdnbokhclaaGreat.Ql
open Go
def FnOK (P : Program) (g : FuncId) : Prop := (P.funcs[g]?).map (fun fn => (fn.name == "runtime.NumGoroutine", fn.body.isNone)) = some (false, false)
def MethOK (P : Program) (t : TypeId) (name : String) (g : FuncId) : Prop := ∀ (w : World) (v : Value), (∀ a, v = .pointer a → a ≠ none) → (method (P.types.size + Made.depth) t v name).run P w = .ok (g, v) w
def AV.recv : AV → Bool
  | .agg _ | .ipt _ _ => true
  | .fz (.agg _) | .fz (.ipt _ _) => true
  | _ => false
inductive Cal (P : Program) : Oper → (Operand → AV) → FuncId → List AV → Prop
  | value {o ρ f xs ts g caps args} (ho : o.op = .call { callee := .value f, args := xs, argTypes := ts }) (hf : ρ f = .fn g caps) (hg : FnOK P g) (ha : SubV (xs.toList.map ρ ++ caps) args) : Cal P o ρ g args
  | invoke {o ρ x name ts t y g} (ho : o.op = .call { callee := .invoke x name, args := #[], argTypes := ts }) (hx : ρ x = .ifc t y) (hg : FnOK P g) (hm : MethOK P t name g)
      (hy : y.recv = true) : Cal P o ρ g [y]
inductive Dr (σ : Nat → Option AO) (ks : List Nat) : AV → AV → Prop
  | imm {x} (h : x.im = true) : Dr σ ks x x
  | clean {x} (h : x.only [] = true) : Dr σ ks x x
  | fz {x y} (h : Dr σ ks x y) : Dr σ ks x (.fz y)
  | unfz {x} : Dr σ ks (.fz x) x
  | hnd {id e sz rows} (hk : id ∈ ks) (h : σ id = some (.arr e sz rows)) (hi : rows.flatten.all AV.im = true) : Dr σ ks (.hnd id) (.lst sz rows)
  | ptr {id off cells cells'} (hk : id ∈ ks) (h : σ id = some (.box cells)) (hl : cells.length = cells'.length) (hc : ∀ (i : Nat) (x y : AV), cells[i]? = some x → cells'[i]? = some y → Dr σ ks x y) : Dr σ ks (.ptr id off) (.ipt cells' off)
  | agg {cs cs'} (hl : cs.length = cs'.length) (hc : ∀ (i : Nat) (x y : AV), cs[i]? = some x → cs'[i]? = some y → Dr σ ks x y) : Dr σ ks (.agg cs) (.agg cs')
  | fn {f cs cs'} (hl : cs.length = cs'.length) (hc : ∀ (i : Nat) (x y : AV), cs[i]? = some x → cs'[i]? = some y → Dr σ ks x y) : Dr σ ks (.fn f cs) (.fn f cs')
  | ifc {t x y} (h : Dr σ ks x y) : Dr σ ks (.ifc t x) (.ifc t y)
mutual
def AV.solid : AV → Bool
  | .lst _ _ | .ipt _ _ | .fz _ => false
  | .agg cs | .tup cs | .fn _ cs => solidL cs
  | .ifc _ x => x.solid
  | _ => true
def solidL : List AV → Bool
  | [] => true
  | x :: xs => x.solid && solidL xs
end
mutual
theorem R_solid {w : World} {ow ow' : Nat → Prop} {κ : Kap} : ∀ (x : AV) (v : Value), x.solid = true → R w ow κ x v → R w ow' κ x v
  | .undef, _, _, _ => by simp [R]
  | .sc _, _, _, h => by simpa [R] using h
  | .hnd _, _, _, h => by simpa only [R] using h
  | .ptr _ _, _, _, h => by simpa only [R] using h
  | .eptr _ _ _ _, _, _, h => by simpa only [R] using h
  | .vw _ _ _ _ _, _, _, h => by simpa only [R] using h
  | .fz _, _, hs, _ => by simp [AV.solid] at hs
  | .agg cs, v, hs, h => by
    simp only [R, AV.solid] at h hs ⊢; obtain ⟨vs, rfl, hv⟩ := h; exact ⟨vs, rfl, Rv_solid cs _ hs hv⟩
  | .tup cs, v, hs, h => by
    simp only [R, AV.solid] at h hs ⊢; obtain ⟨vs, rfl, hv⟩ := h; exact ⟨vs, rfl, Rv_solid cs _ hs hv⟩
  | .fn _ cs, v, hs, h => by
    simp only [R, AV.solid] at h hs ⊢; obtain ⟨vs, rfl, hv⟩ := h; exact ⟨vs, rfl, Rv_solid cs _ hs hv⟩
  | .ifc _ x, v, hs, h => by
    simp only [R, AV.solid] at h hs ⊢; obtain ⟨y, rfl, hv⟩ := h; exact ⟨y, rfl, R_solid x _ hs hv⟩
  | .lst _ _, _, hs, _ => by simp [AV.solid] at hs
  | .ipt _ _, _, hs, _ => by simp [AV.solid] at hs
theorem Rv_solid {w : World} {ow ow' : Nat → Prop} {κ : Kap} : ∀ (xs : List AV) (vs : List Value), solidL xs = true → Rv w ow κ xs vs → Rv w ow' κ xs vs
  | [], vs, _, h => by simpa [Rv] using h
  | x :: xs, vs, hs, h => by
    simp only [Rv, solidL, Bool.and_eq_true] at h hs ⊢
    obtain ⟨v, r, rfl, hv, hr⟩ := h
    exact ⟨v, r, rfl, R_solid x v hs.1 hv, Rv_solid xs r hs.2 hr⟩
end
def AO.solid : AO → Bool
  | .box cells => solidL cells
  | .arr _ _ rows => solidL rows.flatten
  | .mp _ => true
theorem RO_solid {w : World} {ow ow' : Nat → Prop} {κ : Kap} {o : AO} {k : KO} (hs : o.solid = true) (h : RO w ow κ o k) : RO w ow' κ o k := by
  cases o with
  | box cells => obtain ⟨b, cur, e, h1, h2, h3, h4⟩ := h; exact ⟨b, cur, e, h1, h2, Rv_solid _ _ hs h3, h4⟩
  | arr e sz rows => obtain ⟨u, vals, h1, h2, h3, h4⟩ := h; exact ⟨u, vals, h1, h2, Rv_solid _ _ hs h3, h4⟩
  | mp es => exact h
inductive Cl (P : Program) : Oper → (Operand → AV) → (Nat → Option AO) → List Nat → AV → List (Nat × Option AO) → Prop
  | call {o ρ σ g args obs r obs'} (hc : Cal P o ρ g args) (hok : CallOK P g args obs r obs') (hσ : ∀ id o, lo (sm obs) id = some o → σ id = some o)
      (hr : r.only (keys obs' ++ keys obs) = true) (ho : obs'.all (fun p => p.2.only (keys obs' ++ keys obs)) = true) : Cl P o ρ σ (keys obs) r (sm obs' ++ rmv obs)
  | lend {o ρ σ g args args' ks r obs'} (hc : Cal P o ρ g args) (hl : args.length = args'.length) (hd : ∀ (i : Nat) (x y : AV), args[i]? = some x → args'[i]? = some y → Dr σ ks x y) (hok : CallOK P g args' [] r obs')
      (hr : r.only (keys obs') = true) (ho : obs'.all (fun p => p.2.only (keys obs')) = true) (hs : r.solid = true) (hs' : obs'.all (fun p => p.2.solid) = true) (hk : (keys obs').all (fun i => !ks.contains i) = true) : Cl P o ρ σ ks r (sm obs')
section
variable {P : Program} {C : Ctx} {κ : Kap} {s : AS} {a : Act} {w : World} {o : Oper}
theorem run_callFunc {g : FuncId} (hg : FnOK P g) (args : Array Value) : (callFunc g args).run P w = .ok (.enter g args) w := by
  unfold FnOK at hg
  cases hf : P.funcs[g]? with
  | none => simp [hf] at hg
  | some fn =>
    simp [hf] at hg
    have h2 : ¬ fn.body = none := by
      intro h; rw [h] at hg; simp at hg
    simp [callFunc, hf, hg.1]
    exact fun h => absurd h h2
theorem Rv_map (hg : G C κ s a w) : ∀ xs : List Operand, Rv w (OW C κ) κ (xs.map (Ql.ev s.tm)) (xs.map a.eval)
  | [] => by simp [Rv]
  | x :: xs => by simp only [List.map_cons, Rv]; exact ⟨_, _, rfl, hg.ev x, Rv_map hg xs⟩
theorem Cal.run {g : FuncId} {args : List AV} (hc : Cal P o (Ql.ev s.tm) g args) (hg : G C κ s a w) :
    ∃ cargs : Array Value, (execOp a.eval o).run P w = .ok (.enter g cargs) w ∧ Rv w (OW C κ) κ args cargs.toList := by
  cases hc with
  | value ho hf hgk ha =>
    rename_i f xs ts caps
    have hF := hg.ev f; rw [hf] at hF; simp only [R] at hF
    obtain ⟨vs, hfv, hcaps⟩ := hF
    refine ⟨xs.map a.eval ++ vs, ?_, ?_⟩
    · simp [execOp, ho, resolve, hfv, Deferred.ofValue, Go.invoke, run_callFunc hgk]
    · simp only [Array.toList_append, Array.toList_map]
      exact Rv_sub ha (Rv_append (Rv_map hg xs.toList) hcaps)
  | invoke ho hx hgk hm hy =>
    rename_i x name ts t y
    have hX := hg.ev x; rw [hx] at hX; simp only [R] at hX
    obtain ⟨u, hxu, hu⟩ := hX
    refine ⟨#[u], ?_, by simp only [Rv]; exact ⟨u, [], rfl, hu, rfl⟩⟩
    have hm' := hm w u (fun p hp => by
      subst hp
      cases y with
      | agg cs => simp only [R] at hu; obtain ⟨_, e, _⟩ := hu; cases e
      | ipt cells off => simp only [R, RI] at hu; obtain ⟨_, _, e, _⟩ := hu; cases e; simp
      | fz y =>
        cases y with
        | agg cs => simp only [R, RI] at hu; obtain ⟨_, e, _⟩ := hu; cases e
        | ipt cells off => simp only [R, RI] at hu; obtain ⟨_, _, e, _⟩ := hu; cases e; simp
        | _ => simp [AV.recv] at hy
      | _ => simp [AV.recv] at hy)
    simp [execOp, ho, resolve, Go.invoke, hxu, callMethod, hm', run_callFunc hgk]
theorem wp_enter {next : Act → World → Prop} {Q : Exit → Act → World → Prop} {g : FuncId} {cargs : Array Value} {Rr : Ending → World → Prop} (h : (execOp a.eval o).run P w = .ok (.enter g cargs) w)
    (hc : Calls P g cargs w Rr) (hn : ∀ e w', Rr e w' → ∃ v, e = .returned v ∧ next (a.put o.dst v) w') : o.wp P a w next Q := by
  unfold Oper.wp
  rw [h]
  simp only [Oper.upon]
  refine hc.mono fun e w' hr => ?_
  obtain ⟨v, rfl, hv⟩ := hn e w' hr
  exact hv
mutual
theorem RI_of_only {w : World} {ow : Nat → Prop} {κ : Kap} : ∀ (x : AV) (v : Value), x.only [] = true → R w ow κ x v → RI w ow x v
  | .hnd id, v, ho, hx => by simp [AV.only] at ho
  | .ptr id off, v, ho, hx => by simp [AV.only] at ho
  | .eptr id sz i j, v, ho, hx => by simp [AV.only] at ho
  | .vw _ _ _ _ _, v, ho, hx => by simp [AV.only] at ho
  | .fz x, v, _, hx => by simp only [R] at hx; exact hx
  | .undef, _, _, _ => by simp [RI]
  | .sc _, _, _, hx => by simpa [R, RI] using hx
  | .agg cs, v, ho, hx => by
    simp only [R, RI, AV.only] at ho hx ⊢
    obtain ⟨vs, rfl, hv⟩ := hx
    exact ⟨vs, rfl, RIv_of_only cs vs.toList ho hv⟩
  | .tup cs, v, ho, hx => by
    simp only [R, RI, AV.only] at ho hx ⊢
    obtain ⟨vs, rfl, hv⟩ := hx
    exact ⟨vs, rfl, RIv_of_only cs vs.toList ho hv⟩
  | .fn f caps, v, ho, hx => by
    simp only [R, RI, AV.only] at ho hx ⊢
    obtain ⟨vs, rfl, hv⟩ := hx
    exact ⟨vs, rfl, RIv_of_only caps vs.toList ho hv⟩
  | .ifc t x, v, ho, hx => by
    simp only [R, RI, AV.only] at ho hx ⊢
    obtain ⟨y, rfl, hv⟩ := hx
    exact ⟨y, rfl, RI_of_only x y ho hv⟩
  | .lst sz rows, v, _, hx => by simp only [R] at hx; exact hx
  | .ipt cells off, v, _, hx => by simp only [R] at hx; exact hx
theorem RIv_of_only {w : World} {ow : Nat → Prop} {κ : Kap} : ∀ (xs : List AV) (vs : List Value), onlyL [] xs = true → Rv w ow κ xs vs → RIv w ow xs vs
  | [], vs, _, hx => by simpa [Rv, RIv] using hx
  | x :: xs, vs, ho, hx => by
    simp only [Rv, RIv, onlyL, Bool.and_eq_true] at ho hx ⊢
    obtain ⟨v, r, rfl, hv, hr⟩ := hx
    exact ⟨v, r, rfl, RI_of_only x v ho.1 hv, RIv_of_only xs r ho.2 hr⟩
end
theorem Dr.sound0 (hg : G C κ s a w) {ow' : Nat → Prop} (hK : Keeps w (OW C κ) w ow') {ks : List Nat} (hks : ∀ id ∈ ks, ∀ k b, κ id = some k → k.blk = some b → ¬ ow' b) {x y : AV} (h : Dr (lo s.ob) ks x y) : ∀ u, R w (OW C κ) κ x u → RI w ow' y u := by
  have lst : ∀ {xs ys : List AV} {vs : List Value}, xs.length = ys.length → Rv w (OW C κ) κ xs vs → (∀ (i : Nat) (x y : AV), xs[i]? = some x → ys[i]? = some y → ∀ u, R w (OW C κ) κ x u → RI w ow' y u) → RIv w ow' ys vs := by
    intro xs
    induction xs with
    | nil => intro ys vs hl hv _; cases ys with
      | nil => simp only [Rv] at hv; simp [RIv, hv]
      | cons _ _ => simp at hl
    | cons x xs ih =>
      intro ys vs hl hv hh
      cases ys with
      | nil => simp at hl
      | cons y ys =>
        simp only [Rv] at hv; obtain ⟨v, r, rfl, h1, h2⟩ := hv
        simp only [RIv]
        exact ⟨v, r, rfl, hh 0 x y rfl rfl v h1, ih (by simpa using hl) h2 fun i x y hx hy => hh (i + 1) x y (by simpa using hx) (by simpa using hy)⟩
  induction h with
  | imm hi => intro u hu; exact RI_mono hK _ _ (RI_of_R hi hu)
  | fz _ ih => intro u hu; simp only [RI]; exact ih u hu
  | unfz => intro u hu; simp only [R, RI] at hu; exact RI_mono hK _ _ hu
  | clean hi => intro u hu; exact RI_mono hK _ _ (RI_of_only _ _ hi hu)
  | @hnd id e sz rows hid h hi =>
    intro u hu
    obtain ⟨k, hk, hro⟩ := hg.obj h
    simp only [R] at hu
    have hku := hu.2 _ hk
    subst hku
    obtain ⟨u', vals, hu', hown, hv, hl, h1⟩ := hro
    cases hu'
    have hvI := RIv_mono hK _ _ (RI_all hv hi)
    simp only [RI]
    rcases hown.2 with ⟨hval, hz⟩ | ⟨g, cap, cur, hval, hb0, hgg, hnc, hcm, hcs, htk⟩
    · refine ⟨none, 0, by rw [hval]; simp [hz], by omega, .inl (List.eq_nil_of_length_eq_zero hz)⟩
    · refine ⟨_, cap, hval, hnc, .inr ⟨g, 0, rfl, (Array.getElem?_eq_some_iff.1 hgg).1, hks id hid _ g hk (by rw [hval]; rfl), chunk_RIr (fun r hr => (hl r hr).1) (RIc_of fun q x hq => ?_)⟩⟩
      obtain ⟨v, hv1, hv2⟩ := RIv_get hvI hq
      refine ⟨v, ?_, hv2, h1 v (List.mem_of_getElem? hv1)⟩
      have := hown.cells (g := g) (by rw [hval]; rfl) q v hv1
      rwa [Addr.add_lit] at this
  | @ptr id off cells cells' hid h hl hc ih =>
    intro u hu
    obtain ⟨k, hk, b, cur, e, rfl, hh, hv, h1⟩ := hg.obj h
    simp only [R] at hu
    obtain ⟨b', hb', rfl⟩ := hu.2 _ hk
    cases hb'
    simp only [RI]
    refine ⟨b, 0, by simp, (Array.getElem?_eq_some_iff.1 hh).1, hks id hid _ b hk rfl, RIc_of fun q y hq => ?_⟩
    have hql := (List.getElem?_eq_some_iff.1 hq).1
    have hx : cells[q]? = some (cells[q]'(by omega)) := List.getElem?_eq_getElem _
    obtain ⟨v, hv1, hv2⟩ := Rv_get hv hx
    refine ⟨v, ?_, ?_, h1 v (List.mem_of_getElem? hv1)⟩
    · rw [Nat.zero_add, cell_of_row w b q cur e (0, 0) hh]; simpa using hv1
    · exact ih q _ y hx hq v hv2
  | agg hl hc ih =>
    intro u hu
    simp only [R] at hu; obtain ⟨vs, rfl, hv⟩ := hu
    simp only [RI]
    exact ⟨vs, rfl, lst hl hv fun i x y hx hy u hu => ih i x y hx hy u hu⟩
  | fn hl hc ih =>
    intro u hu
    simp only [R] at hu; obtain ⟨vs, rfl, hv⟩ := hu
    simp only [RI]
    exact ⟨vs, rfl, lst hl hv fun i x y hx hy u hu => ih i x y hx hy u hu⟩
  | ifc _ ih =>
    intro u hu
    simp only [R] at hu; obtain ⟨v, rfl, hv⟩ := hu
    simp only [RI]
    exact ⟨v, rfl, ih v hv⟩
theorem Dr.sound (hg : G C κ s a w) {ks : List Nat} {x y : AV} (h : Dr (lo s.ob) ks x y) : ∀ u, R w (OW C κ) κ x u → RI w (fun _ => False) y u :=
  h.sound0 hg ⟨Nat.le_refl _, fun _ _ _ => ⟨fun h => h, rfl⟩⟩ (fun _ _ _ _ _ _ h => h)
end
end Go.Proofs.YthlchdnbokhclaaGreat.Ql
namespace Go.Proofs.YthlchdnbokhclaaGreat.Ql
open Go
section
variable {P : Program} {C : Ctx} {κ : Kap} {s : AS} {a : Act} {w : World} {o : Oper}
theorem G.apply_ob {dst : Option Tmp} (hd : ∀ d, dst = some d → d < C.n) {v : AV} {u : Value} {wr : List (Nat × Option AO)} {κ' : Kap} {w' : World}
    (h : G C κ' { s with ob := wr ++ s.ob } a w') (hr : R w' (OW C κ') κ' v u) : G C κ' (apply s dst v wr) (a.put dst u) w' := by
  have := h.putd hd hr
  cases dst <;> simpa [apply] using this
theorem Cl.sound {rd : List Nat} {v : AV} {wr : List (Nat × Option AO)} (hcl : Cl P o (Ql.ev s.tm) (lo s.ob) rd v wr) (hg : G C κ s a w) (hd : ∀ d, o.dst = some d → d < C.n)
    (hf : ∀ p ∈ wr, p.1 ∈ rd ∨ s.fresh C.ob0 p.1)
    {next : Act → World → Prop} {Q : Exit → Act → World → Prop} (hn : Fin C s o v wr next) : o.wp P a w next Q := by
  cases hcl with
  | call hc hok hσ hr ho =>
    rename_i g args obs obs'
    obtain ⟨cargs, hrun, hargs⟩ := hc.run hg
    obtain ⟨hE, hO⟩ := Objs.pass hg hσ
    have hle : ∀ i k, kapP κ (keys obs) i = some k → κ i = some k := by
      intro i k e
      simp only [kapP] at e
      split at e
      · exact e
      · cases e
    have hcall := hok (fun b => OW C κ b ∧ ¬ owned (kapP κ (keys obs)) b) w (kapP κ (keys obs)) cargs (fun b hb => hg.fresh_lt b hb.1) hO (by rw [hE]; exact Rv_mono (Keeps.refl _ _) hle _ _ hargs)
    refine wp_enter hrun hcall ?_
    rintro e w' ⟨u, κ', rfl, hF, hO', hR, hold, hkeep⟩
    refine ⟨u, rfl, hn _ _ ⟨kapN κ κ' (keys obs' ++ keys obs), ?_⟩⟩
    have hfr : ∀ id, id ∈ keys obs' → id ∈ keys obs ∨ s.fresh C.ob0 id := fun id hid => by
      obtain ⟨p, hp, rfl⟩ := List.mem_map.1 hid
      exact hf (p.1, some p.2) (List.mem_append.2 (.inl (List.mem_map.2 ⟨p, hp, rfl⟩)))
    have hpo : ∀ b, owned (kapP κ (keys obs)) b → owned κ b := by
      rintro b ⟨i, k, e, hb⟩; exact ⟨i, k, hle i k e, hb⟩
    have hκ' : ∀ i k, κ' i = some k → i ∈ keys obs' := fun i k e => by obtain ⟨o, ho⟩ := hO'.live i k e; exact keys_of_lo ho
    have hOW : (fun b => (OW C κ b ∧ ¬ owned (kapP κ (keys obs)) b) ∨ owned κ' b) = OW C (kapN κ κ' (keys obs' ++ keys obs)) := by
      funext b
      apply propext
      constructor
      · rintro (⟨h1 | ⟨i, k, e, hb⟩, h2⟩ | ⟨i, k, e, hb⟩)
        · exact .inl h1
        · have hi : i ∉ keys obs := fun hi => h2 ⟨i, k, by simp [kapP, hi, e], hb⟩
          have hi' : i ∉ keys obs' := fun hi' => by
            rcases hfr i hi' with h3 | h3
            · exact hi h3
            · obtain ⟨o, ho⟩ := hg.live i k e; rw [h3.n] at ho; cases ho
          exact .inr ⟨i, k, by simp [kapN, hi, hi', e], hb⟩
        · exact .inr ⟨i, k, by simp [kapN, hκ' i k e, e], hb⟩
      · rintro (h1 | ⟨i, k, e, hb⟩)
        · by_cases h2 : owned (kapP κ (keys obs)) b
          · exact absurd h1 (hg.old b (hpo b h2)).2
          · exact .inl ⟨.inl h1, h2⟩
        · simp only [kapN] at e
          split at e
          · exact .inr ⟨i, k, e, hb⟩
          · rename_i hi
            simp at hi
            refine .inl ⟨.inr ⟨i, k, e, hb⟩, ?_⟩
            rintro ⟨j, l, ej, hbj⟩
            simp only [kapP] at ej
            split at ej
            · have := hg.inj i j k l b e ej hb hbj; subst this; exact hi.2 ‹_›
            · cases ej
    have hcore := hg.call0 hσ hfr hF hO' hold hkeep ho (fun id o k hm hro => by rw [← hOW]; exact hro)
    refine G.apply_ob hd hcore.1 ?_
    rw [← hOW]
    refine R_men (Keeps.refl _ _) _ _ (fun id k e => ?_) hR
    by_cases hj : id ∈ keys obs' ++ keys obs
    · simp only [kapN, hj, if_true] at e; exact .inl e
    · exact .inr (only_men hj _ hr)
  | lend hc hl hdr hok hr ho hs hs' hkk =>
    rename_i g args args' obs'
    obtain ⟨cargs, hrun, hargs⟩ := hc.run hg
    have hnone : ∀ b, ¬ owned (kapP κ (keys [])) b := by
      rintro b ⟨i, k, e, _⟩; simp [kapP, keys] at e
    have hE : (fun b : Nat => False ∨ owned (kapP κ (keys [])) b) = fun _ => False := by funext b; apply propext; simp [hnone b]
    have hO : Objs w (fun _ => False) (kapP κ (keys [])) [] := ⟨fun id o ho => by simp [sm, lo] at ho, fun id k e => by simp [kapP, keys] at e, fun i j k l b e => by simp [kapP, keys] at e, fun b hb => absurd hb (hnone b)⟩
    have hA : RIv w (fun _ => False) args' cargs.toList := by
      have : ∀ {xs ys : List AV} {vs : List Value}, xs.length = ys.length → Rv w (OW C κ) κ xs vs → (∀ (i : Nat) (x y : AV), xs[i]? = some x → ys[i]? = some y → ∀ u, R w (OW C κ) κ x u → RI w (fun _ => False) y u) → RIv w (fun _ => False) ys vs := by
        intro xs
        induction xs with
        | nil => intro ys vs hl hv _; cases ys with
          | nil => simp only [Rv] at hv; simp [RIv, hv]
          | cons _ _ => simp at hl
        | cons x xs ih =>
          intro ys vs hl hv hh
          cases ys with
          | nil => simp at hl
          | cons y ys =>
            simp only [Rv] at hv; obtain ⟨v, r, rfl, h1, h2⟩ := hv
            simp only [RIv]
            exact ⟨v, r, rfl, hh 0 x y rfl rfl v h1, ih (by simpa using hl) h2 fun i x y hx hy => hh (i + 1) x y (by simpa using hx) (by simpa using hy)⟩
      exact this hl hargs fun i x y hx hy => (hdr i x y hx hy).sound hg
    have hcall := hok (fun _ => False) w (kapP κ (keys [])) cargs (fun b hb => hb.elim) hO (by rw [hE]; exact Rv_of_RIv _ _ hA)
    refine wp_enter hrun hcall ?_
    rintro e w' ⟨u, κ', rfl, hF, hO', hR, hold, hkeep⟩
    refine ⟨u, rfl, hn _ _ ⟨kapN κ κ' (keys obs' ++ keys []), ?_⟩⟩
    have hfr : ∀ id, id ∈ keys obs' → id ∈ keys [] ∨ s.fresh C.ob0 id := fun id hid => by
      obtain ⟨p, hp, rfl⟩ := List.mem_map.1 hid
      rcases hf (p.1, some p.2) (List.mem_map.2 ⟨p, hp, rfl⟩) with h1 | h1
      · have := List.all_eq_true.1 hkk _ hid
        simp at this
        exact absurd h1 this
      · exact .inr h1
    have hcore := hg.call0 (obs := []) (obs' := obs') (by intro id o h; simp [sm, lo] at h) hfr hF hO' hold hkeep (by simpa [keys] using ho)
      (fun id o k hm hro => RO_solid (List.all_eq_true.1 hs' (id, o) hm) hro)
    have hcore1 := hcore.1
    simp only [rmv, List.map_nil, List.append_nil] at hcore1
    refine G.apply_ob hd hcore1 ?_
    refine R_men (Keeps.refl _ _) _ _ (fun id k e => ?_) (R_solid _ _ hs hR)
    by_cases hj : id ∈ keys obs' ++ keys []
    · simp only [kapN, hj, if_true] at e; exact .inl e
    · exact .inr (only_men (by simpa [keys] using hj) _ hr)
end
end Go.Proofs.YthlchdnbokhclaaGreat.Ql
namespace Go.Proofs.YthlchdnbokhclaaGreat.Ql
open Go
section loc
variable {P : Program} {o : Oper} {ρ ρ' : Operand → AV} {σ σ' : Nat → Option AO} {rd : List Nat} {v : AV} {wr : List (Nat × Option AO)}
theorem Ax.loc (h : Ax P o ρ σ rd v wr) (H : ∀ x ∈ o.op.operands, ρ' x = ρ x) (S : ∀ i ∈ rd, σ' i = σ i) : Ax P o ρ' σ' rd v wr := by
  cases h
  case ext h => exact .ext (h.loc H S)
  case move ho hs =>
    refine .move ho ?_
    rw [H _ (by rcases ho with ho | ho <;> simp [ho, Op.operands])]; exact hs
  case load_ipt ho hz hx hs hl => exact .load_ipt ho hz (by rw [H _ (by simp [ho, Op.operands])]; exact hx) hs hl
  case load_box ho hz hx hb hs hl => exact .load_box ho hz (by rw [H _ (by simp [ho, Op.operands])]; exact hx) (by rw [S _ (by simp)]; exact hb) hs hl
  case load_arr ho hz hx hb hr hs hl => exact .load_arr ho hz (by rw [H _ (by simp [ho, Op.operands])]; exact hx) (by rw [S _ (by simp)]; exact hb) hr hs hl
  case field_ipt ho hf hx => exact .field_ipt ho hf (by rw [H _ (by simp [ho, Op.operands])]; exact hx)
  case field_ptr ho hf hx hb => exact .field_ptr ho hf (by rw [H _ (by simp [ho, Op.operands])]; exact hx) (by rw [S _ (by simp)]; exact hb)
  case field_eptr ho hf hx hb => exact .field_eptr ho hf (by rw [H _ (by simp [ho, Op.operands])]; exact hx) (by rw [S _ (by simp)]; exact hb)
  case index_lst ho ht hx hi h0 hr => exact .index_lst ho ht (by rw [H _ (by simp [ho, Op.operands])]; exact hx) (by rw [H _ (by simp [ho, Op.operands])]; exact hi) h0 hr
  case index_hnd ho ht hx hb hi h0 hr => exact .index_hnd ho ht (by rw [H _ (by simp [ho, Op.operands])]; exact hx) (by rw [S _ (by simp)]; exact hb) (by rw [H _ (by simp [ho, Op.operands])]; exact hi) h0 hr
  case index_ipt ho ht hx hi h0 hr => exact .index_ipt ho ht (by rw [H _ (by simp [ho, Op.operands])]; exact hx) (by rw [H _ (by simp [ho, Op.operands])]; exact hi) h0 hr
  case index_ptr ho ht hx hb hi h0 hr => exact .index_ptr ho ht (by rw [H _ (by simp [ho, Op.operands])]; exact hx) (by rw [S _ (by simp)]; exact hb) (by rw [H _ (by simp [ho, Op.operands])]; exact hi) h0 hr
  case store_box ho hz hx hb hy hl h1 hn => exact .store_box ho hz (by rw [H _ (by simp [ho, Op.operands])]; exact hx) (by rw [S _ (by simp)]; exact hb) (by rw [H _ (by simp [ho, Op.operands])]; exact hy) hl h1 hn
  case store_arr ho hz hx hb hr hy hl h1 hi hn => exact .store_arr ho hz (by rw [H _ (by simp [ho, Op.operands])]; exact hx) (by rw [S _ (by simp)]; exact hb) hr (by rw [H _ (by simp [ho, Op.operands])]; exact hy) hl h1 hi hn
  case alloc ho hd hz h1 hs => exact .alloc ho hd hz h1 hs
  case box_ipt ho hx h1 hi => exact .box_ipt ho (by rw [H _ (by simp [ho, Op.operands])]; exact hx) h1 hi
  case box_ptr ho hd hx h1 => exact .box_ptr ho hd (by rw [H _ (by simp [ho, Op.operands])]; exact hx) h1
  case build T z cs0 cs ps parts ho hz hp hb hs =>
    refine .build ho hz hp ?_ hs
    rw [List.map_congr_left (g := fun p => (p.1, ρ p.2)) (fun p hp => by rw [H p.2 (by simp only [ho, Op.operands, List.mem_toArray, List.mem_map]; exact ⟨p, hp, rfl⟩)])]
    exact hb
  case slice_lit T len e sz by_ z rows fl parts ho ht hn hb hsub hl hs h1 hi =>
    refine .slice_lit ho ht hn ?_ hsub hl hs h1 hi
    rw [List.map_congr_left (g := fun p => (p.1, ρ p.2)) (fun p hp => by rw [H p.2 (by simp only [ho, Op.operands, List.mem_toArray, List.mem_map]; exact ⟨p, hp, rfl⟩)])]
    exact hb
  case slice_obj T len e sz by_ z rows fl id parts ho ht hn hb hsub hl hs h1 hi =>
    refine .slice_obj ho ht hn ?_ hsub hl hs h1 hi
    rw [List.map_congr_left (g := fun p => (p.1, ρ p.2)) (fun p hp => by rw [H p.2 (by simp only [ho, Op.operands, List.mem_toArray, List.mem_map]; exact ⟨p, hp, rfl⟩)])]
    exact hb
  case slice_new ho hd ht => exact .slice_new ho hd ht
  case extract ho hx hv => exact .extract ho (by rw [H _ (by simp [ho, Op.operands])]; exact hx) hv
  case pick ho hc hv => exact .pick ho (by rw [H _ (by simp [ho, Op.operands])]; exact hc) (by rw [H _ (by simp [ho, Op.operands]), H _ (by simp [ho, Op.operands])]; exact hv)
  case bin ho hx hy hv => exact .bin ho (by rw [H _ (by simp [ho, Op.operands])]; exact hx) (by rw [H _ (by simp [ho, Op.operands])]; exact hy) hv
  case div ho hx hy hop hm => exact .div ho (by rw [H _ (by simp [ho, Op.operands])]; exact hx) (by rw [H _ (by simp [ho, Op.operands])]; exact hy) hop hm
  case binc ho hx hy hv => exact .binc ho (by rw [H _ (by simp [ho, Op.operands])]; exact hx) (by rw [H _ (by simp [ho, Op.operands])]; exact hy) hv
  case nilcmp ho hT hx hne => exact .nilcmp ho hT (by rw [H _ (by simp [ho, Op.operands])]; exact hx) hne
  case un ho hx hv => exact .un ho (by rw [H _ (by simp [ho, Op.operands])]; exact hx) hv
  case conv ho hx hv => exact .conv ho (by rw [H _ (by simp [ho, Op.operands])]; exact hx) hv
  case len_lst ho ht hx => exact .len_lst ho ht (by rw [H _ (by simp [ho, Op.operands, Call.operands])]; exact hx)
  case len_hnd ho ht hx hb => exact .len_hnd ho ht (by rw [H _ (by simp [ho, Op.operands, Call.operands])]; exact hx) (by rw [S _ (by simp)]; exact hb)
  case min ho hx hy => exact .min ho (by rw [H _ (by simp [ho, Op.operands, Call.operands])]; exact hx) (by rw [H _ (by simp [ho, Op.operands, Call.operands])]; exact hy)
  case max ho hx hy => exact .max ho (by rw [H _ (by simp [ho, Op.operands, Call.operands])]; exact hx) (by rw [H _ (by simp [ho, Op.operands, Call.operands])]; exact hy)
  case nil_ipt ho hx => exact .nil_ipt ho (by rw [H _ (by simp [ho, Op.operands])]; exact hx)
  case nil_ptr ho hx hb => exact .nil_ptr ho (by rw [H _ (by simp [ho, Op.operands])]; exact hx) (by rw [S _ (by simp)]; exact hb)
  case func f cs vs ho hv =>
    refine .func ho ?_
    rw [List.map_congr_left (g := ρ) (fun x hx => H x (by simp only [ho, Op.operands]; simpa using hx))]
    exact hv
  case iface ho hd hn =>
    rw [← H _ (by simp [ho, Op.operands])]
    exact .iface ho hd hn
  case sub T x lo hi e sz by_ z rows l h ho ht hx hlo hhi h1 h2 =>
    refine .sub ho ht (by rw [H _ (by simp [ho, Op.operands])]; exact hx) ?_ ?_ h1 h2
    · cases lo with
      | none => exact hlo
      | some y => simp only at hlo ⊢; rw [H y (by simp [ho, Op.operands])]; exact hlo
    · cases hi with
      | none => exact hhi
      | some y => simp only at hhi ⊢; rw [H y (by simp [ho, Op.operands])]; exact hhi
  case make ho hd ht hx hy hb h63 h1 => exact .make ho hd ht (by rw [H _ (by simp [ho, Op.operands])]; exact hx) (by rw [H _ (by simp [ho, Op.operands])]; exact hy) hb h63 h1
  case append ho hd ht hx hb hy h1 hi hn h63 hne => exact .append ho hd ht (by rw [H _ (by simp [ho, Op.operands, Call.operands])]; exact hx) (by rw [S _ (by simp)]; exact hb) (by rw [H _ (by simp [ho, Op.operands, Call.operands])]; exact hy) h1 hi hn h63 hne
  case append_nil ho hd ht hx hy h1 hi hn h63 => exact .append_nil ho hd ht (by rw [H _ (by simp [ho, Op.operands, Call.operands])]; exact hx) (by rw [H _ (by simp [ho, Op.operands, Call.operands])]; exact hy) h1 hi hn h63
  case nil_new e sz ho hx =>
    refine .nil_new e sz ho ?_
    rw [H _ (by rcases ho with ho | ho <;> simp [ho, Op.operands])]; exact hx
theorem Dr.loc {ks : List Nat} {x y : AV} (h : Dr σ ks x y) (S : ∀ i ∈ ks, σ' i = σ i) : Dr σ' ks x y := by
  induction h with
  | imm h => exact .imm h
  | clean h => exact .clean h
  | fz h ih => exact .fz ih
  | unfz => exact .unfz
  | hnd hk h hi => exact .hnd hk (by rw [S _ hk]; exact h) hi
  | ptr hk h hl hc ih => exact .ptr hk (by rw [S _ hk]; exact h) hl ih
  | agg hl hc ih => exact .agg hl ih
  | fn hl hc ih => exact .fn hl ih
  | ifc h ih => exact .ifc ih
theorem Cal.loc {g : FuncId} {args : List AV} : Cal P o ρ g args → (∀ x ∈ o.op.operands, ρ' x = ρ x) → Cal P o ρ' g args
  | .value (xs := xs) ho hf hg ha, H => by
    rw [List.map_congr_left (f := ρ) (g := ρ') (fun x hx => (H x (by simp only [ho, Op.operands, Call.operands]; simp; right; simpa using hx)).symm)] at ha
    exact .value ho (by rw [H _ (by simp [ho, Op.operands, Call.operands])]; exact hf) hg ha
  | .invoke ho hx hg hm hy, H => .invoke ho (by rw [H _ (by simp [ho, Op.operands, Call.operands])]; exact hx) hg hm hy
theorem Cl.loc : Cl P o ρ σ rd v wr → (∀ x ∈ o.op.operands, ρ' x = ρ x) → (∀ i ∈ rd, σ' i = σ i) → Cl P o ρ' σ' rd v wr
  | .call hc hok hσ hr ho, H, S => .call (hc.loc H) hok (fun id o h => by rw [S id (keys_of_lo h)]; exact hσ id o h) hr ho
  | .lend hc hl hd hok hr ho hs hs' hk, H, S => .lend (hc.loc H) hl (fun i x y hx hy => (hd i x y hx hy).loc S) hok hr ho hs hs' hk
end loc
structure It where
  o : Oper
  want : Bool
  v : AV
  rd : List Nat
  wr : List (Nat × Option AO)
def want (ops : Array Oper) (tm : List (Nat × AV)) (o : Oper) : Option Bool :=
  match o.guard with
  | none => some true
  | some (j, b) => match (ops[j]?).bind (·.dst) with
    | some d => match lk tm d with
      | .sc (.bool c) => some (c == b)
      | .tup [] => some false
      | _ => none
    | none => none
def ap (s : AS) (it : It) : AS := apply s it.o.dst it.v it.wr
def keysW (it : It) : List Nat := it.wr.map (·.1)
def newK (it : It) : List Nat := (keysW it).filter fun k => !it.rd.contains k
def St (P : Program) (n : Nat) (ops : Array Oper) (it : It) (s : AS) : Prop :=
  want ops s.tm it.o = some it.want ∧ (∀ d, it.o.dst = some d → d < n) ∧
  (it.want = true → Ax P it.o (Ql.ev s.tm) (lo s.ob) it.rd it.v it.wr ∨ Cl P it.o (Ql.ev s.tm) (lo s.ob) it.rd it.v it.wr) ∧
  (it.want = false → it.v = .tup [] ∧ it.wr = [])
def RunD (P : Program) (n : Nat) (ob0 : List (Nat × Option AO)) (ops : Array Oper) : List Oper → List It → AS → (List It → AS → Prop) → Prop
  | [], d, s, K => K d s
  | o :: rest, d, s, K => ∃ it : It, it.o = o ∧ St P n ops it s ∧ (∀ k ∈ newK it, s.fresh ob0 k) ∧ RunD P n ob0 ops rest (it :: d) (ap s it) K
section step
variable {P : Program} {C : Ctx} {κ : Kap} {s : AS} {a : Act} {w : World} {ops : Array Oper}
theorem want_sound (hg : G C κ s a w) {o : Oper} {b : Bool} (h : want ops s.tm o = some b) : Region.wanted o (yielded ops a.tmps) = b := by
  unfold want at h
  unfold Region.wanted
  cases hgd : o.guard with
  | none => simp [hgd] at h; simp [h]
  | some p =>
    obtain ⟨j, c⟩ := p
    simp only [hgd] at h
    cases hd : (ops[j]?).bind (·.dst) with
    | none => simp [hd] at h
    | some d =>
      simp only [hd] at h
      split at h
      · rename_i e he
        have hR := hg.tm d
        rw [he] at hR
        simp only [R] at hR
        have hlt : d < a.tmps.size := by
          rcases Nat.lt_or_ge d a.tmps.size with h1 | h1
          · exact h1
          · rw [Array.getD_eq_getD_getElem?, Array.getElem?_eq_none h1] at hR; simp [undef] at hR
        have hy : yielded ops a.tmps j = some e := by
          unfold yielded
          rw [hd]
          simp only [Option.bind_some]
          rw [Array.getD_eq_getD_getElem?, Array.getElem?_eq_getElem hlt] at hR
          simp at hR
          rw [Array.getElem?_eq_getElem hlt, hR]
        simp at h
        subst h
        simp [hy]
      · rename_i he
        have hR := hg.tm d
        rw [he] at hR
        simp only [R, Rv] at hR
        obtain ⟨vs, hv, hvs⟩ := hR
        have hy : yielded ops a.tmps j = none := by
          unfold yielded
          rw [hd]
          simp only [Option.bind_some]
          rcases Nat.lt_or_ge d a.tmps.size with hlt | hlt
          · rw [Array.getD_eq_getD_getElem?, Array.getElem?_eq_getElem hlt] at hv
            simp at hv
            rw [Array.getElem?_eq_getElem hlt, hv]
          · rw [Array.getElem?_eq_none hlt]
        simp at h
        subst h
        simp [hy]
      · cases h
theorem St.sound {it : It} {n : Nat} (hs : St P n ops it s) (hg : G C κ s a w) (hn : n ≤ C.n) (hf : ∀ k ∈ newK it, s.fresh C.ob0 k) {next : Act → World → Prop} {Q : Exit → Act → World → Prop}
    (hk : ∀ a' w', γ C (ap s it) a' w' → next a' w') :
    (if Region.wanted it.o (yielded ops a.tmps) then it.o.wp P a w next Q ∨ (it.o.asks P a w ∧ LetsOut Q) else next (a.put it.o.dst undef) w) := by
  obtain ⟨hw, hd, h1, h2⟩ := hs
  rw [want_sound hg hw]
  have hd' : ∀ d, it.o.dst = some d → d < C.n := fun d e => Nat.lt_of_lt_of_le (hd d e) hn
  cases hwt : it.want with
  | true =>
    simp only [if_true]
    left
    have hf' : ∀ p ∈ it.wr, p.1 ∈ it.rd ∨ s.fresh C.ob0 p.1 := by
      intro p hp
      by_cases hr : p.1 ∈ it.rd
      · exact .inl hr
      · exact .inr (hf p.1 (List.mem_filter.2 ⟨List.mem_map.2 ⟨p, hp, rfl⟩, by simpa using hr⟩))
    rcases h1 hwt with hax | hcl
    · exact hax.sound hg hd' hf' hk
    · exact hcl.sound hg hd' hf' hk
  | false =>
    simp only [Bool.false_eq_true, if_false]
    obtain ⟨hv, hwr⟩ := h2 hwt
    refine hk _ _ ⟨κ, ?_⟩
    unfold ap
    rw [hv, hwr]
    exact hg.putd hd' (by simp only [R, Rv]; exact ⟨#[], rfl, rfl⟩)
theorem range_ops {ops : Array Oper} : (List.range ops.size).map (ops[·]?) = ops.toList.map some := by
  apply List.ext_getElem?
  intro i
  simp only [List.getElem?_map]
  by_cases h : i < ops.size
  · simp [List.getElem?_range h, Array.getElem?_eq_getElem h]
  · simp [Nat.le_of_not_lt h]
theorem RunD.text {n : Nat} (hn : n ≤ C.n) {Q : Exit → Act → World → Prop} {K : List It → AS → Prop} : ∀ (is : List Nat) (os : List Oper) (d : List It) (s : AS) (a : Act) (w : World), is.map (ops[·]?) = os.map some →
    RunD P n C.ob0 ops os d s K → γ C s a w → (∀ d s a w, K d s → γ C s a w → Q .normal a w) → wpOps P ops Q is a w
  | [], os, d, s, a, w, he, hr, hg, hq => by
    have : os = [] := by simpa using he.symm
    subst this
    exact hq d s a w hr hg
  | i :: is, os, d, s, a, w, he, hr, hg, hq => by
    cases os with
    | nil => simp at he
    | cons o os =>
      simp only [List.map_cons, List.cons.injEq] at he
      obtain ⟨ho, he⟩ := he
      simp only [RunD] at hr
      obtain ⟨it, rfl, hst, hf, hr⟩ := hr
      obtain ⟨κ, hg⟩ := hg
      simp only [wpOps, ho]
      exact hst.sound hg hn hf fun a' w' hg' => RunD.text hn is os _ _ a' w' he hr hg' hq
end step
end Go.Proofs.YthlchdnbokhclaaGreat.Ql
namespace Go.Proofs.YthlchdnbokhclaaGreat.Ql
open Go
def Eqv (s s' : AS) : Prop := (∀ t, lk s.tm t = lk s'.tm t) ∧ ∀ i, lo s.ob i = lo s'.ob i
theorem Eqv.refl (s : AS) : Eqv s s := ⟨fun _ => rfl, fun _ => rfl⟩
theorem Eqv.trans {a b c : AS} (h : Eqv a b) (k : Eqv b c) : Eqv a c := ⟨fun t => (h.1 t).trans (k.1 t), fun i => (h.2 i).trans (k.2 i)⟩
theorem Eqv.symm {a b : AS} (h : Eqv a b) : Eqv b a := ⟨fun t => (h.1 t).symm, fun i => (h.2 i).symm⟩
theorem G.eqv {C : Ctx} {κ : Kap} {s s' : AS} {a : Act} {w : World} (h : G C κ s a w) (e : Eqv s s') : G C κ s' a w where
  tm t := by rw [← e.1 t]; exact h.tm t
  ob id o ho := h.ob id o (by rw [e.2 id]; exact ho)
  live id k hk := by obtain ⟨o, ho⟩ := h.live id k hk; exact ⟨o, by rw [← e.2 id]; exact ho⟩
  inj := h.inj
  size := h.size
  dfs := h.dfs
  fr := h.fr
  old := h.old
  keep := h.keep
theorem γ.eqv {C : Ctx} {s s' : AS} {a : Act} {w : World} (h : γ C s a w) (e : Eqv s s') : γ C s' a w := let ⟨κ, g⟩ := h; ⟨κ, g.eqv e⟩
theorem lk_ap (s : AS) (it : It) (t : Nat) : lk (ap s it).tm t = if it.o.dst = some t then it.v else lk s.tm t := by
  unfold ap apply
  cases h : it.o.dst with
  | none => simp
  | some d => simp [lk_cons]
theorem lo_ap (s : AS) (it : It) (i : Nat) : lo (ap s it).ob i = if i ∈ keysW it then lo it.wr i else lo s.ob i := by
  unfold ap apply keysW
  exact lo_append _ _ _
theorem ap_eqv {s s' : AS} (e : Eqv s s') (it : It) : Eqv (ap s it) (ap s' it) :=
  ⟨fun t => by rw [lk_ap, lk_ap, e.1 t], fun i => by rw [lo_ap, lo_ap, e.2 i]⟩
section
variable {P : Program} {n : Nat} {ops : Array Oper}
theorem looks_op {o : Oper} {t : Nat} (h : Operand.tmp t ∈ o.op.operands) : t ∈ o.looksAt ops := by
  unfold Oper.looksAt
  refine List.mem_append.2 (.inl (List.mem_filterMap.2 ⟨.tmp t, by simpa using h, rfl⟩))
theorem St.loc {it : It} {s s' : AS} (h : St P n ops it s) (ht : ∀ t ∈ it.o.looksAt ops, lk s'.tm t = lk s.tm t) (ho : ∀ i ∈ it.rd, lo s'.ob i = lo s.ob i) : St P n ops it s' := by
  obtain ⟨h1, h2, h3, h4⟩ := h
  have H : ∀ x ∈ it.o.op.operands, Ql.ev s'.tm x = Ql.ev s.tm x := by
    intro x hx
    cases x with
    | tmp t => exact ht t (looks_op hx)
    | _ => rfl
  refine ⟨?_, h2, fun hw => (h3 hw).imp (fun h => h.loc H ho) (fun h => h.loc H ho), h4⟩
  unfold want at h1 ⊢
  cases hg : it.o.guard with
  | none => simpa [hg] using h1
  | some p =>
    obtain ⟨j, b⟩ := p
    simp only [hg] at h1 ⊢
    cases hd : (ops[j]?).bind (·.dst) with
    | none => simp [hd] at h1
    | some d =>
      simp only [hd] at h1 ⊢
      rw [ht d (by unfold Oper.looksAt; simp [hg, hd])]
      exact h1
def chain (P : Program) (n : Nat) (ops : Array Oper) : List It → AS → Prop
  | [], _ => True
  | it :: r, s => St P n ops it s ∧ chain P n ops r (ap s it)
def fin (s : AS) (l : List It) : AS := l.foldl ap s
theorem chain_eqv : ∀ {l : List It} {s s' : AS}, chain P n ops l s → Eqv s s' → chain P n ops l s' ∧ Eqv (fin s l) (fin s' l)
  | [], _, _, _, e => ⟨trivial, e⟩
  | it :: r, s, s', h, e => by
    obtain ⟨h1, h2⟩ := h
    have hst : St P n ops it s' := h1.loc (fun t _ => (e.1 t).symm) (fun i _ => (e.2 i).symm)
    obtain ⟨h3, h4⟩ := chain_eqv h2 (ap_eqv e it)
    exact ⟨⟨hst, h3⟩, h4⟩
def menIt (k : Nat) (it : It) : Bool := it.v.men k || it.wr.any fun p => match p.2 with | some o => o.men k | none => false
def apartB (ops : Array Oper) (a b : It) : Bool :=
  a.o.apart ops b.o && (keysW a).all (fun k => !b.rd.contains k && !(keysW b).contains k) && (keysW b).all (fun k => !a.rd.contains k) && (newK a).all (fun k => !menIt k b)
theorem swap {a b : It} {s : AS} (ha : St P n ops a s) (hb : St P n ops b (ap s a)) (h : apartB ops a b = true) : St P n ops b s ∧ St P n ops a (ap s b) ∧ Eqv (ap (ap s a) b) (ap (ap s b) a) := by
  simp only [apartB, Bool.and_eq_true, List.all_eq_true, Bool.not_eq_true'] at h
  obtain ⟨⟨⟨h1, h2⟩, h3⟩, _⟩ := h
  obtain ⟨d1, d2, d3⟩ := Oper.apart_spec h1
  have k1 : ∀ k ∈ keysW a, k ∉ b.rd ∧ k ∉ keysW b := fun k hk => by simpa using h2 k hk
  have k2 : ∀ k ∈ keysW b, k ∉ a.rd := fun k hk => by simpa using h3 k hk
  refine ⟨hb.loc (fun t ht => ?_) (fun i hi => ?_), ha.loc (fun t ht => ?_) (fun i hi => ?_), ⟨fun t => ?_, fun i => ?_⟩⟩
  · rw [lk_ap, if_neg (fun e => d1 t e ht)]
  · rw [lo_ap, if_neg (fun e => (k1 i e).1 hi)]
  · rw [lk_ap, if_neg (fun e => d3 t e ht)]
  · rw [lo_ap, if_neg (fun e => k2 i e hi)]
  · rw [lk_ap, lk_ap, lk_ap, lk_ap]
    by_cases e1 : a.o.dst = some t
    · have e2 : ¬ b.o.dst = some t := d2 t e1
      simp [e1, e2]
    · simp [e1]
  · rw [lo_ap, lo_ap, lo_ap, lo_ap]
    by_cases e1 : i ∈ keysW a
    · simp [e1, (k1 i e1).2]
    · simp [e1]
theorem front {x : It} {B : List It} : ∀ {A : List It} {s : AS}, chain P n ops (A ++ x :: B) s → (∀ a ∈ A, apartB ops a x = true) → St P n ops x s ∧ chain P n ops (A ++ B) (ap s x) ∧ Eqv (fin s (A ++ x :: B)) (fin (ap s x) (A ++ B))
  | [], _, h, _ => ⟨h.1, h.2, Eqv.refl _⟩
  | a :: A, s, h, hh => by
    obtain ⟨h1, h2⟩ := h
    obtain ⟨i1, i2, i3⟩ := front h2 fun b hb => hh b (List.mem_cons_of_mem _ hb)
    obtain ⟨j1, j2, j3⟩ := swap h1 i1 (hh a (List.mem_cons_self ..))
    obtain ⟨c1, c2⟩ := chain_eqv i2 j3
    exact ⟨j1, ⟨j2, c1⟩, i3.trans c2⟩
theorem men_lo {k : Nat} {it : It} (h : menIt k it = false) {i : Nat} {o : AO} (ho : lo it.wr i = some o) : o.men k = false := by
  simp only [menIt, Bool.or_eq_false_iff] at h
  obtain ⟨_, h⟩ := h
  generalize it.wr = l at h ho
  induction l with
  | nil => simp [lo] at ho
  | cons p r ih =>
    obtain ⟨j, q⟩ := p
    simp only [List.any_cons, Bool.or_eq_false_iff] at h
    rw [lo_cons] at ho
    split at ho
    · subst ho; exact h.1
    · exact ih h.2 ho
theorem fresh_ap {ob0 : List (Nat × Option AO)} {s : AS} {k : Nat} {x : It} (h : s.fresh ob0 k) (h1 : menIt k x = false) (h2 : k ∉ keysW x) : (ap s x).fresh ob0 k where
  t t := by
    rw [lk_ap]
    split
    · simp only [menIt, Bool.or_eq_false_iff] at h1; exact h1.1
    · exact h.t t
  n := by rw [lo_ap, if_neg h2]; exact h.n
  o i o ho := by
    rw [lo_ap] at ho
    split at ho
    · exact men_lo h1 ho
    · exact h.o i o ho
  c := h.c
def idx : Nat → List It → List (Nat × It)
  | _, [] => []
  | i, a :: r => (i, a) :: idx (i + 1) r
def ancOK (ops : Array Oper) (A : List (List Nat)) : Bool :=
  (List.range A.length).all fun j => (A.getD j []).all fun i => match ops[j]? with
    | some o => o.after.any fun e => Region.binds .any e && decide (e.on < j) && (e.on == i || (A.getD e.on []).contains i)
    | none => false
def direct (x : It) (i : Nat) : Bool := x.o.after.any fun e => Region.binds .any e && e.on == i
def pairOK (A : List (List Nat)) (ops : Array Oper) (i : Nat) (a : It) (j : Nat) (b : It) : Bool :=
  (newK b).all (fun k => !menIt k a && !(keysW a).contains k) && (direct b i || apartB ops a b || (A.getD j []).contains i)
def headOK (j : Nat) (b : It) : Bool := b.o.after.all fun e => !Region.binds .any e || decide (e.on < j)
def okD (A : List (List Nat)) (ops : Array Oper) : Nat → List It → Bool
  | _, [] => true
  | i, a :: r => headOK i a && (idx (i + 1) r).all (fun q => pairOK A ops i a q.1 q.2) && okD A ops (i + 1) r
theorem idx_ge : ∀ {l : List It} {i : Nat} {p : Nat × It}, p ∈ idx i l → i ≤ p.1
  | [], _, _, h => by simp [idx] at h
  | a :: r, i, p, h => by
    simp only [idx, List.mem_cons] at h
    rcases h with rfl | h
    · exact Nat.le_refl _
    · have := idx_ge h; omega
theorem idx_snd : ∀ {l : List It} {i : Nat}, (idx i l).map (·.2) = l
  | [], _ => rfl
  | a :: r, i => by simp [idx, idx_snd]
theorem idx_fst : ∀ {l : List It} {i j : Nat}, j ∈ (idx i l).map (·.1) ↔ i ≤ j ∧ j < i + l.length
  | [], i, j => by simp [idx] <;> omega
  | a :: r, i, j => by
    simp only [idx, List.map_cons, List.mem_cons, idx_fst, List.length_cons]; omega
theorem idx_ops : ∀ {l : List It} {i : Nat} {os : List Oper}, l.map (·.o) = os → ∀ p ∈ idx i l, os[p.1 - i]? = some p.2.o ∧ i ≤ p.1
  | [], _, _, _, p, h => by simp [idx] at h
  | a :: r, i, os, e, p, h => by
    subst e
    simp only [idx, List.mem_cons] at h
    rcases h with rfl | h
    · simp
    · have hg := idx_ge h
      have := (idx_ops (i := i + 1) (l := r) rfl p h).1
      refine ⟨?_, by omega⟩
      rw [show p.1 - i = (p.1 - (i + 1)) + 1 by omega]
      simpa using this
def PW (A : List (List Nat)) (ops : Array Oper) (p q : Nat × It) : Prop := p.1 < q.1 ∧ pairOK A ops p.1 p.2 q.1 q.2 = true
theorem okD_pw {A : List (List Nat)} : ∀ {l : List It} {i : Nat}, okD A ops i l = true → (idx i l).Pairwise (PW A ops) ∧ ∀ p ∈ idx i l, headOK p.1 p.2 = true
  | [], _, _ => by simp [idx]
  | a :: r, i, h => by
    simp only [okD, Bool.and_eq_true] at h
    obtain ⟨⟨h1, h2⟩, h3⟩ := h
    obtain ⟨i1, i2⟩ := okD_pw h3
    refine ⟨List.Pairwise.cons (fun q hq => ⟨by have := idx_ge hq; omega, ?_⟩) i1, fun p hp => ?_⟩
    · exact List.all_eq_true.1 h2 q hq
    · simp only [idx, List.mem_cons] at hp
      rcases hp with rfl | hp
      · exact h1
      · exact i2 p hp
def Down (ops : Array Oper) (listed : Array Bool) : Prop := ∀ j o, ops[j]? = some o → listed.getD j false = true → ∀ e ∈ o.after, Region.binds .any e = true → listed.getD e.on false = true
theorem anc_listed {A : List (List Nat)} (hA : ancOK ops A = true) {listed : Array Bool} (hd : Down ops listed) : ∀ (j : Nat) (i : Nat), i ∈ A.getD j [] → (∀ o, ops[j]? = some o → ∀ e ∈ o.after, Region.binds .any e = true → listed.getD e.on false = true) → listed.getD i false = true := by
  intro j
  induction j using Nat.strongRecOn with
  | _ j ih =>
    intro i hi hpre
    have hj : j < A.length := by
      rcases Nat.lt_or_ge j A.length with h | h
      · exact h
      · rw [List.getD_eq_getElem?_getD, List.getElem?_eq_none h] at hi; simp at hi
    have h1 := List.all_eq_true.1 (List.all_eq_true.1 hA j (List.mem_range.2 hj)) i hi
    cases ho : ops[j]? with
    | none => rw [ho] at h1; simp at h1
    | some o =>
      rw [ho] at h1
      simp only at h1
      obtain ⟨e, he, hb⟩ := Array.any_eq_true'.1 h1
      simp only [Bool.and_eq_true, Bool.or_eq_true, decide_eq_true_eq, beq_iff_eq] at hb
      obtain ⟨⟨hbb, hlt⟩, hor⟩ := hb
      have hl := hpre o ho e he hbb
      rcases hor with rfl | hin
      · exact hl
      · exact ih e.on hlt i (by simpa using hin) fun o' ho' e' he' hb' => hd e.on o' ho' hl e' he' hb'
variable {C : Ctx}
theorem any_ready {i : Nat} {listed : Array Bool} (h : i ∈ Region.ready .any ops listed) : i < ops.size ∧ listed.getD i true = false ∧ ∃ o, ops[i]? = some o ∧ ∀ e ∈ o.after, Region.binds .any e = true → listed.getD e.on false = true := by
  unfold Region.ready at h
  simp only [List.mem_filter, List.mem_range, Bool.and_eq_true, Bool.not_eq_true'] at h
  obtain ⟨h1, h2, h3⟩ := h
  refine ⟨h1, h2, ops[i], Array.getElem?_eq_getElem h1, ?_⟩
  rw [Array.getElem?_eq_getElem h1] at h3
  simp only [Option.map_some, Option.getD_some] at h3
  intro e he hb
  have := Array.all_eq_true'.1 h3 e he
  simpa [hb] using this
theorem drawn {Q : Exit → Act → World → Prop} (hn : n ≤ C.n) {A : List (List Nat)} (hA : ancOK ops A = true) : ∀ (f : Nat) (rem : List (Nat × It)) (s : AS) (a : Act) (w : World) (listed : Array Bool), rem.length = f →
    listed.size = ops.size → Down ops listed → (∀ i, i < ops.size → (listed.getD i true = false ↔ i ∈ rem.map (·.1))) → (∀ p ∈ rem, ops[p.1]? = some p.2.o) → rem.Pairwise (PW A ops) → (∀ p ∈ rem, headOK p.1 p.2 = true) →
    chain P n ops (rem.map (·.2)) s → (∀ p ∈ rem, ∀ k ∈ newK p.2, s.fresh C.ob0 k) → γ C s a w → (∀ a' w', γ C (fin s (rem.map (·.2))) a' w' → Q .normal a' w') →
    wpAny P .any ops Q f listed a w := by
  intro f
  induction f with
  | zero =>
    intro rem s a w listed hl hsz hdown hlist hops hpw hhd hch hfr hg hq
    have : rem = [] := List.eq_nil_of_length_eq_zero hl
    subst this
    refine ⟨?_, hq a w hg⟩
    rw [List.eq_nil_iff_forall_not_mem]
    intro i hi
    obtain ⟨h1, h2, _⟩ := any_ready hi
    have := (hlist i h1).1 h2
    simp at this
  | succ f ih =>
    intro rem s a w listed hl hsz hdown hlist hops hpw hhd hch hfr hg hq
    refine ⟨fun hnone => ?_, fun i hi => ?_⟩
    · exfalso
      cases rem with
      | nil => simp at hl
      | cons p r =>
        have hp := hops p (List.mem_cons_self ..)
        have hlt : p.1 < ops.size := (Array.getElem?_eq_some_iff.1 hp).1
        have hun : listed.getD p.1 true = false := (hlist p.1 hlt).2 (by simp)
        have : p.1 ∈ Region.ready .any ops listed := by
          unfold Region.ready
          simp only [List.mem_filter, List.mem_range, Bool.and_eq_true, Bool.not_eq_true']
          refine ⟨hlt, hun, ?_⟩
          rw [hp]
          simp only [Option.map_some, Option.getD_some]
          rw [Array.all_eq_true']
          intro e he
          cases hb : Region.binds .any e with
          | false => simp
          | true =>
            have hh := Array.all_eq_true'.1 (hhd p (List.mem_cons_self ..)) e he
            rw [hb] at hh
            simp at hh
            have hnot : e.on ∉ (p :: r).map (·.1) := by
              intro hm
              simp only [List.map_cons, List.mem_cons] at hm
              rcases hm with hm | hm
              · omega
              · obtain ⟨q, hq1, hq2⟩ := List.mem_map.1 hm
                have := ((List.pairwise_cons.1 hpw).1 q hq1).1
                omega
            have h3 : ¬ listed.getD e.on true = false := fun h => hnot ((hlist e.on (by omega)).1 h)
            have hls : e.on < listed.size := by omega
            simp only [Array.getD_eq_getD_getElem?, Array.getElem?_eq_getElem hls, Option.getD_some] at h3 ⊢
            simpa using h3
        rw [hnone] at this
        simp at this
    · obtain ⟨h1, h2, o, ho, hpre⟩ := any_ready hi
      have hm := (hlist i h1).1 h2
      obtain ⟨p, hp, hpi⟩ := List.mem_map.1 hm
      obtain ⟨AA, B, hAB⟩ := List.append_of_mem hp
      subst hAB
      obtain ⟨i', x⟩ := p
      simp only at hpi
      subst hpi
      have hxo := hops (i', x) hp
      rw [hxo] at ho
      cases ho
      have hpwA := List.pairwise_append.1 hpw
      have hapart : ∀ b ∈ AA, apartB ops b.2 x = true := by
        intro b hb
        have hpk := (hpwA.2.2 b hb (i', x) (List.mem_cons_self ..))
        simp only [PW, pairOK, Bool.and_eq_true, Bool.or_eq_true] at hpk
        have hnl : ∀ {i : Nat}, b.1 = i → listed.getD i false = true → False := by
          intro i hbi h4
          subst hbi
          have hbl : b.1 < ops.size := by have := hpk.1; omega
          have h5 : listed.getD b.1 true = false := (hlist b.1 hbl).2 (List.mem_map.2 ⟨b, List.mem_append.2 (.inl hb), rfl⟩)
          have hls : b.1 < listed.size := by omega
          simp only [Array.getD_eq_getD_getElem?, Array.getElem?_eq_getElem hls, Option.getD_some] at h4 h5
          rw [h4] at h5; cases h5
        rcases hpk.2.2 with (hd | hd) | hd
        · exfalso
          obtain ⟨e, he, hbe⟩ := Array.any_eq_true'.1 hd
          simp only [Bool.and_eq_true, beq_iff_eq] at hbe
          have h4 := hpre e he hbe.1
          rw [hbe.2] at h4
          have hbl : b.1 < ops.size := by have := hpk.1; omega
          have h5 : listed.getD b.1 true = false := (hlist b.1 hbl).2 (List.mem_map.2 ⟨b, List.mem_append.2 (.inl hb), rfl⟩)
          have hls : b.1 < listed.size := by omega
          simp only [Array.getD_eq_getD_getElem?, Array.getElem?_eq_getElem hls, Option.getD_some] at h4 h5
          rw [h4] at h5; cases h5
        · exact hd
        · exact (hnl rfl (anc_listed hA hdown i' b.1 (by simpa using hd) (fun o ho' e he hbe => by
            rw [hxo] at ho'; cases ho'; exact hpre e he hbe))).elim
      simp only [List.map_append, List.map_cons] at hch
      obtain ⟨f1, f2, f3⟩ := front hch (by intro b hb; obtain ⟨q, hq1, rfl⟩ := List.mem_map.1 hb; exact hapart q hq1)
      obtain ⟨κ, hgκ⟩ := hg
      unfold wpOp
      rw [hxo]
      simp only
      refine f1.sound hgκ hn (hfr (i', x) hp) fun a' w' hg' => ?_
      have hpwB := List.pairwise_cons.1 hpwA.2.1
      refine ih (AA ++ B) (ap s x) a' w' (listed.setIfInBounds i' true) (by simp at hl ⊢; omega) (by simpa using hsz) ?_ ?_ (fun q hq => hops q ?_) ?_ (fun q hq => hhd q ?_) (by simpa using f2) (fun q hq k hk => ?_) hg' (fun a' w' hg'' => hq a' w' (hg''.eqv ?_))
      · intro j o' ho' hlj e he hbe
        have key : ∀ m, listed.getD m false = true → (listed.setIfInBounds i' true).getD m false = true := by
          intro m hm
          by_cases hmi : i' = m
          · subst hmi
            have : i' < listed.size := by omega
            simp [Array.getD_eq_getD_getElem?, this]
          · rw [getD_set_ne false hmi]; exact hm
        by_cases hji : i' = j
        · subst hji
          rw [hxo] at ho'; cases ho'
          exact key _ (hpre e he hbe)
        · rw [getD_set_ne false hji] at hlj
          exact key _ (hdown j o' ho' hlj e he hbe)
      · intro j hj
        by_cases hji : i' = j
        · subst hji
          have : i' < listed.size := by omega
          constructor
          · intro h; simp [Array.getD_eq_getD_getElem?, this] at h
          · intro h
            exfalso
            obtain ⟨q, hq1, hq2⟩ := List.mem_map.1 h
            rcases List.mem_append.1 hq1 with hq1 | hq1
            · have := (hpwA.2.2 q hq1 (i', x) (List.mem_cons_self ..)).1; simp at this; omega
            · have := (hpwB.1 q hq1).1; simp at this; omega
        · rw [getD_set_ne true hji, hlist j hj]
          simp only [List.map_append, List.map_cons, List.mem_append, List.mem_cons]
          constructor
          · rintro (h | h | h)
            · exact .inl h
            · exact absurd h.symm hji
            · exact .inr h
          · rintro (h | h)
            · exact .inl h
            · exact .inr (.inr h)
      · rcases List.mem_append.1 hq with h | h
        · exact List.mem_append.2 (.inl h)
        · exact List.mem_append.2 (.inr (List.mem_cons_of_mem _ h))
      · exact List.pairwise_append.2 ⟨hpwA.1, hpwB.2, fun p hp q hq => hpwA.2.2 p hp q (List.mem_cons_of_mem _ hq)⟩
      · rcases List.mem_append.1 hq with h | h
        · exact List.mem_append.2 (.inl h)
        · exact List.mem_append.2 (.inr (List.mem_cons_of_mem _ h))
      · have hmem : q ∈ AA ++ (i', x) :: B := by
          rcases List.mem_append.1 hq with h | h
          · exact List.mem_append.2 (.inl h)
          · exact List.mem_append.2 (.inr (List.mem_cons_of_mem _ h))
        refine fresh_ap (hfr q hmem k hk) ?_ ?_
        · rcases List.mem_append.1 hq with h | h
          · have := hapart q h
            simp only [apartB, Bool.and_eq_true, List.all_eq_true, Bool.not_eq_true'] at this
            exact this.2 k hk
          · have := (hpwB.1 q h).2
            simp only [pairOK, Bool.and_eq_true, List.all_eq_true, Bool.not_eq_true'] at this
            exact (this.1 k hk).1
        · rcases List.mem_append.1 hq with h | h
          · have := hapart q h
            simp only [apartB, Bool.and_eq_true, List.all_eq_true, Bool.not_eq_true'] at this
            have := (this.1.1.2 k (List.mem_filter.1 hk).1).2
            simpa using this
          · have := (hpwB.1 q h).2
            simp only [pairOK, Bool.and_eq_true, List.all_eq_true, Bool.not_eq_true'] at this
            have := (this.1 k hk).2
            simpa using this
      · simp only [List.map_append, List.map_cons]
        exact f3.symm
end
end Go.Proofs.YthlchdnbokhclaaGreat.Ql

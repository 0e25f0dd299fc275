import Derived.Test.YthlchdnbokhclaaGreatQb1
import Derived.Test.YthlchdnbokhclaaGreatQs
import Derived.Test.YthlchdnbokhclaaGreatQr
import Derived.Test.YthlchdnbokhclaaGreatQc1
set_option linter.all false
namespace Go.Proofs.YthlchdnbokhclaaGreat.Ql
open Go
theorem Lens.wf {s : Scene} (h : wf30 s) : Lens s := by
 have := h.Basin.Cells.1
 have := h.Basin.Pairs.1
 have := h.Days.1
 have := h.Sights.1
 have := h.Changes.1
 unfold maxLen at *
 exact ⟨by omega, by omega, by omega, by omega, by omega⟩
theorem wf_len {n : Nat} (h : n ≤ maxLen) : n ≤ 9223372036854775807 := by unfold maxLen at h; omega
end Go.Proofs.YthlchdnbokhclaaGreat.Ql
namespace Go.Proofs.YthlchdnbokhclaaGreat.Ql
open Go
theorem f28_eq {K : Nat} {s : Scene} (hL : Lens s) : Gets (f28 K s) fun _ => True := by
 unfold f28 f106
 refine Gets.bind (P := fun _ => True) (Gets.cond (fun h => Gets.bind (f76_eq _ s hL) fun _ _ => Gets.some trivial) fun h => Gets.some trivial) fun _ _ => Gets.some trivial
theorem basinFieldSpec_pure (s : Scene) (f : List (List Int)) (c d : Int) (h : wf30 s) (hf : wf44 f) (_ : wf3 c) (_ : wf3 d) : ∃ k, f4 k s f c d = some true := by
 refine ⟨4611686018427387904, ?_⟩
 have hL := Lens.wf h
 have hf := wf_len hf.1
 have : Gets (f4 4611686018427387904 s f c d) (· = true) := by
  unfold f4
  refine Gets.bind_eq sane_ok (Gets.cond (fun h => by simp at h) fun _ => ?_)
  refine Gets.bind (f26_eq hL hf) fun a ha => Gets.bind (f27_eq hL hf) fun b hb => ?_
  cases ha.uniq hb
  simp only [bne_self_eq_false, cond_false]
  refine Gets.bind (f28_eq hL) fun k _ => Gets.cond (fun _ => Gets.some rfl) fun _ => ?_
  refine Gets.bind (f29_eq hL) fun r1 h1 => Gets.bind (f30_eq hL) fun r1' h1' => Gets.bind (f31_eq hL) fun r2 h2 => Gets.bind (f32_eq hL) fun r2' h2' => Gets.bind (f33_eq hL) fun r3 h3 => Gets.bind (f34_eq hL) fun r3' h3' => ?_
  cases h1.uniq h1'
  cases h2.uniq h2'
  cases h3.uniq h3'
  simp only [small_self h1.small, small_self h2.small, Option.bind_some, cond_true, beq_self_eq_true, decide_true]
  exact Gets.some rfl
 exact this.out
end Go.Proofs.YthlchdnbokhclaaGreat.Ql

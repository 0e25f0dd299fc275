import Derived.Test.YthlchdnbokhclaaGreatQa3
import Derived.Test.YthlchdnbokhclaaGreatQt
import Derived.Test.YthlchdnbokhclaaGreatQs
import Derived.Test.YthlchdnbokhclaaGreatQr
set_option linter.all false
namespace Go.Proofs.YthlchdnbokhclaaGreat.Ql
open Go
def Gets {α : Type} (o : Option α) (Q : α → Prop) : Prop := ∃ r, o = some r ∧ Q r
theorem Gets.some {α : Type} {a : α} {Q : α → Prop} (h : Q a) : Gets (some a) Q := ⟨a, rfl, h⟩
theorem Gets.bind {α β : Type} {o : Option α} {f : α → Option β} {P : α → Prop} {Q : β → Prop} (h : Gets o P) (k : ∀ a, P a → Gets (f a) Q) : Gets (o.bind f) Q := by
  obtain ⟨r, h1, h2⟩ := h
  obtain ⟨s, h3, h4⟩ := k r h2
  exact ⟨s, by rw [h1]; exact h3, h4⟩
theorem Gets.bind_eq {α β : Type} {o : Option α} {f : α → Option β} {a : α} {Q : β → Prop} (h : o = Option.some a) (k : Gets (f a) Q) : Gets (o.bind f) Q := by
  subst h; exact k
theorem Gets.cond {α : Type} {b : Bool} {x y : Option α} {Q : α → Prop} (ht : b = true → Gets x Q) (hf : b = false → Gets y Q) : Gets (bif b then x else y) Q := by
  cases b
  · exact hf rfl
  · exact ht rfl
theorem Gets.jo {α V : Type} {rest : V → Option α} {body : (V → Option α) → Option α} {Q : α → Prop} (R : V → Prop) (hr : ∀ v, R v → Gets (rest v) Q) (hb : ∀ j : V → Option α, (∀ v, R v → Gets (j v) Q) → Gets (body j) Q) : Gets (Jo rest body) Q :=
  hb rest hr
theorem ix_eq {α : Type} {xs : List α} {i : Int} {x : α} (h0 : 0 ≤ i) (h : xs[i.toNat]? = some x) : ix xs i = some x := by unfold ix; rw [if_pos h0]; exact h
theorem ix_nat {α : Type} {xs : List α} {j : Nat} {x : α} (h : xs[j]? = some x) : ix xs (j : Int) = some x := ix_eq (by omega) (by simpa using h)
theorem ix_lt {α : Type} {xs : List α} {i : Int} (h0 : 0 ≤ i) (h : i < xs.length) : ∃ x, ix xs i = some x ∧ xs[i.toNat]? = some x := by
  have : i.toNat < xs.length := by omega
  exact ⟨xs[i.toNat], ix_eq h0 (List.getElem?_eq_getElem this), List.getElem?_eq_getElem this⟩
theorem app_eq {α : Type} {xs ys : List α} (h : xs.length + ys.length ≤ 1073741824) : app xs ys = some (xs ++ ys) := by unfold app; rw [if_pos h]
theorem W_eq {n : Int} (h0 : -9223372036854775808 ≤ n) (h1 : n ≤ 9223372036854775807) : W n = n := by
  unfold W IntKind.wrap
  simp [IntKind.bits, IntKind.signed]
  omega
theorem rngL'_gets {α V ρ : Type} {ex : Int → V → Option ρ} {bd : (Int → V → Option ρ) → α → Int → V → Option ρ} {Q : ρ → Prop} (xs : List α) (I : Nat → V → Prop)
    (step : ∀ (j : Nat) (x : α) (v : V) (nx : Int → V → Option ρ), xs[j]? = some x → I j v → (∀ v', I (j + 1) v' → Gets (nx ((j : Int) + 1) v') Q) → Gets (bd nx x j v) Q)
    (done : ∀ v, I xs.length v → Gets (ex xs.length v) Q) : ∀ (ys : List α) (j : Nat) (v : V), ys = xs.drop j → j ≤ xs.length → I j v → Gets (rngL' ex bd ys j v) Q
  | [], j, v, hy, hj, h => by
    have : j = xs.length := by
      have := congrArg List.length hy
      simp at this; omega
    subst this
    exact done v h
  | y :: ys, j, v, hy, hj, h => by
    have hlt : j < xs.length := by
      have := congrArg List.length hy
      simp at this; omega
    rw [List.drop_eq_getElem_cons hlt] at hy
    simp only [List.cons.injEq] at hy
    refine step j y v (rngL' ex bd ys) (by rw [List.getElem?_eq_getElem hlt, hy.1]) h fun v' h' => ?_
    have := rngL'_gets xs I step done ys (j + 1) v' hy.2 hlt h'
    rwa [show (((j + 1 : Nat)) : Int) = (j : Int) + 1 by omega] at this
theorem rngL_gets {α V ρ : Type} {xs : List α} {v : V} {ex : Int → V → Option ρ} {bd : (Int → V → Option ρ) → α → Int → V → Option ρ} {Q : ρ → Prop} (I : Nat → V → Prop) (hl : xs.length ≤ 9223372036854775807) (h0 : I 0 v)
    (step : ∀ (j : Nat) (x : α) (v : V) (nx : Int → V → Option ρ), xs[j]? = some x → I j v → (∀ v', I (j + 1) v' → Gets (nx ((j : Int) + 1) v') Q) → Gets (bd nx x j v) Q)
    (done : ∀ v, I xs.length v → Gets (ex xs.length v) Q) : Gets (rngL xs v ex bd) Q := by
  unfold rngL
  rw [if_pos hl]
  exact rngL'_gets xs I step done xs 0 v (by simp) (by omega) h0
theorem rngN'_gets {V ρ : Type} {ex : Int → V → Option ρ} {bd : (Int → V → Option ρ) → Int → V → Option ρ} {Q : ρ → Prop} {en : Int} (I : Int → V → Prop) {i0 : Int}
    (step : ∀ (i : Int) (v : V) (nx : Int → V → Option ρ), i0 ≤ i → i < en → I i v → (∀ v', I (i + 1) v' → Gets (nx (i + 1) v') Q) → Gets (bd nx i v) Q)
    (done : ∀ (i : Int) (v : V), i0 ≤ i → en ≤ i → (i0 ≤ en → i = en) → (en < i0 → i = i0) → I i v → Gets (ex i v) Q) : ∀ (k : Nat) (i : Int) (v : V), i0 ≤ i → (i0 ≤ en → i ≤ en) → (en < i0 → i = i0) → k = (en - i).toNat → I i v → Gets (rngN' ex bd k i v) Q
  | 0, i, v, h1, h2, h4, h3, h => done i v h1 (by omega) (by omega) h4 h
  | k + 1, i, v, h1, h2, h4, h3, h => step i v (rngN' ex bd k) h1 (by omega) h fun v' h' => rngN'_gets I step done k (i + 1) v' (by omega) (by omega) (by omega) (by omega) h'
theorem rngN_gets {V ρ : Type} {i0 en : Int} {v : V} {ex : Int → V → Option ρ} {bd : (Int → V → Option ρ) → Int → V → Option ρ} {Q : ρ → Prop} (I : Int → V → Prop) (hl : -4611686018427387904 ≤ i0 ∧ en ≤ 9223372036854775807) (h0 : I i0 v)
    (step : ∀ (i : Int) (v : V) (nx : Int → V → Option ρ), i0 ≤ i → i < en → I i v → (∀ v', I (i + 1) v' → Gets (nx (i + 1) v') Q) → Gets (bd nx i v) Q)
    (done : ∀ (i : Int) (v : V), i0 ≤ i → en ≤ i → (i0 ≤ en → i = en) → (en < i0 → i = i0) → I i v → Gets (ex i v) Q) : Gets (rngN i0 en v ex bd) Q := by
  unfold rngN
  rw [if_pos hl]
  exact rngN'_gets I step done _ i0 v (by omega) (by omega) (by omega) rfl h0
end Go.Proofs.YthlchdnbokhclaaGreat.Ql
namespace Go.Proofs.YthlchdnbokhclaaGreat.Ql
open Go
def CellOk (c : Cell) : Prop := 0 ≤ c.No ∧ c.No ≤ 4095 ∧ 0 ≤ c.Height ∧ c.Height ≤ 9000 ∧ 0 ≤ c.Aspect ∧ c.Aspect ≤ 7 ∧ 1 ≤ c.Area ∧ c.Area ≤ 4096
def PairOk (b : Basin) (p : Arr2_3) : Prop := 0 ≤ p.a0 ∧ p.a0 < b.Cells.length ∧ 0 ≤ p.a1 ∧ p.a1 < b.Cells.length ∧ p.a0 ≠ p.a1 ∧ ∃ c c', b.Cells[p.a0.toNat]? = some c ∧ b.Cells[p.a1.toNat]? = some c' ∧ c.Height ≤ c'.Height
def Same (p q : Arr2_3) : Prop := (p.a0 = q.a0 ∧ p.a1 = q.a1) ∨ (p.a0 = q.a1 ∧ p.a1 = q.a0)
structure BOk (b : Basin) : Prop where
  c1 : 1 ≤ b.Cells.length
  c2 : b.Cells.length ≤ 12
  p1 : b.Pairs.length ≤ 24
  g : 0 ≤ b.Gain ∧ b.Gain ≤ 65536
  s : 0 ≤ b.Slack ∧ b.Slack ≤ 65536
  d : 0 ≤ b.Deep ∧ b.Deep ≤ 65536
  cell : ∀ (j : Nat) c, b.Cells[j]? = some c → CellOk c
  rise : ∀ (j : Nat) c c', b.Cells[j]? = some c → b.Cells[j + 1]? = some c' → c.No < c'.No
  pair : ∀ (j : Nat) p, b.Pairs[j]? = some p → PairOk b p
  diff : ∀ (i j : Nat) p q, i < j → b.Pairs[i]? = some p → b.Pairs[j]? = some q → ¬ Same p q
open Classical in
noncomputable def bchk (b : Basin) : Int := if BOk b then 0 else 50
theorem f178_eq (K : Nat) (c : Cell) : Gets (f178 K c) fun r => (r = true ↔ CellOk c) := by
  simp only [f178, f182, Option.bind_some]
  refine Gets.bind (P := fun r => (r = true ↔ CellOk c)) ?_ fun a h => Gets.some h
  unfold CellOk
  repeat' (first | refine Gets.cond (fun h => ?_) (fun h => ?_) | refine Gets.some ?_)
  all_goals simp at * <;> omega
theorem f177_eq (K : Nat) (c : Cell) : Gets (f177 K c) fun r => (r = true ↔ CellOk c) := by
  simp only [f177, f140, Option.bind_some]
  refine Gets.bind (P := fun r => (r = true ↔ CellOk c)) ?_ fun a h => Gets.some h
  unfold CellOk
  repeat' (first | refine Gets.cond (fun h => ?_) (fun h => ?_) | refine Gets.some ?_)
  all_goals simp at * <;> omega
def BNum (b : Basin) : Prop := 1 ≤ b.Cells.length ∧ b.Cells.length ≤ 12 ∧ b.Pairs.length ≤ 24 ∧ (0 ≤ b.Gain ∧ b.Gain ≤ 65536) ∧ (0 ≤ b.Slack ∧ b.Slack ≤ 65536) ∧ (0 ≤ b.Deep ∧ b.Deep ≤ 65536)
theorem BOk.num {b : Basin} (h : BOk b) : BNum b := ⟨h.c1, h.c2, h.p1, h.g, h.s, h.d⟩
def CellsTo (b : Basin) (n : Nat) : Prop := (∀ (j : Nat) c, j < n → b.Cells[j]? = some c → CellOk c) ∧ ∀ (j : Nat) c c', j + 1 < n → b.Cells[j]? = some c → b.Cells[j + 1]? = some c' → c.No < c'.No
def PairsTo (b : Basin) (n : Nat) : Prop := (∀ (j : Nat) p, j < n → b.Pairs[j]? = some p → PairOk b p) ∧ ∀ (i j : Nat) p q, i < j → j < n → b.Pairs[i]? = some p → b.Pairs[j]? = some q → ¬ Same p q
theorem bchk_0 {b : Basin} (h : BNum b) (hc : CellsTo b b.Cells.length) (hp : PairsTo b b.Pairs.length) : bchk b = 0 := by
  unfold bchk
  rw [if_pos]
  obtain ⟨h1, h2, h3, h4, h5, h6⟩ := h
  refine ⟨h1, h2, h3, h4, h5, h6, fun j c e => hc.1 j c (List.getElem?_eq_some_iff.1 e).1 e, fun j c c' e e' => hc.2 j c c' (List.getElem?_eq_some_iff.1 e').1 e e', fun j p e => hp.1 j p (List.getElem?_eq_some_iff.1 e).1 e, fun i j p q hij e e' => hp.2 i j p q hij (List.getElem?_eq_some_iff.1 e').1 e e'⟩
theorem bchk_50 {b : Basin} (h : ¬ BOk b) : bchk b = 50 := by unfold bchk; rw [if_neg h]
theorem CellsTo.succ {b : Basin} {j : Nat} {x : Cell} (h : CellsTo b j) (hx : b.Cells[j]? = some x) (hk : CellOk x) (hr : ∀ i c, j = i + 1 → b.Cells[i]? = some c → c.No < x.No) : CellsTo b (j + 1) := by
  refine ⟨fun i c hi e => ?_, fun i c c' hi e e' => ?_⟩
  · by_cases hij : i = j
    · subst hij; rw [hx] at e; cases e; exact hk
    · exact h.1 i c (by omega) e
  · by_cases hij : i + 1 = j
    · rw [hij, hx] at e'; cases e'; exact hr i c hij.symm e
    · exact h.2 i c c' (by omega) e e'
theorem PairsTo.succ {b : Basin} {j : Nat} {x : Arr2_3} (h : PairsTo b j) (hx : b.Pairs[j]? = some x) (hk : PairOk b x) (hr : ∀ i p, i < j → b.Pairs[i]? = some p → ¬ Same p x) : PairsTo b (j + 1) := by
  refine ⟨fun i c hi e => ?_, fun i k c c' hik hi e e' => ?_⟩
  · by_cases hij : i = j
    · subst hij; rw [hx] at e; cases e; exact hk
    · exact h.1 i c (by omega) e
  · by_cases hij : k = j
    · subst hij; rw [hx] at e'; cases e'; exact hr i c hik e
    · exact h.2 i k c c' hik (by omega) e e'
theorem before_eq {b : Basin} {j : Nat} {x : Cell} {o : Option Bool} (hb : b.Cells.length ≤ 12) (hx : b.Cells[j]? = some x) {ok : Bool} (hok : ok = true ↔ CellOk x)
    (ho : o = bif (!ok) then some true else bif (decide ((j : Int) > 0)) then (ix b.Cells (W ((j : Int) - 1))).bind fun y => some (decide (y.No ≥ x.No)) else some false) :
    Gets o fun v => (v = true ↔ ¬ (CellOk x ∧ ∀ i c, j = i + 1 → b.Cells[i]? = some c → c.No < x.No)) := by
  subst ho
  have hlt := (List.getElem?_eq_some_iff.1 hx).1
  refine Gets.cond (fun h => Gets.some ?_) (fun h => Gets.cond (fun h2 => ?_) (fun h2 => Gets.some ?_))
  · have : ¬ CellOk x := by rw [← hok]; simpa using h
    simp [this]
  · have hk : CellOk x := by rw [← hok]; simpa using h
    have hj : 0 < j := by simpa using h2
    obtain ⟨i, rfl⟩ : ∃ i, j = i + 1 := ⟨j - 1, by omega⟩
    rw [show W (((i + 1 : Nat) : Int) - 1) = (i : Int) by rw [W_eq (by omega) (by omega)]; omega]
    obtain ⟨y, hy⟩ : ∃ y, b.Cells[i]? = some y := ⟨_, List.getElem?_eq_getElem (by omega)⟩
    rw [ix_nat hy]
    refine Gets.some ?_
    simp only [hk, true_and, decide_eq_true_eq]
    constructor
    · intro h3 h4
      have := h4 i y rfl hy
      omega
    · intro h3
      by_cases h4 : y.No ≥ x.No
      · exact h4
      · exact absurd (fun i' c e e' => by cases e; rw [hy] at e'; cases e'; omega) h3
  · have hk : CellOk x := by rw [← hok]; simpa using h
    have hj : j = 0 := by simpa using h2
    simp [hk]
    intro i c e; omega
theorem pair_eq {b : Basin} {x : Arr2_3} {o : Option Bool}
    (ho : o = bif (!(decide (x.a0 ≥ 0) && decide (x.a0 ≤ W ((b.Cells.length : Int) - 1)))) then some true else bif (!(decide (x.a1 ≥ 0) && decide (x.a1 ≤ W ((b.Cells.length : Int) - 1)))) then some true else bif x.a0 == x.a1 then some true else
      (ix b.Cells x.a0).bind fun y => (ix b.Cells x.a1).bind fun y' => some (decide (y.Height > y'.Height))) (hb : b.Cells.length ≤ 12) :
    Gets o fun v => (v = true ↔ ¬ PairOk b x) := by
  subst ho
  rw [W_eq (by omega) (by omega)]
  refine Gets.cond (fun h => Gets.some ?_) (fun h => Gets.cond (fun h2 => Gets.some ?_) (fun h2 => Gets.cond (fun h3 => Gets.some ?_) (fun h3 => ?_)))
  · simp [PairOk] at *; omega
  · simp [PairOk] at *; omega
  · simp [PairOk] at *; omega
  · simp at h h2 h3
    obtain ⟨y, e1, e2⟩ := ix_lt (xs := b.Cells) h.1 (by omega)
    obtain ⟨y', e3, e4⟩ := ix_lt (xs := b.Cells) h2.1 (by omega)
    rw [e1, Option.bind_some, e3, Option.bind_some]
    refine Gets.some ?_
    simp only [PairOk, e2, e4, decide_eq_true_eq]
    constructor
    · rintro h5 ⟨-, -, -, -, -, c, c', e5, e6, h6⟩
      cases e5; cases e6; omega
    · intro h5
      by_cases h6 : y.Height > y'.Height
      · exact h6
      · exact absurd ⟨h.1, by omega, h2.1, by omega, h3, y, y', rfl, rfl, by omega⟩ h5
end Go.Proofs.YthlchdnbokhclaaGreat.Ql
namespace Go.Proofs.YthlchdnbokhclaaGreat.Ql
open Go
def key (p : Arr2_3) : Int × Int := ((if p.a1 < p.a0 then p.a1 else p.a0), (if p.a1 > p.a0 then p.a1 else p.a0))
theorem key_same {p q : Arr2_3} : key p = key q ↔ Same p q := by
  unfold key Same
  simp only [Prod.mk.injEq]
  constructor
  · rintro ⟨h1, h2⟩
    split at h1 <;> split at h2 <;> split at h1 <;> split at h2 <;> omega
  · rintro (⟨h1, h2⟩ | ⟨h1, h2⟩) <;> rw [h1, h2] <;> constructor <;> split <;> (try split) <;> omega
theorem bchk_not_num {b : Basin} (h : ¬ BNum b) : bchk b = 50 := bchk_50 fun h' => h h'.num
theorem f75_eq (K : Nat) (b : Basin) (hl : b.Cells.length ≤ 9223372036854775807) (hp : b.Pairs.length ≤ 9223372036854775807) : Gets (f75 K b) (· = bchk b) := by
  unfold f75
  simp only [f182, Option.bind_some]
  refine Gets.bind (P := fun v => (v = true ↔ ¬ BNum b)) ?_ fun v hv => Gets.cond (fun h => Gets.some (bchk_not_num (hv.1 h)).symm) fun h => ?_
  · unfold BNum
    repeat' (first | refine Gets.cond (fun h => ?_) (fun h => ?_) | refine Gets.some ?_)
    all_goals simp at * <;> omega
  have hn : BNum b := Classical.byContradiction fun h' => by rw [hv.2 h'] at h; cases h
  have hn' := hn
  obtain ⟨h1, h2, h3, -⟩ := hn'
  refine Gets.jo (fun _ => CellsTo b b.Cells.length) (fun _ hc => ?_) fun j hj => rngL_gets (fun n _ => CellsTo b n) hl ⟨fun j c h => by omega, fun j c c' h => by omega⟩ (fun k x _ nx hx hi hnx => ?_) fun _ h => hj _ h
  · refine Gets.jo (fun _ => PairsTo b b.Pairs.length) (fun _ hp => Gets.some (bchk_0 hn hc hp).symm) fun j hj => rngL_gets (fun n _ => PairsTo b n) hp ⟨fun j c h => by omega, fun i j c c' h h' => by omega⟩ (fun k x _ nx hx hi hnx => ?_) fun _ h => hj _ h
    refine Gets.bind (P := fun v => (v = true ↔ ¬ PairOk b x)) (pair_eq rfl h2) fun v hv => Gets.cond (fun h => Gets.some (bchk_50 fun h' => hv.1 h (h'.pair _ _ hx)).symm) fun h => ?_
    have hk : PairOk b x := Classical.byContradiction fun h' => by rw [hv.2 h'] at h; cases h
    have hlt := (List.getElem?_eq_some_iff.1 hx).1
    refine Gets.jo (fun _ => ∀ i p, i < k → b.Pairs[i]? = some p → ¬ Same p x) (fun _ hs => hnx _ (hi.succ hx hk hs)) fun j2 hj2 => rngN_gets (fun n _ => ∀ (i : Nat) p, (i : Int) < n → b.Pairs[i]? = some p → ¬ Same p x) ⟨by omega, by omega⟩ (fun i p h => by omega) (fun i _ nx2 h0 h1 hi2 hnx2 => ?_) fun i _ h0 h1 h4 h5 h => hj2 _ fun i' p hi' e => h i' p (by omega) e
    obtain ⟨y, e1, e2⟩ := ix_lt (xs := b.Pairs) h0 (by omega)
    rw [e1, Option.bind_some]
    have hsame : (bif y.a0 == x.a0 then ((y.a1 == x.a1) || ((y.a0 == x.a1) && (y.a1 == x.a0))) else ((y.a0 == x.a1) && (y.a1 == x.a0))) = true ↔ Same y x := by
      unfold Same
      cases h7 : (y.a0 == x.a0) <;> simp at h7 <;> simp [h7]
    refine Gets.cond (fun h => Gets.some (bchk_50 fun h' => h'.diff i.toNat k y x (by omega) e2 hx (hsame.1 h)).symm) fun h => hnx2 _ fun i' p hi' e => ?_
    by_cases hii : (i' : Int) = i
    · obtain rfl : i' = i.toNat := by omega
      rw [e2] at e; cases e
      exact fun h' => by rw [hsame.2 h'] at h; cases h
    · exact hi2 i' p (by omega) e
  · obtain ⟨ok, e, hok⟩ := f178_eq K x
    refine Gets.bind (P := fun v => (v = true ↔ ¬ (CellOk x ∧ ∀ i c, k = i + 1 → b.Cells[i]? = some c → c.No < x.No))) (before_eq h2 hx hok (by rw [e]; rfl)) fun v hv => Gets.cond (fun h => Gets.some (bchk_50 fun h' => hv.1 h ⟨h'.cell _ _ hx, fun i c hi e' => h'.rise i c x e' (by rw [← hi]; exact hx)⟩).symm) fun h => ?_
    have hk := Classical.byContradiction fun h' => by rw [hv.2 h'] at h; cases h
    exact hnx _ (hi.succ hx hk.1 hk.2)
theorem f74_eq (K : Nat) (b : Basin) (hl : b.Cells.length ≤ 9223372036854775807) (hp : b.Pairs.length ≤ 9223372036854775807) : Gets (f74 K b) (· = bchk b) := by
  unfold f74
  simp only [f140, Option.bind_some]
  refine Gets.bind (P := fun v => (v = true ↔ 1 ≤ b.Cells.length ∧ b.Cells.length ≤ 12 ∧ b.Pairs.length ≤ 24)) ?_ fun v0 hv0 => Gets.bind (P := fun v => (v = true ↔ BNum b)) ?_ fun v hv => Gets.cond (fun h => Gets.some (bchk_not_num fun h' => by rw [hv.2 h'] at h; cases h).symm) fun h => ?_
  · repeat' (first | refine Gets.cond (fun h => ?_) (fun h => ?_) | refine Gets.some ?_)
    all_goals simp at * <;> omega
  · unfold BNum
    repeat' (first | refine Gets.cond (fun h => ?_) (fun h => ?_) | refine Gets.some ?_)
    all_goals (first | have h9 := hv0.1 ‹_› | (have h9 : ¬ (1 ≤ b.Cells.length ∧ b.Cells.length ≤ 12 ∧ b.Pairs.length ≤ 24) := fun h9 => by have := hv0.2 h9; simp_all)) <;> clear hv0 <;> simp at * <;> omega
  have hn : BNum b := hv.1 (by simpa using h)
  have hn' := hn
  obtain ⟨h1, h2, h3, -⟩ := hn'
  refine Gets.jo (fun _ => CellsTo b b.Cells.length) (fun _ hc => ?_) fun j hj => rngL_gets (fun n _ => CellsTo b n) hl ⟨fun j c h => by omega, fun j c c' h => by omega⟩ (fun k x _ nx hx hi hnx => ?_) fun _ h => hj _ h
  · refine Gets.jo (fun _ => PairsTo b b.Pairs.length) (fun _ hp => Gets.some (bchk_0 hn hc hp).symm) fun j hj => rngL_gets (fun n vo => PairsTo b n ∧ ∀ z, z ∈ vo ↔ ∃ i p, i < n ∧ b.Pairs[i]? = some p ∧ key p = z) hp ⟨⟨fun j c h => by omega, fun i j c c' h h' => by omega⟩, fun z => by simp⟩ (fun k x vo nx hx hi hnx => ?_) fun _ h => hj _ h.1
    refine Gets.bind (P := fun v => (v = true ↔ ¬ PairOk b x)) (pair_eq rfl h2) fun v hv => Gets.cond (fun h => Gets.some (bchk_50 fun h' => hv.1 h (h'.pair _ _ hx)).symm) fun h => ?_
    have hk : PairOk b x := Classical.byContradiction fun h' => by rw [hv.2 h'] at h; cases h
    have hmem : vo.contains (key x) = true ↔ ∃ i p, i < k ∧ b.Pairs[i]? = some p ∧ Same p x := by
      rw [List.contains_iff_mem, hi.2]
      simp only [key_same]
    change Gets (bif vo.contains (key x) then _ else nx _ (if vo.contains (key x) then vo else vo ++ [key x])) _
    refine Gets.cond (fun h => ?_) fun h => ?_
    · obtain ⟨i, p, h4, h5, h6⟩ := hmem.1 h
      exact Gets.some (bchk_50 fun h' => h'.diff i k p x h4 h5 hx h6).symm
    · have hno : ∀ i p, i < k → b.Pairs[i]? = some p → ¬ Same p x := fun i p h4 h5 h6 => by rw [hmem.2 ⟨i, p, h4, h5, h6⟩] at h; cases h
      refine hnx _ ⟨hi.1.succ hx hk hno, fun z => ?_⟩
      rw [if_neg (by rw [h]; decide), List.mem_append, List.mem_singleton, hi.2]
      constructor
      · rintro (⟨i, p, h4, h5, h6⟩ | rfl)
        · exact ⟨i, p, by omega, h5, h6⟩
        · exact ⟨k, x, by omega, hx, rfl⟩
      · rintro ⟨i, p, h4, h5, h6⟩
        by_cases h7 : i = k
        · subst h7; rw [hx] at h5; cases h5; exact .inr h6.symm
        · exact .inl ⟨i, p, by omega, h5, h6⟩
  · obtain ⟨ok, e, hok⟩ := f177_eq K x
    refine Gets.bind (P := fun v => (v = true ↔ ¬ (CellOk x ∧ ∀ i c, k = i + 1 → b.Cells[i]? = some c → c.No < x.No))) (before_eq h2 hx hok (by rw [e]; rfl)) fun v hv => Gets.cond (fun h => Gets.some (bchk_50 fun h' => hv.1 h ⟨h'.cell _ _ hx, fun i c hi e' => h'.rise i c x e' (by rw [← hi]; exact hx)⟩).symm) fun h => ?_
    have hk := Classical.byContradiction fun h' => by rw [hv.2 h'] at h; cases h
    exact hnx _ (hi.succ hx hk.1 hk.2)
end Go.Proofs.YthlchdnbokhclaaGreat.Ql
namespace Go.Proofs.YthlchdnbokhclaaGreat.Ql
open Go
def fidx {α : Type} (p : α → Bool) : List α → Int → Int
  | [], _ => -1
  | x :: xs, i => if p x then i else fidx p xs (i + 1)
theorem rngL'_find {α ρ : Type} {p : α → Bool} {f : Int → ρ} {ex : Int → Unit → Option ρ} {bd : (Int → Unit → Option ρ) → α → Int → Unit → Option ρ} (hx : ∀ i u, ex i u = some (f (-1))) (hb : ∀ nx x i u, bd nx x i u = bif p x then some (f i) else nx (i + 1) u) :
    ∀ (xs : List α) (i : Int), rngL' ex bd xs i () = some (f (fidx p xs i))
  | [], i => by simp only [rngL', fidx]; exact hx _ _
  | x :: xs, i => by
    simp only [rngL', fidx]
    rw [hb]
    cases h : p x
    · simp only [cond_false, Bool.false_eq_true, if_false]; exact rngL'_find hx hb xs (i + 1)
    · simp
theorem rngL_find {α ρ : Type} {p : α → Bool} {f : Int → ρ} {xs : List α} {ex : Int → Unit → Option ρ} {bd : (Int → Unit → Option ρ) → α → Int → Unit → Option ρ} (hl : xs.length ≤ 9223372036854775807) (hx : ∀ i u, ex i u = some (f (-1))) (hb : ∀ nx x i u, bd nx x i u = bif p x then some (f i) else nx (i + 1) u) :
    rngL xs () ex bd = some (f (fidx p xs 0)) := by
  unfold rngL
  rw [if_pos hl]
  exact rngL'_find hx hb xs 0
def cellAt (b : Basin) (no : Int) : Int := fidx (fun c : Cell => c.No == no) b.Cells 0
def dayAt (ds : List Int) (d : Int) : Int := fidx (fun x : Int => x == d) ds 0
theorem f117_eq (K : Nat) (s : Scene) (d : Int) (h : s.Days.length ≤ 9223372036854775807) : f117 K s d = some (dayAt s.Days d) :=
  rngL_find (f := id) h (fun _ _ => rfl) fun nx x i u => rfl
theorem f194_eq (K : Nat) (ds : List Int) (d : Int) (h : ds.length ≤ 9223372036854775807) : f194 K ds d = some (dayAt ds d) :=
  rngL_find (f := id) h (fun _ _ => rfl) fun nx x i u => by rw [show (d == x) = (x == d) from by rw [Bool.eq_iff_iff, beq_iff_eq, beq_iff_eq]; exact eq_comm]; rfl
theorem f116_eq (K : Nat) (b : Basin) (n : Int) (h : b.Cells.length ≤ 9223372036854775807) : f116 K b n = some (cellAt b n) :=
  rngL_find (f := id) h (fun _ _ => rfl) fun nx x i u => rfl
theorem f221_eq (K : Nat) (b : Basin) (n : Int) (h : b.Cells.length ≤ 9223372036854775807) : f221 K b n = some (cellAt b n) := by
  unfold f221
  have : f209 K b.Cells (fun y0 => f296 K y0 n) = some (cellAt b n) := rngL_find (f := id) h (fun _ _ => rfl) fun nx x i u => rfl
  rw [this]; rfl
def DaysOk (ds : List Int) : Prop := 1 ≤ ds.length ∧ ds.length ≤ 16 ∧ (∀ (j : Nat) d, ds[j]? = some d → 0 ≤ d ∧ d ≤ 1048576) ∧ ∀ (j : Nat) d d', ds[j]? = some d → ds[j + 1]? = some d' → d < d'
def SightOk (s : Scene) (g : Sight) : Prop := (0 ≤ g.No ∧ g.No ≤ 8191) ∧ 0 ≤ cellAt s.Basin g.Cell ∧ 0 ≤ dayAt s.Days g.Day ∧ 0 ≤ g.Lo ∧ g.Lo ≤ g.Hi ∧ g.Hi ≤ 65536
def ChangeOk (s : Scene) (g : Change) : Prop := 0 ≤ cellAt s.Basin g.Cell ∧ 0 ≤ dayAt s.Days g.From ∧ 0 ≤ dayAt s.Days g.To ∧ g.From < g.To ∧ -65536 ≤ g.Lo ∧ g.Lo ≤ g.Hi ∧ g.Hi ≤ 65536
open Classical in
noncomputable def chk (s : Scene) : Int :=
  if ¬ BOk s.Basin then 50 else if ¬ DaysOk s.Days then 1 else if ¬ (s.Sights.length ≤ 256 ∧ s.Changes.length ≤ 256) then 2 else if ¬ ∀ g ∈ s.Sights, SightOk s g then 51 else if ¬ ∀ g ∈ s.Changes, ChangeOk s g then 52 else 0
structure Lens (s : Scene) : Prop where
  c : s.Basin.Cells.length ≤ 9223372036854775807
  p : s.Basin.Pairs.length ≤ 9223372036854775807
  d : s.Days.length ≤ 9223372036854775807
  g : s.Sights.length ≤ 9223372036854775807
  h : s.Changes.length ≤ 9223372036854775807
theorem f83_eq (K : Nat) (ds : List Int) (d : Int) (h : ds.length ≤ 9223372036854775807) : f83 K ds d = some (decide (0 ≤ dayAt ds d)) := by
  unfold f83; rw [f194_eq K ds d h]; rfl
theorem f130_eq (K : Nat) (s : Scene) (g : Sight) (h : Lens s) : Gets (f130 K s g) fun r => (r = true ↔ SightOk s g) := by
  simp only [f130, f140, Option.bind_some, f221_eq K s.Basin g.Cell h.c, f83_eq K s.Days g.Day h.d]
  refine Gets.bind (P := fun r => (r = true ↔ SightOk s g)) ?_ fun a h => Gets.some h
  unfold SightOk
  repeat' (first | refine Gets.cond (fun h => ?_) (fun h => ?_) | refine Gets.some ?_)
  all_goals simp at * <;> omega
theorem f181_eq (K : Nat) (s : Scene) (g : Sight) (h : Lens s) : Gets (f181 K s g) fun r => (r = true ↔ SightOk s g) := by
  simp only [f181, f182, Option.bind_some, f116_eq K s.Basin g.Cell h.c, f117_eq K s g.Day h.d]
  refine Gets.bind (P := fun r => (r = true ↔ SightOk s g)) ?_ fun a h => Gets.some h
  unfold SightOk
  repeat' (first | refine Gets.cond (fun h => ?_) (fun h => ?_) | refine Gets.some ?_)
  all_goals simp at * <;> omega
theorem f183_eq (K : Nat) (s : Scene) (g : Change) (h : Lens s) : Gets (f183 K s g) fun r => (r = true ↔ ChangeOk s g) := by
  simp only [f183, Option.bind_some, f116_eq K s.Basin g.Cell h.c, f117_eq K s g.From h.d, f117_eq K s g.To h.d]
  refine Gets.bind (P := fun r => (r = true ↔ ChangeOk s g)) ?_ fun a h => Gets.some h
  unfold ChangeOk
  repeat' (first | refine Gets.cond (fun h => ?_) (fun h => ?_) | refine Gets.some ?_)
  all_goals simp at * <;> omega
theorem f175_eq (K : Nat) (s : Scene) (g : Change) (h : Lens s) : Gets (f175 K s g) fun r => (r = true ↔ ChangeOk s g) := by
  simp only [f175, Option.bind_some, f221_eq K s.Basin g.Cell h.c, f83_eq K s.Days g.From h.d, f83_eq K s.Days g.To h.d]
  refine Gets.bind (P := fun r => (r = true ↔ g.From < g.To ∧ 0 ≤ dayAt s.Days g.From ∧ 0 ≤ dayAt s.Days g.To)) ?_ fun a ha => Gets.bind (P := fun r => (r = true ↔ ChangeOk s g)) ?_ fun a h => Gets.some h
  · repeat' (first | refine Gets.cond (fun h => ?_) (fun h => ?_) | refine Gets.some ?_)
    all_goals simp at * <;> omega
  unfold ChangeOk
  cases a
  · have := (not_congr ha).1 (by decide)
    exact Gets.some (by simp; intro h1 h2 h3 h4; exact absurd ⟨h4, h2, h3⟩ this)
  have := ha.1 rfl
  clear ha
  repeat' (first | refine Gets.cond (fun h => ?_) (fun h => ?_) | refine Gets.some ?_)
  all_goals simp at * <;> omega
end Go.Proofs.YthlchdnbokhclaaGreat.Ql
namespace Go.Proofs.YthlchdnbokhclaaGreat.Ql
open Go
theorem chk_50 {s : Scene} (h : ¬ BOk s.Basin) : chk s = 50 := by unfold chk; rw [if_pos h]
theorem chk_1 {s : Scene} (h : BOk s.Basin) (hd : ¬ DaysOk s.Days) : chk s = 1 := by unfold chk; rw [if_neg (Classical.not_not.2 h), if_pos hd]
theorem chk_2 {s : Scene} (h : BOk s.Basin) (hd : DaysOk s.Days) (hm : ¬ (s.Sights.length ≤ 256 ∧ s.Changes.length ≤ 256)) : chk s = 2 := by unfold chk; rw [if_neg (Classical.not_not.2 h), if_neg (Classical.not_not.2 hd), if_pos hm]
theorem chk_51 {s : Scene} (h : BOk s.Basin) (hd : DaysOk s.Days) (hm : s.Sights.length ≤ 256 ∧ s.Changes.length ≤ 256) (hs : ¬ ∀ g ∈ s.Sights, SightOk s g) : chk s = 51 := by unfold chk; rw [if_neg (Classical.not_not.2 h), if_neg (Classical.not_not.2 hd), if_neg (Classical.not_not.2 hm), if_pos hs]
theorem chk_52 {s : Scene} (h : BOk s.Basin) (hd : DaysOk s.Days) (hm : s.Sights.length ≤ 256 ∧ s.Changes.length ≤ 256) (hs : ∀ g ∈ s.Sights, SightOk s g) (hc : ¬ ∀ g ∈ s.Changes, ChangeOk s g) : chk s = 52 := by unfold chk; rw [if_neg (Classical.not_not.2 h), if_neg (Classical.not_not.2 hd), if_neg (Classical.not_not.2 hm), if_neg (Classical.not_not.2 hs), if_pos hc]
theorem chk_0 {s : Scene} (h : BOk s.Basin) (hd : DaysOk s.Days) (hm : s.Sights.length ≤ 256 ∧ s.Changes.length ≤ 256) (hs : ∀ g ∈ s.Sights, SightOk s g) (hc : ∀ g ∈ s.Changes, ChangeOk s g) : chk s = 0 := by unfold chk; rw [if_neg (Classical.not_not.2 h), if_neg (Classical.not_not.2 hd), if_neg (Classical.not_not.2 hm), if_neg (Classical.not_not.2 hs), if_neg (Classical.not_not.2 hc)]
theorem bchk_ne {b : Basin} : bchk b ≠ 0 ↔ ¬ BOk b := by
  unfold bchk
  split
  · simp [*]
  · simp [*]
theorem rising_lt {ds : List Int} (h : ∀ (j : Nat) d d', ds[j]? = some d → ds[j + 1]? = some d' → d < d') : ∀ (k j : Nat) d d', ds[j]? = some d → ds[j + k]? = some d' → d ≤ d'
  | 0, j, d, d', e, e' => by rw [Nat.add_zero, e] at e'; cases e'; omega
  | k + 1, j, d, d', e, e' => by
    have hlt := (List.getElem?_eq_some_iff.1 e').1
    have e2 : ds[j + k]? = some ds[j + k] := List.getElem?_eq_getElem (by omega)
    have h1 := rising_lt h k j d _ e e2
    have h2 := h (j + k) _ d' e2 e'
    omega
theorem f174_eq (K : Nat) (ds : List Int) (h : ds.length ≤ 9223372036854775807) : Gets (f174 K ds) fun r => (r = true ↔ ∀ (j : Nat) d d', ds[j]? = some d → ds[j + 1]? = some d' → d < d') := by
  unfold f174
  refine Gets.jo (fun _ => ∀ (j : Nat) d d', ds[j]? = some d → ds[j + 1]? = some d' → d < d') (fun _ hp => Gets.some (by simp; exact hp)) fun j hj => rngN_gets (fun n _ => ∀ (j : Nat) d d', (j : Int) + 1 < n → ds[j]? = some d → ds[j + 1]? = some d' → d < d') ⟨by omega, by omega⟩ (fun j d d' h => by omega) (fun i _ nx h0 h1 hi hnx => ?_) fun i _ h0 h1 h2 h3 hi => hj _ fun j d d' e e' => hi j d d' (by have := (List.getElem?_eq_some_iff.1 e').1; omega) e e'
  rw [W_eq (by omega) (by omega)]
  obtain ⟨y, e1, e2⟩ := ix_lt (xs := ds) (i := i - 1) (by omega) (by omega)
  obtain ⟨y', e3, e4⟩ := ix_lt (xs := ds) (i := i) (by omega) (by omega)
  rw [e1, Option.bind_some, e3, Option.bind_some]
  obtain ⟨k, rfl⟩ : ∃ k : Nat, i = (k : Int) + 1 := ⟨(i - 1).toNat, by omega⟩
  rw [show ((k : Int) + 1 - 1).toNat = k by omega] at e2
  rw [show ((k : Int) + 1).toNat = k + 1 by omega] at e4
  refine Gets.cond (fun h => Gets.some ?_) fun h => hnx _ fun j d d' hj e e' => ?_
  · simp at h ⊢
    exact ⟨k, y, e2, y', e4, h⟩
  · simp at h
    by_cases hk : j = k
    · subst hk; rw [e2] at e; rw [e4] at e'; cases e; cases e'; exact h
    · exact hi j d d' (by omega) e e'
theorem all_to {α : Type} {xs : List α} {p : α → Prop} (h : ∀ (j : Nat) x, j < xs.length → xs[j]? = some x → p x) : ∀ x ∈ xs, p x := fun x hx => by
  obtain ⟨j, e⟩ := List.mem_iff_getElem?.1 hx
  exact h j x (List.getElem?_eq_some_iff.1 e).1 e
theorem f66_eq (K : Nat) (s : Scene) (hL : Lens s) : Gets (f66 K s) (· = chk s) := by
  unfold f66
  refine Gets.bind (f74_eq K _ hL.c hL.p) fun a ha => Gets.cond (fun h => Gets.some ?_) fun h => ?_
  · subst ha
    have := bchk_ne.1 (by simpa using h)
    rw [chk_50 this, bchk_50 this]
  have hb : BOk s.Basin := Classical.byContradiction fun h' => by have := bchk_ne.2 h'; subst ha; simp at h; exact this h
  simp only [f140, Option.bind_some]
  refine Gets.bind (P := fun v => (v = true ↔ ¬ DaysOk s.Days)) ?_ fun v hv => Gets.cond (fun h => Gets.some (chk_1 hb (hv.1 h)).symm) fun h => ?_
  · refine Gets.cond (fun h => Gets.some ?_) fun h => ?_
    · simp [DaysOk] at h ⊢
      intro h1 h2; omega
    have hl : 1 ≤ s.Days.length ∧ s.Days.length ≤ 16 := by simp at h; omega
    refine Gets.bind (f174_eq K _ hL.d) fun r hr => Gets.cond (fun h2 => Gets.some ?_) fun h2 => ?_
    · simp only [true_iff]
      intro h3
      rw [hr.2 h3.2.2.2] at h2; cases h2
    have hr := hr.1 (by simpa using h2)
    obtain ⟨d0, e0⟩ : ∃ d, s.Days[0]? = some d := ⟨_, List.getElem?_eq_getElem (by omega)⟩
    have e0' : ix s.Days 0 = some d0 := ix_nat (j := 0) e0
    rw [e0', Option.bind_some]
    refine Gets.cond (fun h3 => Gets.some ?_) fun h3 => ?_
    · simp only [true_iff]
      intro h4
      have := (h4.2.2.1 0 d0 e0).1
      simp at h3; omega
    · rw [W_eq (by omega) (by omega)]
      obtain ⟨d1, e1, e2⟩ := ix_lt (xs := s.Days) (i := s.Days.length - 1) (by omega) (by omega)
      rw [e1, Option.bind_some]
      refine Gets.some ?_
      rw [show ((s.Days.length : Int) - 1).toNat = s.Days.length - 1 by omega] at e2
      simp at h3 ⊢
      constructor
      · intro h4 h5
        have := (h5.2.2.1 _ d1 e2).2
        omega
      · intro h4
        refine Classical.byContradiction fun h5 => h4 ⟨hl.1, hl.2, fun j d e => ?_, hr⟩
        have hj := (List.getElem?_eq_some_iff.1 e).1
        have h6 := rising_lt hr j 0 d0 d e0 (by rw [Nat.zero_add]; exact e)
        have h7 := rising_lt hr (s.Days.length - 1 - j) j d d1 e (by rw [show j + (s.Days.length - 1 - j) = s.Days.length - 1 by omega]; exact e2)
        omega
  have hd : DaysOk s.Days := Classical.byContradiction fun h' => by rw [hv.2 h'] at h; cases h
  refine Gets.cond (fun h => Gets.some (chk_2 hb hd (by simp at h; omega)).symm) fun h => ?_
  have hm : s.Sights.length ≤ 256 ∧ s.Changes.length ≤ 256 := by simp at h; omega
  refine Gets.jo (fun _ => ∀ g ∈ s.Sights, SightOk s g) (fun _ hs => ?_) fun j hj => rngL_gets (fun n _ => ∀ (j : Nat) x, j < n → s.Sights[j]? = some x → SightOk s x) hL.g (fun j x h => by omega) (fun k x _ nx hx hi hnx => ?_) fun _ h => hj _ (all_to h)
  · refine Gets.jo (fun _ => ∀ g ∈ s.Changes, ChangeOk s g) (fun _ hc => Gets.some (chk_0 hb hd hm hs hc).symm) fun j hj => rngL_gets (fun n _ => ∀ (j : Nat) x, j < n → s.Changes[j]? = some x → ChangeOk s x) hL.h (fun j x h => by omega) (fun k x _ nx hx hi hnx => ?_) fun _ h => hj _ (all_to h)
    refine Gets.bind (f175_eq K s x hL) fun r hr => Gets.cond (fun h => Gets.some (chk_52 hb hd hm hs fun h' => by rw [hr.2 (h' x (List.mem_of_getElem? hx))] at h; cases h).symm) fun h => hnx _ fun j y hjk e => ?_
    by_cases hk : j = k
    · subst hk; rw [hx] at e; cases e; exact hr.1 (by simpa using h)
    · exact hi j y (by omega) e
  · refine Gets.bind (f130_eq K s x hL) fun r hr => Gets.cond (fun h => Gets.some (chk_51 hb hd hm fun h' => by rw [hr.2 (h' x (List.mem_of_getElem? hx))] at h; cases h).symm) fun h => hnx _ fun j y hjk e => ?_
    by_cases hk : j = k
    · subst hk; rw [hx] at e; cases e; exact hr.1 (by simpa using h)
    · exact hi j y (by omega) e
theorem f76_eq (K : Nat) (s : Scene) (hL : Lens s) : Gets (f76 K s) (· = chk s) := by
  unfold f76
  refine Gets.bind (f75_eq K _ hL.c hL.p) fun a ha => Gets.cond (fun h => Gets.some ?_) fun h => ?_
  · subst ha
    exact (chk_50 (bchk_ne.1 (by simpa using h))).symm
  have hb : BOk s.Basin := Classical.byContradiction fun h' => by have := bchk_ne.2 h'; subst ha; simp at h; exact this h
  refine Gets.cond (fun h => Gets.some (chk_1 hb fun h' => by have := h'.1; have := h'.2.1; simp at h; omega).symm) fun h => ?_
  have hl : 1 ≤ s.Days.length ∧ s.Days.length ≤ 16 := by simp at h; omega
  refine Gets.jo (fun _ => DaysOk s.Days) (fun _ hd => ?_) fun j hj => rngL_gets (fun n _ => (∀ (j : Nat) d, j < n → s.Days[j]? = some d → 0 ≤ d ∧ d ≤ 1048576) ∧ ∀ (j : Nat) d d', j + 1 < n → s.Days[j]? = some d → s.Days[j + 1]? = some d' → d < d') hL.d ⟨fun j x h => by omega, fun j x x' h => by omega⟩ (fun k x _ nx hx hi hnx => ?_) fun _ h => hj _ ⟨hl.1, hl.2, fun j d e => h.1 j d (List.getElem?_eq_some_iff.1 e).1 e, fun j d d' e e' => h.2 j d d' (List.getElem?_eq_some_iff.1 e').1 e e'⟩
  · refine Gets.cond (fun h => Gets.some (chk_2 hb hd (by simp at h; omega)).symm) fun h => ?_
    have hm : s.Sights.length ≤ 256 ∧ s.Changes.length ≤ 256 := by simp at h; omega
    refine Gets.jo (fun _ => ∀ g ∈ s.Sights, SightOk s g) (fun _ hs => ?_) fun j hj => rngL_gets (fun n _ => ∀ (j : Nat) x, j < n → s.Sights[j]? = some x → SightOk s x) hL.g (fun j x h => by omega) (fun k x _ nx hx hi hnx => ?_) fun _ h => hj _ (all_to h)
    · refine Gets.jo (fun _ => ∀ g ∈ s.Changes, ChangeOk s g) (fun _ hc => Gets.some (chk_0 hb hd hm hs hc).symm) fun j hj => rngL_gets (fun n _ => ∀ (j : Nat) x, j < n → s.Changes[j]? = some x → ChangeOk s x) hL.h (fun j x h => by omega) (fun k x _ nx hx hi hnx => ?_) fun _ h => hj _ (all_to h)
      refine Gets.bind (f183_eq K s x hL) fun r hr => Gets.cond (fun h => Gets.some (chk_52 hb hd hm hs fun h' => by rw [hr.2 (h' x (List.mem_of_getElem? hx))] at h; cases h).symm) fun h => hnx _ fun j y hjk e => ?_
      by_cases hk : j = k
      · subst hk; rw [hx] at e; cases e; exact hr.1 (by simpa using h)
      · exact hi j y (by omega) e
    · refine Gets.bind (f181_eq K s x hL) fun r hr => Gets.cond (fun h => Gets.some (chk_51 hb hd hm fun h' => by rw [hr.2 (h' x (List.mem_of_getElem? hx))] at h; cases h).symm) fun h => hnx _ fun j y hjk e => ?_
      by_cases hk : j = k
      · subst hk; rw [hx] at e; cases e; exact hr.1 (by simpa using h)
      · exact hi j y (by omega) e
  · simp only [f182, Option.bind_some]
    refine Gets.bind (P := fun v => (v = true ↔ ¬ ((0 ≤ x ∧ x ≤ 1048576) ∧ ∀ i d, k = i + 1 → s.Days[i]? = some d → d < x))) ?_ fun v hv => Gets.cond (fun h => Gets.some (chk_1 hb fun h' => hv.1 h ⟨h'.2.2.1 _ _ hx, fun i d hi e => h'.2.2.2 i d x e (by rw [← hi]; exact hx)⟩).symm) fun h => ?_
    · have hlt := (List.getElem?_eq_some_iff.1 hx).1
      refine Gets.cond (fun h => Gets.some ?_) fun h => Gets.cond (fun h2 => ?_) fun h2 => Gets.some ?_
      · simp at h ⊢; intro h1 h2; omega
      · have hk : 0 ≤ x ∧ x ≤ 1048576 := by simpa using h
        have hj : 0 < k := by simpa using h2
        obtain ⟨i, rfl⟩ : ∃ i, k = i + 1 := ⟨k - 1, by omega⟩
        rw [show W (((i + 1 : Nat) : Int) - 1) = (i : Int) by rw [W_eq (by omega) (by omega)]; omega]
        obtain ⟨y, hy⟩ : ∃ y, s.Days[i]? = some y := ⟨_, List.getElem?_eq_getElem (by omega)⟩
        rw [ix_nat hy]
        refine Gets.some ?_
        simp only [hk, true_and, decide_eq_true_eq, and_self]
        constructor
        · intro h3 h4
          have := h4 i y rfl hy
          omega
        · intro h3
          by_cases h4 : y ≥ x
          · exact h4
          · exact absurd (fun i' c e e' => by cases e; rw [hy] at e'; cases e'; omega) h3
      · have hk : 0 ≤ x ∧ x ≤ 1048576 := by simpa using h
        have hj : k = 0 := by simpa using h2
        simp [hk]
        intro i c e; omega
    have hk := Classical.byContradiction fun h' => by rw [hv.2 h'] at h; cases h
    refine hnx _ ⟨fun i d hi' e => ?_, fun i d d' hi' e e' => ?_⟩
    · by_cases hij : i = k
      · subst hij; rw [hx] at e; cases e; exact hk.1
      · exact hi.1 i d (by omega) e
    · by_cases hij : i + 1 = k
      · rw [hij, hx] at e'; cases e'; exact hk.2 i d hij.symm e
      · exact hi.2 i d d' (by omega) e e'
end Go.Proofs.YthlchdnbokhclaaGreat.Ql
namespace Go.Proofs.YthlchdnbokhclaaGreat.Ql
open Go
structure SOk (s : Scene) : Prop where
  b : BOk s.Basin
  d : DaysOk s.Days
  m : s.Sights.length ≤ 256 ∧ s.Changes.length ≤ 256
  g : ∀ g ∈ s.Sights, SightOk s g
  h : ∀ g ∈ s.Changes, ChangeOk s g
theorem chk_iff {s : Scene} : chk s = 0 ↔ SOk s := by
  constructor
  · intro h
    have hb : BOk s.Basin := Classical.byContradiction fun h' => by rw [chk_50 h'] at h; cases h
    have hd : DaysOk s.Days := Classical.byContradiction fun h' => by rw [chk_1 hb h'] at h; cases h
    have hm : s.Sights.length ≤ 256 ∧ s.Changes.length ≤ 256 := Classical.byContradiction fun h' => by rw [chk_2 hb hd h'] at h; cases h
    have hg : ∀ g ∈ s.Sights, SightOk s g := Classical.byContradiction fun h' => by rw [chk_51 hb hd hm h'] at h; cases h
    have hc : ∀ g ∈ s.Changes, ChangeOk s g := Classical.byContradiction fun h' => by rw [chk_52 hb hd hm hg h'] at h; cases h
    exact ⟨hb, hd, hm, hg, hc⟩
  · intro h
    exact chk_0 h.b h.d h.m h.g h.h
def lflat {α β : Type} (g : α → Int → List β) : List α → Int → List β
  | [], _ => []
  | x :: xs, i => g x i ++ lflat g xs (i + 1)
theorem lflat_drop {α β : Type} {g : α → Int → List β} {xs : List α} {j : Nat} {x : α} (h : xs[j]? = some x) : lflat g (xs.drop j) j = g x j ++ lflat g (xs.drop (j + 1)) ((j + 1 : Nat) : Int) := by
  have hlt := (List.getElem?_eq_some_iff.1 h).1
  rw [List.drop_eq_getElem_cons hlt, lflat, (List.getElem?_eq_some_iff.1 h).2]
  rfl
theorem rngL_flat {α β V ρ : Type} {xs : List α} {v : V} {ex : Int → V → Option ρ} {bd : (Int → V → Option ρ) → α → Int → V → Option ρ} {Q : ρ → Prop} (g : α → Int → List β) (St : List β → V → Prop) {a0 : List β} {B : Nat} (hB : (a0 ++ lflat g xs 0).length ≤ B) (hl : xs.length ≤ 9223372036854775807) (h0 : St a0 v)
    (step : ∀ (j : Nat) (x : α) (acc : List β) (v : V) (nx : Int → V → Option ρ), xs[j]? = some x → (acc ++ g x j).length ≤ B → St acc v → (∀ v', St (acc ++ g x j) v' → Gets (nx ((j : Int) + 1) v') Q) → Gets (bd nx x j v) Q)
    (done : ∀ v, St (a0 ++ lflat g xs 0) v → Gets (ex xs.length v) Q) : Gets (rngL xs v ex bd) Q := by
  refine rngL_gets (fun j v => ∃ acc, St acc v ∧ acc ++ lflat g (xs.drop j) j = a0 ++ lflat g xs 0) hl ⟨a0, h0, by simp⟩ ?_ ?_
  · rintro j x v nx hx ⟨acc, h1, h2⟩ hnx
    rw [lflat_drop hx, ← List.append_assoc] at h2
    refine step j x acc v nx hx ?_ h1 fun v' h' => hnx v' ⟨_, h', h2⟩
    have := congrArg List.length h2
    rw [List.length_append] at this
    omega
  · rintro v ⟨acc, h1, h2⟩
    rw [List.drop_length, lflat, List.append_nil] at h2
    subst h2
    exact done v h1
def cellOf (b : Basin) (i : Int) : Cell := b.Cells.getD i.toNat ⟨0, 0, 0, 0⟩
def alike (c c' : Cell) : Bool := decide (c.Aspect = c'.Aspect ∨ c.Aspect - c'.Aspect = 1 ∨ c'.Aspect - c.Aspect = 1 ∨ c.Aspect - c'.Aspect = 7 ∨ c'.Aspect - c.Aspect = 7)
def moreOf (b : Basin) (p : Arr2_3) : Int := b.Slack + Int.tdiv (b.Gain * ((cellOf b p.a1).Height - (cellOf b p.a0).Height)) 100
def lessOf (b : Basin) (p : Arr2_3) : Int := if (cellOf b p.a0).Height = (cellOf b p.a1).Height then b.Slack else 0
def node (s : Scene) (c d : Int) : Int := 1 + d * s.Basin.Cells.length + c
abbrev DR := Diff × Reason
def gCell (s : Scene) (d day : Int) (c : Cell) (i : Int) : List DR := [(⟨0, node s i d, s.Basin.Deep⟩, ⟨1, c.No, day, false⟩), (⟨node s i d, 0, 0⟩, ⟨2, c.No, day, false⟩)]
def gPair (s : Scene) (d day : Int) (p : Arr2_3) (i : Int) : List DR :=
  if alike (cellOf s.Basin p.a0) (cellOf s.Basin p.a1) then [(⟨node s p.a0 d, node s p.a1 d, moreOf s.Basin p⟩, ⟨3, i, day, false⟩), (⟨node s p.a1 d, node s p.a0 d, lessOf s.Basin p⟩, ⟨4, i, day, false⟩)] else []
def gDay (s : Scene) (day d : Int) : List DR := lflat (gCell s d day) s.Basin.Cells 0 ++ lflat (gPair s d day) s.Basin.Pairs 0
def sightNode (s : Scene) (c d : Int) : Int := node s (cellAt s.Basin c) (dayAt s.Days d)
def gSight (s : Scene) (g : Sight) (i : Int) : List DR := [(⟨0, sightNode s g.Cell g.Day, g.Hi⟩, ⟨5, i, 0, true⟩), (⟨sightNode s g.Cell g.Day, 0, -g.Lo⟩, ⟨5, i, 0, false⟩)]
def gChange (s : Scene) (g : Change) (i : Int) : List DR := [(⟨sightNode s g.Cell g.From, sightNode s g.Cell g.To, g.Hi⟩, ⟨6, i, 0, true⟩), (⟨sightNode s g.Cell g.To, sightNode s g.Cell g.From, -g.Lo⟩, ⟨6, i, 0, false⟩)]
def lay (s : Scene) : List DR := lflat (gDay s) s.Days 0 ++ lflat (gSight s) s.Sights 0 ++ lflat (gChange s) s.Changes 0
def StR (acc : List DR) (v : List Diff × List Reason) : Prop := v = (acc.map (·.1), acc.map (·.2))
theorem mul_le {a b m n : Int} (h0 : 0 ≤ a) (h1 : a ≤ m) (h2 : 0 ≤ b) (h3 : b ≤ n) : 0 ≤ a * b ∧ a * b ≤ m * n :=
  ⟨Int.mul_nonneg h0 h2, Int.le_trans (Int.mul_le_mul_of_nonneg_right h1 h2) (Int.mul_le_mul_of_nonneg_left h3 (by omega))⟩
theorem cellOf_eq {b : Basin} {i : Int} {c : Cell} (h0 : 0 ≤ i) (h : b.Cells[i.toNat]? = some c) : ix b.Cells i = some (cellOf b i) ∧ cellOf b i = c := by
  unfold cellOf
  rw [ix_eq h0 h, List.getD_eq_getElem?_getD, h]
  exact ⟨rfl, rfl⟩
theorem PairOk.cells {b : Basin} {p : Arr2_3} (h : PairOk b p) : ix b.Cells p.a0 = some (cellOf b p.a0) ∧ ix b.Cells p.a1 = some (cellOf b p.a1) ∧ (cellOf b p.a0).Height ≤ (cellOf b p.a1).Height := by
  obtain ⟨h0, h1, h2, h3, h4, c, c', e1, e2, h5⟩ := h
  have a := cellOf_eq h0 e1
  have a' := cellOf_eq h2 e2
  exact ⟨a.1, a'.1, by rw [a.2, a'.2]; exact h5⟩
theorem cellOf_ok {b : Basin} (hb : BOk b) {i : Int} (h0 : 0 ≤ i) (h1 : i < b.Cells.length) : CellOk (cellOf b i) := by
  have e : b.Cells[i.toNat]? = some b.Cells[i.toNat] := List.getElem?_eq_getElem (by omega)
  rw [(cellOf_eq h0 e).2]
  exact hb.cell _ _ e
theorem f179_eq {K : Nat} {c c' : Cell} (h : CellOk c) (h' : CellOk c') : f179 K c c' = some (alike c c') := by
  obtain ⟨-, -, -, -, a1, a2, -⟩ := h
  obtain ⟨-, -, -, -, a3, a4, -⟩ := h'
  unfold f179 alike
  rw [W_eq (by omega) (by omega), W_eq (by omega) (by omega)]
  congr 1
  rw [Bool.eq_iff_iff]
  simp only [Bool.or_eq_true, beq_iff_eq, decide_eq_true_eq]
  split <;> omega
theorem f141_eq {K : Nat} {c c' : Cell} (h : CellOk c) (h' : CellOk c') : f141 K c c' = some (alike c c') := by
  obtain ⟨-, -, -, -, a1, a2, -⟩ := h
  obtain ⟨-, -, -, -, a3, a4, -⟩ := h'
  unfold f141 alike
  rw [W_eq (n := _ - _) (by omega) (by omega), W_eq (by omega) (by omega)]
  congr 1
  rw [Bool.eq_iff_iff]
  simp only [Bool.or_eq_true, beq_iff_eq, decide_eq_true_eq]
  rw [Int.tmod_eq_emod_of_nonneg (by omega)]
  omega
theorem f180_eq {K : Nat} {b : Basin} {p : Arr2_3} (hb : BOk b) (h : PairOk b p) : f180 K b p = some (moreOf b p) := by
  have hc := h.cells
  have h1 := cellOf_ok hb h.1 h.2.1
  have h2 := cellOf_ok hb h.2.2.1 h.2.2.2.1
  unfold f180 moreOf
  rw [hc.1, hc.2.1, Option.bind_some, Option.bind_some]
  obtain ⟨-, -, a1, a2, -⟩ := h1
  obtain ⟨-, -, a3, a4, -⟩ := h2
  have hg := hb.g
  have hs := hb.s
  have := hc.2.2
  have hm := mul_le (a := b.Gain) (b := (cellOf b p.a1).Height - (cellOf b p.a0).Height) (m := 65536) (n := 9000) hg.1 hg.2 (by omega) (by omega)
  have ht : Int.tdiv (b.Gain * ((cellOf b p.a1).Height - (cellOf b p.a0).Height)) 100 = (b.Gain * ((cellOf b p.a1).Height - (cellOf b p.a0).Height)) / 100 := Int.tdiv_eq_ediv_of_nonneg hm.1
  rw [W_eq (n := _ - _) (by omega) (by omega), W_eq (n := b.Gain * _) (by omega) (by omega), W_eq (n := Int.tdiv _ _) (by rw [ht]; omega) (by rw [ht]; omega), W_eq (by rw [ht]; omega) (by rw [ht]; omega)]
theorem f142_eq {K : Nat} {b : Basin} {p : Arr2_3} (hb : BOk b) (h : PairOk b p) : f142 K b p = some (moreOf b p) := f180_eq (K := K) hb h
end Go.Proofs.YthlchdnbokhclaaGreat.Ql
namespace Go.Proofs.YthlchdnbokhclaaGreat.Ql
open Go
def theNet (s : Scene) : Net := ⟨1 + s.Days.length * s.Basin.Cells.length, (lay s).map (·.1)⟩
end Go.Proofs.YthlchdnbokhclaaGreat.Ql
namespace Go.Proofs.YthlchdnbokhclaaGreat.Ql
open Go
def LB (s : Scene) (n : Int) (acc : List DR) : Laid_basin := ⟨s, ⟨n, acc.map fun z : DR => z.1⟩, acc.map fun z : DR => z.2⟩
abbrev LX (s : Scene) (n : Int) (acc : List DR) : Laid_basin := (⟨(⟨(⟨s.Basin.Cells, s.Basin.Pairs, s.Basin.Gain, s.Basin.Slack, s.Basin.Deep⟩ : Basin), s.Days, s.Sights, s.Changes⟩ : Scene), (⟨n, acc.map fun z : DR => z.1⟩ : Net), acc.map fun z : DR => z.2⟩ : Laid_basin)
abbrev T11 := List Cell × List Arr2_3 × Int × Int × Int × List Int × List Sight × List Change × Int × List Diff × List Reason
def StB (s : Scene) (n : Int) (acc : List DR) (v : T11) : Prop := v = (s.Basin.Cells, s.Basin.Pairs, s.Basin.Gain, s.Basin.Slack, s.Basin.Deep, s.Days, s.Sights, s.Changes, n, acc.map fun z : DR => z.1, acc.map fun z : DR => z.2)
end Go.Proofs.YthlchdnbokhclaaGreat.Ql
namespace Go.Proofs.YthlchdnbokhclaaGreat.Ql
open Go
def netOf (s : Scene) (r : Net × List Reason × Int) : Prop := (chk s = 0 → r = (theNet s, (lay s).map (·.2), 0)) ∧ (chk s ≠ 0 → r = (⟨0, []⟩, [], chk s))
theorem Lens.wf {s : Scene} (h : wf30 s) : Lens s := by
  have := h.Basin.Cells.1
  have := h.Basin.Pairs.1
  have := h.Days.1
  have := h.Sights.1
  have := h.Changes.1
  unfold maxLen at *
  exact ⟨by omega, by omega, by omega, by omega, by omega⟩
end Go.Proofs.YthlchdnbokhclaaGreat.Ql
namespace Go.Proofs.YthlchdnbokhclaaGreat.Ql
open Go
def like2 (c c' : Cell) (r : Bool × Int) : Prop := (CellOk c ∧ CellOk c' → r = (alike c c', 0)) ∧ (¬ (CellOk c ∧ CellOk c') → r = (false, 50))
theorem like2_eq {c c' : Cell} {r r' : Bool × Int} (h : like2 c c' r) (h' : like2 c c' r') : r = r' := by
  by_cases h0 : CellOk c ∧ CellOk c'
  · rw [h.1 h0, h'.1 h0]
  · rw [h.2 h0, h'.2 h0]
theorem f69_eq (K : Nat) (c c' : Cell) : Gets (f69 K c c') (like2 c c') := by
  unfold f69
  refine Gets.bind (P := fun v => (v = true ↔ ¬ (CellOk c ∧ CellOk c'))) (Gets.bind (f177_eq K c) fun a ha => Gets.cond (fun h => Gets.some ?_) fun h => Gets.bind (f177_eq K c') fun b hb => Gets.some ?_) fun v hv => Gets.cond (fun h => Gets.some ⟨fun h' => absurd h' (hv.1 h), fun _ => rfl⟩) fun h => ?_
  · simp at h; subst h; simp only [Bool.false_eq_true, false_iff] at ha; simp [ha]
  · simp at h; subst h; simp only [true_iff] at ha; cases b <;> simp_all
  · have hk : CellOk c ∧ CellOk c' := Classical.byContradiction fun h' => by rw [hv.2 h'] at h; cases h
    rw [f141_eq hk.1 hk.2, Option.bind_some]
    exact Gets.some ⟨fun _ => rfl, fun h' => absurd hk h'⟩
theorem f70_eq (K : Nat) (c c' : Cell) : Gets (f70 K c c') (like2 c c') := by
  unfold f70
  refine Gets.bind (P := fun v => (v = true ↔ ¬ (CellOk c ∧ CellOk c'))) (Gets.bind (f178_eq K c) fun a ha => Gets.cond (fun h => Gets.some ?_) fun h => Gets.bind (f178_eq K c') fun b hb => Gets.some ?_) fun v hv => Gets.cond (fun h => Gets.some ⟨fun h' => absurd h' (hv.1 h), fun _ => rfl⟩) fun h => ?_
  · simp at h; subst h; simp only [Bool.false_eq_true, false_iff] at ha; simp [ha]
  · simp at h; subst h; simp only [true_iff] at ha; cases b <;> simp_all
  · have hk : CellOk c ∧ CellOk c' := Classical.byContradiction fun h' => by rw [hv.2 h'] at h; cases h
    rw [f179_eq hk.1 hk.2, Option.bind_some]
    exact Gets.some ⟨fun _ => rfl, fun h' => absurd hk h'⟩
def more2 (b : Basin) (i : Int) (r : Int × Bool × Int) : Prop :=
  (¬ BOk b → r = (0, false, 50)) ∧ (BOk b → ¬ (0 ≤ i ∧ i < b.Pairs.length) → r = (0, false, 1)) ∧
  ∀ p, BOk b → 0 ≤ i → b.Pairs[i.toNat]? = some p → (alike (cellOf b p.a0) (cellOf b p.a1) = false → r = (0, false, 0)) ∧ (alike (cellOf b p.a0) (cellOf b p.a1) = true → r = (moreOf b p, true, 0))
theorem more2_eq {b : Basin} {i : Int} {r r' : Int × Bool × Int} (h : more2 b i r) (h' : more2 b i r') : r = r' := by
  by_cases hb : BOk b
  · by_cases hi : 0 ≤ i ∧ i < b.Pairs.length
    · obtain ⟨p, e⟩ : ∃ p, b.Pairs[i.toNat]? = some p := ⟨_, List.getElem?_eq_getElem (by omega)⟩
      cases ha : alike (cellOf b p.a0) (cellOf b p.a1)
      · rw [(h.2.2 p hb hi.1 e).1 ha, (h'.2.2 p hb hi.1 e).1 ha]
      · rw [(h.2.2 p hb hi.1 e).2 ha, (h'.2.2 p hb hi.1 e).2 ha]
    · rw [h.2.1 hb hi, h'.2.1 hb hi]
  · rw [h.1 hb, h'.1 hb]
theorem more2_core {b : Basin} {i : Int} {p : Arr2_3} {a : Bool} (hb : BOk b) (h0 : 0 ≤ i) (e : b.Pairs[i.toNat]? = some p) (ha : a = alike (cellOf b p.a0) (cellOf b p.a1)) {o : Option (Int × Bool × Int)} (ho : o = bif (!a) then some (0, false, 0) else some (moreOf b p, true, 0)) : Gets o (more2 b i) := by
  subst ho ha
  have hlt := (List.getElem?_eq_some_iff.1 e).1
  refine Gets.cond (fun h => Gets.some ⟨fun h' => absurd hb h', fun _ h' => absurd ⟨h0, by omega⟩ h', fun q _ _ eq => ?_⟩) fun h => Gets.some ⟨fun h' => absurd hb h', fun _ h' => absurd ⟨h0, by omega⟩ h', fun q _ _ eq => ?_⟩
  · rw [e] at eq; cases eq
    simp at h
    exact ⟨fun _ => rfl, fun h' => by rw [h] at h'; cases h'⟩
  · rw [e] at eq; cases eq
    simp at h
    exact ⟨fun h' => (by rw [h] at h'; cases h'), fun _ => rfl⟩
theorem f55_eq (K : Nat) (b : Basin) (i : Int) (hl : b.Cells.length ≤ 9223372036854775807) (hp : b.Pairs.length ≤ 9223372036854775807) : Gets (f55 K b i) (more2 b i) := by
  unfold f55
  refine Gets.bind (f74_eq K b hl hp) fun a ha => Gets.cond (fun h => ?_) fun h => ?_
  · subst ha
    have hb := bchk_ne.1 (by simpa using h)
    rw [bchk_50 hb]
    exact Gets.some ⟨fun _ => rfl, fun h' => absurd h' hb, fun _ h' => absurd h' hb⟩
  · subst ha
    have hb : BOk b := Classical.byContradiction fun h' => by have := bchk_ne.2 h'; simp at h; exact this h
    have := hb.p1
    simp only [f140, Option.bind_some]
    rw [W_eq (by omega) (by omega)]
    refine Gets.cond (fun h => Gets.some ⟨fun h' => absurd hb h', fun _ _ => rfl, fun p _ h0 e => ?_⟩) fun h => ?_
    · have := (List.getElem?_eq_some_iff.1 e).1
      simp at h; omega
    · simp at h
      obtain ⟨p, e1, e2⟩ := ix_lt (xs := b.Pairs) h.1 (by omega)
      have hpk := hb.pair _ _ e2
      have hc := hpk.cells
      rw [e1, Option.bind_some, hc.1, Option.bind_some, hc.2.1, Option.bind_some, f141_eq (cellOf_ok hb hpk.1 hpk.2.1) (cellOf_ok hb hpk.2.2.1 hpk.2.2.2.1), Option.bind_some, f142_eq hb hpk]
      exact more2_core hb h.1 e2 rfl rfl
theorem f71_eq (K : Nat) (b : Basin) (i : Int) (hl : b.Cells.length ≤ 9223372036854775807) (hp : b.Pairs.length ≤ 9223372036854775807) : Gets (f71 K b i) (more2 b i) := by
  unfold f71
  refine Gets.bind (f75_eq K b hl hp) fun a ha => Gets.cond (fun h => ?_) fun h => ?_
  · subst ha
    have hb := bchk_ne.1 (by simpa using h)
    exact Gets.some ⟨fun _ => rfl, fun h' => absurd h' hb, fun _ h' => absurd h' hb⟩
  · subst ha
    have hb : BOk b := Classical.byContradiction fun h' => by have := bchk_ne.2 h'; simp at h; exact this h
    have := hb.p1
    refine Gets.cond (fun h => Gets.some ⟨fun h' => absurd hb h', fun _ _ => rfl, fun p _ h0 e => ?_⟩) fun h => ?_
    · have := (List.getElem?_eq_some_iff.1 e).1
      simp at h; omega
    · simp at h
      obtain ⟨p, e1, e2⟩ := ix_lt (xs := b.Pairs) (i := i) (by omega) (by omega)
      have hpk := hb.pair _ _ e2
      have hc := hpk.cells
      rw [e1, Option.bind_some, hc.1, Option.bind_some, hc.2.1, Option.bind_some, f179_eq (cellOf_ok hb hpk.1 hpk.2.1) (cellOf_ok hb hpk.2.2.1 hpk.2.2.2.1), Option.bind_some, f180_eq hb hpk]
      exact more2_core hb (by omega) e2 rfl rfl
end Go.Proofs.YthlchdnbokhclaaGreat.Ql
namespace Go.Proofs.YthlchdnbokhclaaGreat.Ql
open Go
theorem f131_eq (K : Nat) (s : Scene) (h : SOk s) : f131 K s = some s := by
  have h1 := h.b.c2
  have h2 := h.b.p1
  have h3 := h.d.2.1
  have h4 := h.m
  unfold f131 f249 f250 f85 f42 f43
  rw [app_eq (by simp; omega), Option.bind_some, app_eq (by simp; omega), Option.bind_some, app_eq (by simp; omega), Option.bind_some, app_eq (by simp; omega), Option.bind_some, app_eq (by simp; omega), Option.bind_some]
  rfl
theorem flat_id {α : Type} : ∀ (xs : List α) (i : Int), lflat (fun x _ => [x]) xs i = xs
  | [], _ => rfl
  | x :: xs, i => by simp only [lflat]; rw [flat_id xs]; rfl
theorem flat_filter {α : Type} (p : α → Bool) : ∀ (xs : List α) (i : Int), lflat (fun x _ => if p x then [x] else []) xs i = xs.filter p
  | [], _ => rfl
  | x :: xs, i => by
    simp only [lflat]
    rw [flat_filter p xs, List.filter_cons]
    split <;> simp
def none4 : Scene := ⟨⟨[], [], 0, 0, 0⟩, [], [], []⟩
def with2 (s : Scene) (g : Sight) (r : Scene × Int) : Prop :=
  (chk s ≠ 0 → r = (none4, chk s)) ∧ (SOk s → s.Sights.length = 256 → r = (none4, 2)) ∧ (SOk s → s.Sights.length ≠ 256 → ¬ SightOk s g → r = (none4, 51)) ∧ (SOk s → s.Sights.length ≠ 256 → SightOk s g → r = ({ s with Sights := s.Sights ++ [g] }, 0))
theorem with2_eq {s : Scene} {g : Sight} {r r' : Scene × Int} (h : with2 s g r) (h' : with2 s g r') : r = r' := by
  by_cases h0 : chk s = 0
  · have hs := chk_iff.1 h0
    by_cases h1 : s.Sights.length = 256
    · rw [h.2.1 hs h1, h'.2.1 hs h1]
    · by_cases h2 : SightOk s g
      · rw [h.2.2.2 hs h1 h2, h'.2.2.2 hs h1 h2]
      · rw [h.2.2.1 hs h1 h2, h'.2.2.1 hs h1 h2]
  · rw [h.1 h0, h'.1 h0]
theorem f53_eq (K : Nat) (s : Scene) (g : Sight) (hL : Lens s) : Gets (f53 K s g) (with2 s g) := by
  unfold f53
  refine Gets.bind (f66_eq K s hL) fun a ha => Gets.cond (fun h => Gets.some ?_) fun h => ?_
  · subst ha
    have h : chk s ≠ 0 := by simpa using h
    exact ⟨fun _ => rfl, fun h' => absurd (chk_iff.2 h') h, fun h' => absurd (chk_iff.2 h') h, fun h' => absurd (chk_iff.2 h') h⟩
  subst ha
  have h0 : chk s = 0 := by simpa using h
  have hs := chk_iff.1 h0
  have hm := hs.m.1
  refine Gets.cond (fun h => Gets.some ⟨fun h' => absurd h0 h', fun _ _ => rfl, fun _ h' => absurd (by simp at h; omega) h', fun _ h' => absurd (by simp at h; omega) h'⟩) fun h => Gets.bind (f130_eq K s g hL) fun r hr => Gets.cond (fun h2 => Gets.some ⟨fun h' => absurd h0 h', fun _ h' => absurd h' (by simp at h; omega), fun _ _ _ => rfl, fun _ _ h' => by rw [hr.2 h'] at h2; cases h2⟩) fun h2 => ?_
  rw [f131_eq K s hs, Option.bind_some, app_eq (by simp; omega), Option.bind_some]
  exact Gets.some ⟨fun h' => absurd h0 h', fun _ h' => absurd h' (by simp at h; omega), fun _ _ h' => absurd (hr.1 (by simpa using h2)) h', fun _ _ _ => rfl⟩
theorem f72_eq (K : Nat) (s : Scene) (g : Sight) (hL : Lens s) : Gets (f72 K s g) (with2 s g) := by
  unfold f72
  refine Gets.bind (f76_eq K s hL) fun a ha => Gets.cond (fun h => Gets.some ?_) fun h => ?_
  · subst ha
    have h : chk s ≠ 0 := by simpa using h
    exact ⟨fun _ => rfl, fun h' => absurd (chk_iff.2 h') h, fun h' => absurd (chk_iff.2 h') h, fun h' => absurd (chk_iff.2 h') h⟩
  subst ha
  have h0 : chk s = 0 := by simpa using h
  have hs := chk_iff.1 h0
  have hm := hs.m.1
  refine Gets.cond (fun h => Gets.some ⟨fun h' => absurd h0 h', fun _ _ => rfl, fun _ h' => absurd (by simp at h; omega) h', fun _ h' => absurd (by simp at h; omega) h'⟩) fun h => Gets.bind (f181_eq K s g hL) fun r hr => Gets.cond (fun h2 => Gets.some ⟨fun h' => absurd h0 h', fun _ h' => absurd h' (by simp at h; omega), fun _ _ _ => rfl, fun _ _ h' => by rw [hr.2 h'] at h2; cases h2⟩) fun h2 => ?_
  refine Gets.bind (P := (· = s.Sights)) (rngL_flat (fun x _ => [x]) (fun acc v => v = acc) (a0 := []) (B := 256) (by rw [flat_id]; simpa using hm) hL.g rfl (fun k x acc v nx hx hB hv hnx => ?_) fun v hv => Gets.some (by rw [hv, flat_id]; rfl)) fun v hv => ?_
  · subst hv
    rw [app_eq (by simp at hB ⊢; omega), Option.bind_some]
    exact hnx _ rfl
  · subst hv
    rw [app_eq (by simp; omega), Option.bind_some]
    exact Gets.some ⟨fun h' => absurd h0 h', fun _ h' => absurd h' (by simp at h; omega), fun _ _ h' => absurd (hr.1 (by simpa using h2)) h', fun _ _ _ => rfl⟩
def wout2 (s : Scene) (n : Int) (r : Scene × Int) : Prop := (chk s ≠ 0 → r = (none4, chk s)) ∧ (SOk s → r = ({ s with Sights := s.Sights.filter (fun x => x.No != n) }, 0))
theorem wout2_eq {s : Scene} {n : Int} {r r' : Scene × Int} (h : wout2 s n r) (h' : wout2 s n r') : r = r' := by
  by_cases h0 : chk s = 0
  · rw [h.2 (chk_iff.1 h0), h'.2 (chk_iff.1 h0)]
  · rw [h.1 h0, h'.1 h0]
theorem f67_eq (K : Nat) (s : Scene) (n : Int) (hL : Lens s) : Gets (f67 K s n) (wout2 s n) := by
  unfold f67
  refine Gets.bind (f66_eq K s hL) fun a ha => Gets.cond (fun h => Gets.some ?_) fun h => ?_
  · subst ha
    have h : chk s ≠ 0 := by simpa using h
    exact ⟨fun _ => rfl, fun h' => absurd (chk_iff.2 h') h⟩
  subst ha
  have h0 : chk s = 0 := by simpa using h
  have hs := chk_iff.1 h0
  have hm := hs.m.1
  rw [f131_eq K s hs, Option.bind_some]
  unfold f138
  refine Gets.bind (P := (· = { s with Sights := s.Sights.filter (fun x => x.No != n) })) (Gets.bind (P := (· = s.Sights.filter (fun x => x.No != n))) (rngL_flat (fun x _ => if x.No != n then [x] else []) (fun acc v => v = acc) (a0 := []) (B := 256) (by rw [flat_filter]; exact Nat.le_trans (by simpa using List.length_filter_le _ _) hm) hL.g rfl (fun k x acc v nx hx hB hv hnx => ?_) fun v hv => Gets.some (by rw [hv, flat_filter]; rfl)) fun v hv => Gets.some (by rw [hv])) fun v hv => Gets.some ⟨fun h' => absurd h0 h', fun _ => by rw [hv]⟩
  subst hv
  simp only [f176, Option.bind_some]
  refine Gets.bind (P := (· = v ++ if x.No != n then [x] else [])) (Gets.cond (fun h => ?_) fun h => Gets.some (by rw [h]; simp)) fun w hw => hnx _ hw
  simp only [h, if_true] at hB ⊢
  rw [app_eq (by simp at hB ⊢; omega), Option.bind_some]
  exact Gets.some rfl
theorem f73_eq (K : Nat) (s : Scene) (n : Int) (hL : Lens s) : Gets (f73 K s n) (wout2 s n) := by
  unfold f73
  refine Gets.bind (f76_eq K s hL) fun a ha => Gets.cond (fun h => Gets.some ?_) fun h => ?_
  · subst ha
    have h : chk s ≠ 0 := by simpa using h
    exact ⟨fun _ => rfl, fun h' => absurd (chk_iff.2 h') h⟩
  subst ha
  have h0 : chk s = 0 := by simpa using h
  have hs := chk_iff.1 h0
  have hm := hs.m.1
  refine Gets.bind (P := (· = s.Sights.filter (fun x => x.No != n))) (rngL_flat (fun x _ => if x.No != n then [x] else []) (fun acc v => v = acc) (a0 := []) (B := 256) (by rw [flat_filter]; exact Nat.le_trans (by simpa using List.length_filter_le _ _) hm) hL.g rfl (fun k x acc v nx hx hB hv hnx => ?_) fun v hv => Gets.some (by rw [hv, flat_filter]; rfl)) fun v hv => Gets.some ⟨fun h' => absurd h0 h', fun _ => by rw [hv]⟩
  subst hv
  refine Gets.bind (P := (· = v ++ if x.No != n then [x] else [])) (Gets.cond (fun h => ?_) fun h => Gets.some (by rw [h]; simp)) fun w hw => hnx _ hw
  simp only [h, if_true] at hB ⊢
  rw [app_eq (by simp at hB ⊢; omega), Option.bind_some]
  exact Gets.some rfl
end Go.Proofs.YthlchdnbokhclaaGreat.Ql
namespace Go.Proofs.YthlchdnbokhclaaGreat.Ql
open Go
theorem f118_self (K : Nat) (xs : List Int) (h : xs.length ≤ 9223372036854775807) : f118 K xs xs = some true := by
  have : Gets (f118 K xs xs) (· = true) := by
    unfold f118
    refine Gets.cond (fun h => by simp at h) fun h0 => ?_
    refine Gets.jo (fun _ => True) (fun _ _ => Gets.some rfl) fun j hj => rngL_gets (fun _ _ => True) h trivial (fun k x _ nx hx hi hnx => ?_) fun _ h => hj _ h
    rw [ix_nat hx, Option.bind_some]
    exact Gets.cond (fun h => by simp at h) fun _ => hnx _ trivial
  obtain ⟨r, e, rfl⟩ := this
  exact e
theorem f77_self (K : Nat) (s : Scene) (hL : Lens s) : f77 K s s = some true := by
  have : Gets (f77 K s s) (· = true) := by
    unfold f77
    rw [f118_self K _ hL.d]
    simp only [Option.bind_some, bne_self_eq_false, cond_false, Bool.not_true]
    refine Gets.jo (fun _ => True) (fun _ _ => ?_) fun j hj => rngL_gets (fun _ _ => True) hL.c trivial (fun k x _ nx hx hi hnx => ?_) fun _ h => hj _ h
    · refine Gets.jo (fun _ => True) (fun _ _ => ?_) fun j hj => rngL_gets (fun _ _ => True) hL.p trivial (fun k x _ nx hx hi hnx => ?_) fun _ h => hj _ h
      · refine Gets.jo (fun _ => True) (fun _ _ => ?_) fun j hj => rngL_gets (fun _ _ => True) hL.g trivial (fun k x _ nx hx hi hnx => ?_) fun _ h => hj _ h
        · refine Gets.jo (fun _ => True) (fun _ _ => Gets.some rfl) fun j hj => rngL_gets (fun _ _ => True) hL.h trivial (fun k x _ nx hx hi hnx => ?_) fun _ h => hj _ h
          rw [ix_nat hx, Option.bind_some]
          exact Gets.cond (fun h => by simp at h) fun _ => hnx _ trivial
        · rw [ix_nat hx, Option.bind_some]
          exact Gets.cond (fun h => by simp at h) fun _ => hnx _ trivial
      · rw [ix_nat hx, Option.bind_some]
        exact Gets.cond (fun h => by simp at h) fun _ => hnx _ trivial
    · rw [ix_nat hx, Option.bind_some]
      exact Gets.cond (fun h => by simp at h) fun _ => hnx _ trivial
  obtain ⟨r, e, rfl⟩ := this
  exact e
theorem lens_none : Lens none4 := ⟨by decide, by decide, by decide, by decide, by decide⟩
theorem Lens.with {s : Scene} {g : List Sight} (h : Lens s) (hg : g.length ≤ 9223372036854775807) : Lens { s with Sights := g } := ⟨h.c, h.p, h.d, hg, h.h⟩
theorem with2_lens {s : Scene} {g : Sight} {r : Scene × Int} (hL : Lens s) (h : with2 s g r) : Lens r.1 := by
  by_cases h0 : chk s = 0
  · have hs := chk_iff.1 h0
    have hm := hs.m.1
    by_cases h1 : s.Sights.length = 256
    · rw [h.2.1 hs h1]; exact lens_none
    · by_cases h2 : SightOk s g
      · rw [h.2.2.2 hs h1 h2]; exact hL.with (by simp; omega)
      · rw [h.2.2.1 hs h1 h2]; exact lens_none
  · rw [h.1 h0]; exact lens_none
theorem wout2_lens {s : Scene} {n : Int} {r : Scene × Int} (hL : Lens s) (h : wout2 s n r) : Lens r.1 := by
  by_cases h0 : chk s = 0
  · have hs := chk_iff.1 h0
    have hm := hs.m.1
    rw [h.2 hs]
    exact hL.with (Nat.le_trans (List.length_filter_le _ _) hL.g)
  · rw [h.1 h0]; exact lens_none
theorem basinCheckSpec_pure (s : Scene) (c c' : Cell) (i : Int) (g : Sight) (n : Int) (h : wf30 s) (_ : wf56 c) (_ : wf56 c') (_ : wf3 i) (_ : wf64 g) (_ : wf3 n) : ∃ k, f12 k s c c' i g n = some true := by
  refine ⟨4611686018427387904, ?_⟩
  have hL := Lens.wf h
  have : Gets (f12 4611686018427387904 s c c' i g n) (· = true) := by
    unfold f12
    refine Gets.bind_eq sane_ok (Gets.cond (fun h => by simp at h) fun _ => ?_)
    refine Gets.bind (f69_eq _ c c') fun r1 h1 => Gets.bind (f70_eq _ c c') fun r1' h1' => Gets.bind (f55_eq _ _ i hL.c hL.p) fun r2 h2 => Gets.bind (f71_eq _ _ i hL.c hL.p) fun r2' h2' => Gets.bind (f53_eq _ s g hL) fun r3 h3 => Gets.bind (f72_eq _ s g hL) fun r3' h3' => Gets.bind (f67_eq _ s n hL) fun r4 h4 => Gets.bind (f73_eq _ s n hL) fun r4' h4' => ?_
    cases like2_eq h1 h1'
    cases more2_eq h2 h2'
    cases with2_eq h3 h3'
    cases wout2_eq h4 h4'
    have l3 := with2_lens hL h3
    have l4 := wout2_lens hL h4
    obtain ⟨r10, r11⟩ := r1
    obtain ⟨r20, r21, r22⟩ := r2
    obtain ⟨r30, r31⟩ := r3
    obtain ⟨r40, r41⟩ := r4
    refine Gets.bind (P := (· = true)) (Gets.bind (f74_eq _ _ hL.c hL.p) fun a ha => Gets.bind (f75_eq _ _ hL.c hL.p) fun a' ha' => ?_) fun v hv => Gets.some hv
    subst ha ha'
    simp only [beq_self_eq_true, cond_true]
    refine Gets.bind (f66_eq _ s hL) fun b hb => Gets.bind (f76_eq _ s hL) fun b' hb' => ?_
    subst hb hb'
    simp only [beq_self_eq_true, cond_true, f77_self _ _ l3, f77_self _ _ l4, Option.bind_some]
    exact Gets.some rfl
  obtain ⟨r, e, rfl⟩ := this
  exact e
end Go.Proofs.YthlchdnbokhclaaGreat.Ql

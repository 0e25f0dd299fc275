/-
  No cell of these rows narrows 'for every input' (looked for: loops, veiled, ifaces, maps, wideKeys, modest, calm, conditions, laid).
  DERIVED. THE GIVEN ROWS OF THIS SEAT. 18 by the template 'for every input the law returns true; each argument reads behind the call as it read before'; 0 by the template 'total and deterministic' (their statements: YthlchdnbokhclaaGreatTotals.lean).
  GIVEN WITH THE SEED: the statements are not yours to turn. If you find one false, say at which input.
  Laid BY PROGRAM, IN A SANDBOX (cutbox-rows.mjs): the forced cells as the released guide's own fill.sh prints them over the translation 7d476d9339f95320… (all of the seat's roots in one cut). By AI agents, Wed Nov 11 2026. No macro, syntax, notation, axiom, sorry.
-/
import Derived.Test.YthlchdnbokhclaaGreatChecked
import GoSem.Claim
import GoSem.ClaimJoined
import GoSem.ClaimMapViews
import Derived.JoinedTies
import Derived.KernelRfl
namespace Go.Proofs.YthlchdnbokhclaaGreat
/- THE CELL 'sum', in the pinned program and in every row, IS THE sha256 OF THE DUMP (.gsa) THAT YthlchdnbokhclaaGreatProg.lean LOADS. Nothing in Lean hashes anything: it is a label: what it is worth is what the hold of that sum in a sandbox is worth. -/
noncomputable def Tryz.pinned : Pinned := { name := "ythlchdnbokhclaagreat", sum := "7d476d9339f953208ad560563181cda2e7c1a288d1815c748a4c29c2d8674cfa", checked := Tryz.checked }
namespace Rows
def none {H : Type} : Left H := { results := [], args := [] }

/-- 'snowlinelaw05.BasinNetSpec': WHATEVER THE INPUT: true; the input reads as it did. -/
def basinNetSpecSpec : ChangeSpec := { name := "basinNetSpec", fn := fun _ => fun
  | [d] => { results := [.lit (.bool true)], args := [d] }
  | _ => none }
def basinNetSpecRow : OpenClaim := { program := "ythlchdnbokhclaagreat", sum := "7d476d9339f953208ad560563181cda2e7c1a288d1815c748a4c29c2d8674cfa", func := "snowline/snowlinelaw05.BasinNetSpec", spec := "basinNetSpec", unfollowed := true, recurses := true, plainKeys := false, apart := false }
def BasinNetSpecSaid : Prop := basinNetSpecRow.holds Tryz.pinned (OpenSpec.ofChange basinNetSpecSpec)

/-- ITS FALSE NEIGHBOUR: 'it returns false'. Refute it at one input. -/
def basinNetSpecWrong : ChangeSpec := { name := "basinNetSpec", fn := fun _ => fun
  | [d] => { results := [.lit (.bool false)], args := [d] }
  | _ => none }
def BasinNetSpecWrongFalsely : Prop := basinNetSpecRow.holds Tryz.pinned (OpenSpec.ofChange basinNetSpecWrong)

/-- 'snowlinelaw05.BasinFieldSpec': WHATEVER THE INPUT: true; the input reads as it did. -/
def basinFieldSpecSpec : ChangeSpec := { name := "basinFieldSpec", fn := fun _ => fun
  | [d1, d2, d3, d4] => { results := [.lit (.bool true)], args := [d1, d2, d3, d4] }
  | _ => none }
def basinFieldSpecRow : OpenClaim := { program := "ythlchdnbokhclaagreat", sum := "7d476d9339f953208ad560563181cda2e7c1a288d1815c748a4c29c2d8674cfa", func := "snowline/snowlinelaw05.BasinFieldSpec", spec := "basinFieldSpec", unfollowed := true, recurses := true, plainKeys := false, apart := false }
def BasinFieldSpecSaid : Prop := basinFieldSpecRow.holds Tryz.pinned (OpenSpec.ofChange basinFieldSpecSpec)

/-- ITS FALSE NEIGHBOUR: 'it returns false'. Refute it at one input. -/
def basinFieldSpecWrong : ChangeSpec := { name := "basinFieldSpec", fn := fun _ => fun
  | [d1, d2, d3, d4] => { results := [.lit (.bool false)], args := [d1, d2, d3, d4] }
  | _ => none }
def BasinFieldSpecWrongFalsely : Prop := basinFieldSpecRow.holds Tryz.pinned (OpenSpec.ofChange basinFieldSpecWrong)

/-- 'snowlinelaw05.BasinFields': WHATEVER THE INPUT: true; the input reads as it did. -/
def basinFieldsSpec : ChangeSpec := { name := "basinFields", fn := fun _ => fun
  | [d1, d2, d3, d4, d5, d6] => { results := [.lit (.bool true)], args := [d1, d2, d3, d4, d5, d6] }
  | _ => none }
def basinFieldsRow : OpenClaim := { program := "ythlchdnbokhclaagreat", sum := "7d476d9339f953208ad560563181cda2e7c1a288d1815c748a4c29c2d8674cfa", func := "snowline/snowlinelaw05.BasinFields", spec := "basinFields", unfollowed := true, recurses := true, plainKeys := false, apart := false }
def BasinFieldsSaid : Prop := basinFieldsRow.holds Tryz.pinned (OpenSpec.ofChange basinFieldsSpec)

/-- ITS FALSE NEIGHBOUR: 'it returns false'. Refute it at one input. -/
def basinFieldsWrong : ChangeSpec := { name := "basinFields", fn := fun _ => fun
  | [d1, d2, d3, d4, d5, d6] => { results := [.lit (.bool false)], args := [d1, d2, d3, d4, d5, d6] }
  | _ => none }
def BasinFieldsWrongFalsely : Prop := basinFieldsRow.holds Tryz.pinned (OpenSpec.ofChange basinFieldsWrong)

/-- 'snowlinelaw05.BasinOrder': WHATEVER THE INPUT: true; the input reads as it did. -/
def basinOrderSpec : ChangeSpec := { name := "basinOrder", fn := fun _ => fun
  | [d1, d2, d3, d4] => { results := [.lit (.bool true)], args := [d1, d2, d3, d4] }
  | _ => none }
def basinOrderRow : OpenClaim := { program := "ythlchdnbokhclaagreat", sum := "7d476d9339f953208ad560563181cda2e7c1a288d1815c748a4c29c2d8674cfa", func := "snowline/snowlinelaw05.BasinOrder", spec := "basinOrder", unfollowed := true, recurses := true, plainKeys := false, apart := false }
def BasinOrderSaid : Prop := basinOrderRow.holds Tryz.pinned (OpenSpec.ofChange basinOrderSpec)

/-- ITS FALSE NEIGHBOUR: 'it returns false'. Refute it at one input. -/
def basinOrderWrong : ChangeSpec := { name := "basinOrder", fn := fun _ => fun
  | [d1, d2, d3, d4] => { results := [.lit (.bool false)], args := [d1, d2, d3, d4] }
  | _ => none }
def BasinOrderWrongFalsely : Prop := basinOrderRow.holds Tryz.pinned (OpenSpec.ofChange basinOrderWrong)

/-- 'snowlinetop.TopSurvey': WHATEVER THE INPUT: true; the input reads as it did. -/
def topSurveySpec : ChangeSpec := { name := "topSurvey", fn := fun _ => fun
  | [d] => { results := [.lit (.bool true)], args := [d] }
  | _ => none }
def topSurveyRow : OpenClaim := { program := "ythlchdnbokhclaagreat", sum := "7d476d9339f953208ad560563181cda2e7c1a288d1815c748a4c29c2d8674cfa", func := "snowline/snowlinetop.TopSurvey", spec := "topSurvey", unfollowed := true, recurses := true, plainKeys := false, apart := false }
def TopSurveySaid : Prop := topSurveyRow.holds Tryz.pinned (OpenSpec.ofChange topSurveySpec)

/-- ITS FALSE NEIGHBOUR: 'it returns false'. Refute it at one input. -/
def topSurveyWrong : ChangeSpec := { name := "topSurvey", fn := fun _ => fun
  | [d] => { results := [.lit (.bool false)], args := [d] }
  | _ => none }
def TopSurveyWrongFalsely : Prop := topSurveyRow.holds Tryz.pinned (OpenSpec.ofChange topSurveyWrong)

/-- 'snowlinelaw05.BasinHeights': WHATEVER THE INPUT: true; the input reads as it did. -/
def basinHeightsSpec : ChangeSpec := { name := "basinHeights", fn := fun _ => fun
  | [d1, d2, d3, d4, d5, d6] => { results := [.lit (.bool true)], args := [d1, d2, d3, d4, d5, d6] }
  | _ => none }
def basinHeightsRow : OpenClaim := { program := "ythlchdnbokhclaagreat", sum := "7d476d9339f953208ad560563181cda2e7c1a288d1815c748a4c29c2d8674cfa", func := "snowline/snowlinelaw05.BasinHeights", spec := "basinHeights", unfollowed := true, recurses := true, plainKeys := false, apart := false }
def BasinHeightsSaid : Prop := basinHeightsRow.holds Tryz.pinned (OpenSpec.ofChange basinHeightsSpec)

/-- ITS FALSE NEIGHBOUR: 'it returns false'. Refute it at one input. -/
def basinHeightsWrong : ChangeSpec := { name := "basinHeights", fn := fun _ => fun
  | [d1, d2, d3, d4, d5, d6] => { results := [.lit (.bool false)], args := [d1, d2, d3, d4, d5, d6] }
  | _ => none }
def BasinHeightsWrongFalsely : Prop := basinHeightsRow.holds Tryz.pinned (OpenSpec.ofChange basinHeightsWrong)

/-- 'snowlinetop.TopGranted': WHATEVER THE INPUT: true; the input reads as it did. -/
def topGrantedSpec : ChangeSpec := { name := "topGranted", fn := fun _ => fun
  | [d] => { results := [.lit (.bool true)], args := [d] }
  | _ => none }
def topGrantedRow : OpenClaim := { program := "ythlchdnbokhclaagreat", sum := "7d476d9339f953208ad560563181cda2e7c1a288d1815c748a4c29c2d8674cfa", func := "snowline/snowlinetop.TopGranted", spec := "topGranted", unfollowed := true, recurses := true, plainKeys := false, apart := false }
def TopGrantedSaid : Prop := topGrantedRow.holds Tryz.pinned (OpenSpec.ofChange topGrantedSpec)

/-- ITS FALSE NEIGHBOUR: 'it returns false'. Refute it at one input. -/
def topGrantedWrong : ChangeSpec := { name := "topGranted", fn := fun _ => fun
  | [d] => { results := [.lit (.bool false)], args := [d] }
  | _ => none }
def TopGrantedWrongFalsely : Prop := topGrantedRow.holds Tryz.pinned (OpenSpec.ofChange topGrantedWrong)

/-- 'snowlinelaw05.BasinHidden': WHATEVER THE INPUT: true; the input reads as it did. -/
def basinHiddenSpec : ChangeSpec := { name := "basinHidden", fn := fun _ => fun
  | [d1, d2, d3, d4, d5] => { results := [.lit (.bool true)], args := [d1, d2, d3, d4, d5] }
  | _ => none }
def basinHiddenRow : OpenClaim := { program := "ythlchdnbokhclaagreat", sum := "7d476d9339f953208ad560563181cda2e7c1a288d1815c748a4c29c2d8674cfa", func := "snowline/snowlinelaw05.BasinHidden", spec := "basinHidden", unfollowed := true, recurses := true, plainKeys := false, apart := false }
def BasinHiddenSaid : Prop := basinHiddenRow.holds Tryz.pinned (OpenSpec.ofChange basinHiddenSpec)

/-- ITS FALSE NEIGHBOUR: 'it returns false'. Refute it at one input. -/
def basinHiddenWrong : ChangeSpec := { name := "basinHidden", fn := fun _ => fun
  | [d1, d2, d3, d4, d5] => { results := [.lit (.bool false)], args := [d1, d2, d3, d4, d5] }
  | _ => none }
def BasinHiddenWrongFalsely : Prop := basinHiddenRow.holds Tryz.pinned (OpenSpec.ofChange basinHiddenWrong)

/-- 'snowlinelaw05.BasinNarrower': WHATEVER THE INPUT: true; the input reads as it did. -/
def basinNarrowerSpec : ChangeSpec := { name := "basinNarrower", fn := fun _ => fun
  | [d1, d2, d3, d4, d5, d6] => { results := [.lit (.bool true)], args := [d1, d2, d3, d4, d5, d6] }
  | _ => none }
def basinNarrowerRow : OpenClaim := { program := "ythlchdnbokhclaagreat", sum := "7d476d9339f953208ad560563181cda2e7c1a288d1815c748a4c29c2d8674cfa", func := "snowline/snowlinelaw05.BasinNarrower", spec := "basinNarrower", unfollowed := true, recurses := true, plainKeys := false, apart := false }
def BasinNarrowerSaid : Prop := basinNarrowerRow.holds Tryz.pinned (OpenSpec.ofChange basinNarrowerSpec)

/-- ITS FALSE NEIGHBOUR: 'it returns false'. Refute it at one input. -/
def basinNarrowerWrong : ChangeSpec := { name := "basinNarrower", fn := fun _ => fun
  | [d1, d2, d3, d4, d5, d6] => { results := [.lit (.bool false)], args := [d1, d2, d3, d4, d5, d6] }
  | _ => none }
def BasinNarrowerWrongFalsely : Prop := basinNarrowerRow.holds Tryz.pinned (OpenSpec.ofChange basinNarrowerWrong)

/-- 'snowlinelaw05.BasinCheckSpec': WHATEVER THE INPUT: true; the input reads as it did. -/
def basinCheckSpecSpec : ChangeSpec := { name := "basinCheckSpec", fn := fun _ => fun
  | [d1, d2, d3, d4, d5, d6] => { results := [.lit (.bool true)], args := [d1, d2, d3, d4, d5, d6] }
  | _ => none }
def basinCheckSpecRow : OpenClaim := { program := "ythlchdnbokhclaagreat", sum := "7d476d9339f953208ad560563181cda2e7c1a288d1815c748a4c29c2d8674cfa", func := "snowline/snowlinelaw05.BasinCheckSpec", spec := "basinCheckSpec", unfollowed := true, recurses := true, plainKeys := false, apart := false }
def BasinCheckSpecSaid : Prop := basinCheckSpecRow.holds Tryz.pinned (OpenSpec.ofChange basinCheckSpecSpec)

/-- ITS FALSE NEIGHBOUR: 'it returns false'. Refute it at one input. -/
def basinCheckSpecWrong : ChangeSpec := { name := "basinCheckSpec", fn := fun _ => fun
  | [d1, d2, d3, d4, d5, d6] => { results := [.lit (.bool false)], args := [d1, d2, d3, d4, d5, d6] }
  | _ => none }
def BasinCheckSpecWrongFalsely : Prop := basinCheckSpecRow.holds Tryz.pinned (OpenSpec.ofChange basinCheckSpecWrong)

/-- 'snowlinelaw05.BasinClashSpec': WHATEVER THE INPUT: true; the input reads as it did. -/
def basinClashSpecSpec : ChangeSpec := { name := "basinClashSpec", fn := fun _ => fun
  | [d1, d2] => { results := [.lit (.bool true)], args := [d1, d2] }
  | _ => none }
def basinClashSpecRow : OpenClaim := { program := "ythlchdnbokhclaagreat", sum := "7d476d9339f953208ad560563181cda2e7c1a288d1815c748a4c29c2d8674cfa", func := "snowline/snowlinelaw05.BasinClashSpec", spec := "basinClashSpec", unfollowed := true, recurses := true, plainKeys := false, apart := false }
def BasinClashSpecSaid : Prop := basinClashSpecRow.holds Tryz.pinned (OpenSpec.ofChange basinClashSpecSpec)

/-- ITS FALSE NEIGHBOUR: 'it returns false'. Refute it at one input. -/
def basinClashSpecWrong : ChangeSpec := { name := "basinClashSpec", fn := fun _ => fun
  | [d1, d2] => { results := [.lit (.bool false)], args := [d1, d2] }
  | _ => none }
def BasinClashSpecWrongFalsely : Prop := basinClashSpecRow.holds Tryz.pinned (OpenSpec.ofChange basinClashSpecWrong)

/-- 'snowlinelaw05.BasinRested': WHATEVER THE INPUT: true; the input reads as it did. -/
def basinRestedSpec : ChangeSpec := { name := "basinRested", fn := fun _ => fun
  | [d1, d2, d3, d4] => { results := [.lit (.bool true)], args := [d1, d2, d3, d4] }
  | _ => none }
def basinRestedRow : OpenClaim := { program := "ythlchdnbokhclaagreat", sum := "7d476d9339f953208ad560563181cda2e7c1a288d1815c748a4c29c2d8674cfa", func := "snowline/snowlinelaw05.BasinRested", spec := "basinRested", unfollowed := true, recurses := true, plainKeys := false, apart := false }
def BasinRestedSaid : Prop := basinRestedRow.holds Tryz.pinned (OpenSpec.ofChange basinRestedSpec)

/-- ITS FALSE NEIGHBOUR: 'it returns false'. Refute it at one input. -/
def basinRestedWrong : ChangeSpec := { name := "basinRested", fn := fun _ => fun
  | [d1, d2, d3, d4] => { results := [.lit (.bool false)], args := [d1, d2, d3, d4] }
  | _ => none }
def BasinRestedWrongFalsely : Prop := basinRestedRow.holds Tryz.pinned (OpenSpec.ofChange basinRestedWrong)

/-- 'snowlinelaw05.BasinRestsSpec': WHATEVER THE INPUT: true; the input reads as it did. -/
def basinRestsSpecSpec : ChangeSpec := { name := "basinRestsSpec", fn := fun _ => fun
  | [d1, d2, d3, d4] => { results := [.lit (.bool true)], args := [d1, d2, d3, d4] }
  | _ => none }
def basinRestsSpecRow : OpenClaim := { program := "ythlchdnbokhclaagreat", sum := "7d476d9339f953208ad560563181cda2e7c1a288d1815c748a4c29c2d8674cfa", func := "snowline/snowlinelaw05.BasinRestsSpec", spec := "basinRestsSpec", unfollowed := true, recurses := true, plainKeys := false, apart := false }
def BasinRestsSpecSaid : Prop := basinRestsSpecRow.holds Tryz.pinned (OpenSpec.ofChange basinRestsSpecSpec)

/-- ITS FALSE NEIGHBOUR: 'it returns false'. Refute it at one input. -/
def basinRestsSpecWrong : ChangeSpec := { name := "basinRestsSpec", fn := fun _ => fun
  | [d1, d2, d3, d4] => { results := [.lit (.bool false)], args := [d1, d2, d3, d4] }
  | _ => none }
def BasinRestsSpecWrongFalsely : Prop := basinRestsSpecRow.holds Tryz.pinned (OpenSpec.ofChange basinRestsSpecWrong)

/-- 'snowlinelaw05.BasinAccused': WHATEVER THE INPUT: true; the input reads as it did. -/
def basinAccusedSpec : ChangeSpec := { name := "basinAccused", fn := fun _ => fun
  | [d] => { results := [.lit (.bool true)], args := [d] }
  | _ => none }
def basinAccusedRow : OpenClaim := { program := "ythlchdnbokhclaagreat", sum := "7d476d9339f953208ad560563181cda2e7c1a288d1815c748a4c29c2d8674cfa", func := "snowline/snowlinelaw05.BasinAccused", spec := "basinAccused", unfollowed := true, recurses := true, plainKeys := false, apart := false }
def BasinAccusedSaid : Prop := basinAccusedRow.holds Tryz.pinned (OpenSpec.ofChange basinAccusedSpec)

/-- ITS FALSE NEIGHBOUR: 'it returns false'. Refute it at one input. -/
def basinAccusedWrong : ChangeSpec := { name := "basinAccused", fn := fun _ => fun
  | [d] => { results := [.lit (.bool false)], args := [d] }
  | _ => none }
def BasinAccusedWrongFalsely : Prop := basinAccusedRow.holds Tryz.pinned (OpenSpec.ofChange basinAccusedWrong)

/-- 'snowlinelaw05.BasinProofSpec': WHATEVER THE INPUT: true; the input reads as it did. -/
def basinProofSpecSpec : ChangeSpec := { name := "basinProofSpec", fn := fun _ => fun
  | [d1, d2, d3, d4, d5, d6] => { results := [.lit (.bool true)], args := [d1, d2, d3, d4, d5, d6] }
  | _ => none }
def basinProofSpecRow : OpenClaim := { program := "ythlchdnbokhclaagreat", sum := "7d476d9339f953208ad560563181cda2e7c1a288d1815c748a4c29c2d8674cfa", func := "snowline/snowlinelaw05.BasinProofSpec", spec := "basinProofSpec", unfollowed := true, recurses := true, plainKeys := false, apart := false }
def BasinProofSpecSaid : Prop := basinProofSpecRow.holds Tryz.pinned (OpenSpec.ofChange basinProofSpecSpec)

/-- ITS FALSE NEIGHBOUR: 'it returns false'. Refute it at one input. -/
def basinProofSpecWrong : ChangeSpec := { name := "basinProofSpec", fn := fun _ => fun
  | [d1, d2, d3, d4, d5, d6] => { results := [.lit (.bool false)], args := [d1, d2, d3, d4, d5, d6] }
  | _ => none }
def BasinProofSpecWrongFalsely : Prop := basinProofSpecRow.holds Tryz.pinned (OpenSpec.ofChange basinProofSpecWrong)

/-- 'snowlinelaw05.BasinExact': WHATEVER THE INPUT: true; the input reads as it did. -/
def basinExactSpec : ChangeSpec := { name := "basinExact", fn := fun _ => fun
  | [d1, d2, d3, d4, d5] => { results := [.lit (.bool true)], args := [d1, d2, d3, d4, d5] }
  | _ => none }
def basinExactRow : OpenClaim := { program := "ythlchdnbokhclaagreat", sum := "7d476d9339f953208ad560563181cda2e7c1a288d1815c748a4c29c2d8674cfa", func := "snowline/snowlinelaw05.BasinExact", spec := "basinExact", unfollowed := true, recurses := true, plainKeys := false, apart := false }
def BasinExactSaid : Prop := basinExactRow.holds Tryz.pinned (OpenSpec.ofChange basinExactSpec)

/-- ITS FALSE NEIGHBOUR: 'it returns false'. Refute it at one input. -/
def basinExactWrong : ChangeSpec := { name := "basinExact", fn := fun _ => fun
  | [d1, d2, d3, d4, d5] => { results := [.lit (.bool false)], args := [d1, d2, d3, d4, d5] }
  | _ => none }
def BasinExactWrongFalsely : Prop := basinExactRow.holds Tryz.pinned (OpenSpec.ofChange basinExactWrong)

/-- 'snowlinelaw05.BasinVolumeSpec': WHATEVER THE INPUT: true; the input reads as it did. -/
def basinVolumeSpecSpec : ChangeSpec := { name := "basinVolumeSpec", fn := fun _ => fun
  | [d1, d2, d3, d4, d5, d6, d7] => { results := [.lit (.bool true)], args := [d1, d2, d3, d4, d5, d6, d7] }
  | _ => none }
def basinVolumeSpecRow : OpenClaim := { program := "ythlchdnbokhclaagreat", sum := "7d476d9339f953208ad560563181cda2e7c1a288d1815c748a4c29c2d8674cfa", func := "snowline/snowlinelaw05.BasinVolumeSpec", spec := "basinVolumeSpec", unfollowed := true, recurses := true, plainKeys := false, apart := false }
def BasinVolumeSpecSaid : Prop := basinVolumeSpecRow.holds Tryz.pinned (OpenSpec.ofChange basinVolumeSpecSpec)

/-- ITS FALSE NEIGHBOUR: 'it returns false'. Refute it at one input. -/
def basinVolumeSpecWrong : ChangeSpec := { name := "basinVolumeSpec", fn := fun _ => fun
  | [d1, d2, d3, d4, d5, d6, d7] => { results := [.lit (.bool false)], args := [d1, d2, d3, d4, d5, d6, d7] }
  | _ => none }
def BasinVolumeSpecWrongFalsely : Prop := basinVolumeSpecRow.holds Tryz.pinned (OpenSpec.ofChange basinVolumeSpecWrong)

/-- 'snowlinelaw05.BasinLostExact': WHATEVER THE INPUT: true; the input reads as it did. -/
def basinLostExactSpec : ChangeSpec := { name := "basinLostExact", fn := fun _ => fun
  | [d1, d2, d3, d4, d5, d6] => { results := [.lit (.bool true)], args := [d1, d2, d3, d4, d5, d6] }
  | _ => none }
def basinLostExactRow : OpenClaim := { program := "ythlchdnbokhclaagreat", sum := "7d476d9339f953208ad560563181cda2e7c1a288d1815c748a4c29c2d8674cfa", func := "snowline/snowlinelaw05.BasinLostExact", spec := "basinLostExact", unfollowed := true, recurses := true, plainKeys := false, apart := false }
def BasinLostExactSaid : Prop := basinLostExactRow.holds Tryz.pinned (OpenSpec.ofChange basinLostExactSpec)

/-- ITS FALSE NEIGHBOUR: 'it returns false'. Refute it at one input. -/
def basinLostExactWrong : ChangeSpec := { name := "basinLostExact", fn := fun _ => fun
  | [d1, d2, d3, d4, d5, d6] => { results := [.lit (.bool false)], args := [d1, d2, d3, d4, d5, d6] }
  | _ => none }
def BasinLostExactWrongFalsely : Prop := basinLostExactRow.holds Tryz.pinned (OpenSpec.ofChange basinLostExactWrong)

/- THE SECOND FORM. 'bulk': how many values and letters a reading holds, each counted each time it is reached (what is shared counts as often as it is met; a slice's spare places count too). A statement '..UptoSaid' is the law's where the arguments, and the package variables that the reading takes, are together of bulk at most 1048576: NARROWER than '..Said'. Prove '..Said' where nothing that the law and all that it calls make is longer than what came in: it says more and counts as full. Else prove '..UptoSaid'. A law counts once. -/
mutual
def uptoBulk {H : Type} : DataW H → Nat
  | .lit (.string bytes) => bytes.length + 1
  | .lit _ => 1
  | .nil => 1
  | .ptr d => uptoBulk d + 1
  | .slice elems spare => uptoBulkAll elems + uptoBulkAll spare + 1
  | .agg parts => uptoBulkAll parts + 1
  | .iface _ d => uptoBulk d + 1
  | .map entries => uptoBulkEntries entries + 1
  | .held _ => 1
def uptoBulkAll {H : Type} : List (DataW H) → Nat
  | [] => 0
  | d :: r => uptoBulk d + uptoBulkAll r
def uptoBulkEntries {H : Type} : List (Lit × DataW H) → Nat
  | [] => 0
  | x :: r => uptoBulkEntry x + uptoBulkEntries r
def uptoBulkEntry {H : Type} : Lit × DataW H → Nat
  | (.string bytes, d) => bytes.length + uptoBulk d + 1
  | (_, d) => uptoBulk d + 1
 end
def uptoSmall : (H : Type) → List (DataW H) → Bool := fun _ ds => decide (uptoBulkAll ds ≤ 1048576)
def OpenSpec.upto (s : _root_.Go.ChangeSpec) : _root_.Go.OpenSpec := { _root_.Go.OpenSpec.ofChange s with cond := some uptoSmall }

/-- 'snowlinelaw05.BasinNetSpec', WHERE WHAT IT READS IS OF BULK AT MOST 1048576: true; the input reads as it did. -/
def basinNetSpecUptoRow : OpenClaim := { program := "ythlchdnbokhclaagreat", sum := "7d476d9339f953208ad560563181cda2e7c1a288d1815c748a4c29c2d8674cfa", func := "snowline/snowlinelaw05.BasinNetSpec", spec := "basinNetSpec", unfollowed := true, recurses := true, plainKeys := false, apart := false, narrowed := true }
def BasinNetSpecUptoSaid : Prop := basinNetSpecUptoRow.holds Tryz.pinned (OpenSpec.upto basinNetSpecSpec)

/-- 'snowlinelaw05.BasinFieldSpec', WHERE WHAT IT READS IS OF BULK AT MOST 1048576: true; the input reads as it did. -/
def basinFieldSpecUptoRow : OpenClaim := { program := "ythlchdnbokhclaagreat", sum := "7d476d9339f953208ad560563181cda2e7c1a288d1815c748a4c29c2d8674cfa", func := "snowline/snowlinelaw05.BasinFieldSpec", spec := "basinFieldSpec", unfollowed := true, recurses := true, plainKeys := false, apart := false, narrowed := true }
def BasinFieldSpecUptoSaid : Prop := basinFieldSpecUptoRow.holds Tryz.pinned (OpenSpec.upto basinFieldSpecSpec)

/-- 'snowlinelaw05.BasinFields', WHERE WHAT IT READS IS OF BULK AT MOST 1048576: true; the input reads as it did. -/
def basinFieldsUptoRow : OpenClaim := { program := "ythlchdnbokhclaagreat", sum := "7d476d9339f953208ad560563181cda2e7c1a288d1815c748a4c29c2d8674cfa", func := "snowline/snowlinelaw05.BasinFields", spec := "basinFields", unfollowed := true, recurses := true, plainKeys := false, apart := false, narrowed := true }
def BasinFieldsUptoSaid : Prop := basinFieldsUptoRow.holds Tryz.pinned (OpenSpec.upto basinFieldsSpec)

/-- 'snowlinelaw05.BasinOrder', WHERE WHAT IT READS IS OF BULK AT MOST 1048576: true; the input reads as it did. -/
def basinOrderUptoRow : OpenClaim := { program := "ythlchdnbokhclaagreat", sum := "7d476d9339f953208ad560563181cda2e7c1a288d1815c748a4c29c2d8674cfa", func := "snowline/snowlinelaw05.BasinOrder", spec := "basinOrder", unfollowed := true, recurses := true, plainKeys := false, apart := false, narrowed := true }
def BasinOrderUptoSaid : Prop := basinOrderUptoRow.holds Tryz.pinned (OpenSpec.upto basinOrderSpec)

/-- 'snowlinetop.TopSurvey', WHERE WHAT IT READS IS OF BULK AT MOST 1048576: true; the input reads as it did. -/
def topSurveyUptoRow : OpenClaim := { program := "ythlchdnbokhclaagreat", sum := "7d476d9339f953208ad560563181cda2e7c1a288d1815c748a4c29c2d8674cfa", func := "snowline/snowlinetop.TopSurvey", spec := "topSurvey", unfollowed := true, recurses := true, plainKeys := false, apart := false, narrowed := true }
def TopSurveyUptoSaid : Prop := topSurveyUptoRow.holds Tryz.pinned (OpenSpec.upto topSurveySpec)

/-- 'snowlinelaw05.BasinHeights', WHERE WHAT IT READS IS OF BULK AT MOST 1048576: true; the input reads as it did. -/
def basinHeightsUptoRow : OpenClaim := { program := "ythlchdnbokhclaagreat", sum := "7d476d9339f953208ad560563181cda2e7c1a288d1815c748a4c29c2d8674cfa", func := "snowline/snowlinelaw05.BasinHeights", spec := "basinHeights", unfollowed := true, recurses := true, plainKeys := false, apart := false, narrowed := true }
def BasinHeightsUptoSaid : Prop := basinHeightsUptoRow.holds Tryz.pinned (OpenSpec.upto basinHeightsSpec)

/-- 'snowlinetop.TopGranted', WHERE WHAT IT READS IS OF BULK AT MOST 1048576: true; the input reads as it did. -/
def topGrantedUptoRow : OpenClaim := { program := "ythlchdnbokhclaagreat", sum := "7d476d9339f953208ad560563181cda2e7c1a288d1815c748a4c29c2d8674cfa", func := "snowline/snowlinetop.TopGranted", spec := "topGranted", unfollowed := true, recurses := true, plainKeys := false, apart := false, narrowed := true }
def TopGrantedUptoSaid : Prop := topGrantedUptoRow.holds Tryz.pinned (OpenSpec.upto topGrantedSpec)

/-- 'snowlinelaw05.BasinHidden', WHERE WHAT IT READS IS OF BULK AT MOST 1048576: true; the input reads as it did. -/
def basinHiddenUptoRow : OpenClaim := { program := "ythlchdnbokhclaagreat", sum := "7d476d9339f953208ad560563181cda2e7c1a288d1815c748a4c29c2d8674cfa", func := "snowline/snowlinelaw05.BasinHidden", spec := "basinHidden", unfollowed := true, recurses := true, plainKeys := false, apart := false, narrowed := true }
def BasinHiddenUptoSaid : Prop := basinHiddenUptoRow.holds Tryz.pinned (OpenSpec.upto basinHiddenSpec)

/-- 'snowlinelaw05.BasinNarrower', WHERE WHAT IT READS IS OF BULK AT MOST 1048576: true; the input reads as it did. -/
def basinNarrowerUptoRow : OpenClaim := { program := "ythlchdnbokhclaagreat", sum := "7d476d9339f953208ad560563181cda2e7c1a288d1815c748a4c29c2d8674cfa", func := "snowline/snowlinelaw05.BasinNarrower", spec := "basinNarrower", unfollowed := true, recurses := true, plainKeys := false, apart := false, narrowed := true }
def BasinNarrowerUptoSaid : Prop := basinNarrowerUptoRow.holds Tryz.pinned (OpenSpec.upto basinNarrowerSpec)

/-- 'snowlinelaw05.BasinCheckSpec', WHERE WHAT IT READS IS OF BULK AT MOST 1048576: true; the input reads as it did. -/
def basinCheckSpecUptoRow : OpenClaim := { program := "ythlchdnbokhclaagreat", sum := "7d476d9339f953208ad560563181cda2e7c1a288d1815c748a4c29c2d8674cfa", func := "snowline/snowlinelaw05.BasinCheckSpec", spec := "basinCheckSpec", unfollowed := true, recurses := true, plainKeys := false, apart := false, narrowed := true }
def BasinCheckSpecUptoSaid : Prop := basinCheckSpecUptoRow.holds Tryz.pinned (OpenSpec.upto basinCheckSpecSpec)

/-- 'snowlinelaw05.BasinClashSpec', WHERE WHAT IT READS IS OF BULK AT MOST 1048576: true; the input reads as it did. -/
def basinClashSpecUptoRow : OpenClaim := { program := "ythlchdnbokhclaagreat", sum := "7d476d9339f953208ad560563181cda2e7c1a288d1815c748a4c29c2d8674cfa", func := "snowline/snowlinelaw05.BasinClashSpec", spec := "basinClashSpec", unfollowed := true, recurses := true, plainKeys := false, apart := false, narrowed := true }
def BasinClashSpecUptoSaid : Prop := basinClashSpecUptoRow.holds Tryz.pinned (OpenSpec.upto basinClashSpecSpec)

/-- 'snowlinelaw05.BasinRested', WHERE WHAT IT READS IS OF BULK AT MOST 1048576: true; the input reads as it did. -/
def basinRestedUptoRow : OpenClaim := { program := "ythlchdnbokhclaagreat", sum := "7d476d9339f953208ad560563181cda2e7c1a288d1815c748a4c29c2d8674cfa", func := "snowline/snowlinelaw05.BasinRested", spec := "basinRested", unfollowed := true, recurses := true, plainKeys := false, apart := false, narrowed := true }
def BasinRestedUptoSaid : Prop := basinRestedUptoRow.holds Tryz.pinned (OpenSpec.upto basinRestedSpec)

/-- 'snowlinelaw05.BasinRestsSpec', WHERE WHAT IT READS IS OF BULK AT MOST 1048576: true; the input reads as it did. -/
def basinRestsSpecUptoRow : OpenClaim := { program := "ythlchdnbokhclaagreat", sum := "7d476d9339f953208ad560563181cda2e7c1a288d1815c748a4c29c2d8674cfa", func := "snowline/snowlinelaw05.BasinRestsSpec", spec := "basinRestsSpec", unfollowed := true, recurses := true, plainKeys := false, apart := false, narrowed := true }
def BasinRestsSpecUptoSaid : Prop := basinRestsSpecUptoRow.holds Tryz.pinned (OpenSpec.upto basinRestsSpecSpec)

/-- 'snowlinelaw05.BasinAccused', WHERE WHAT IT READS IS OF BULK AT MOST 1048576: true; the input reads as it did. -/
def basinAccusedUptoRow : OpenClaim := { program := "ythlchdnbokhclaagreat", sum := "7d476d9339f953208ad560563181cda2e7c1a288d1815c748a4c29c2d8674cfa", func := "snowline/snowlinelaw05.BasinAccused", spec := "basinAccused", unfollowed := true, recurses := true, plainKeys := false, apart := false, narrowed := true }
def BasinAccusedUptoSaid : Prop := basinAccusedUptoRow.holds Tryz.pinned (OpenSpec.upto basinAccusedSpec)

/-- 'snowlinelaw05.BasinProofSpec', WHERE WHAT IT READS IS OF BULK AT MOST 1048576: true; the input reads as it did. -/
def basinProofSpecUptoRow : OpenClaim := { program := "ythlchdnbokhclaagreat", sum := "7d476d9339f953208ad560563181cda2e7c1a288d1815c748a4c29c2d8674cfa", func := "snowline/snowlinelaw05.BasinProofSpec", spec := "basinProofSpec", unfollowed := true, recurses := true, plainKeys := false, apart := false, narrowed := true }
def BasinProofSpecUptoSaid : Prop := basinProofSpecUptoRow.holds Tryz.pinned (OpenSpec.upto basinProofSpecSpec)

/-- 'snowlinelaw05.BasinExact', WHERE WHAT IT READS IS OF BULK AT MOST 1048576: true; the input reads as it did. -/
def basinExactUptoRow : OpenClaim := { program := "ythlchdnbokhclaagreat", sum := "7d476d9339f953208ad560563181cda2e7c1a288d1815c748a4c29c2d8674cfa", func := "snowline/snowlinelaw05.BasinExact", spec := "basinExact", unfollowed := true, recurses := true, plainKeys := false, apart := false, narrowed := true }
def BasinExactUptoSaid : Prop := basinExactUptoRow.holds Tryz.pinned (OpenSpec.upto basinExactSpec)

/-- 'snowlinelaw05.BasinVolumeSpec', WHERE WHAT IT READS IS OF BULK AT MOST 1048576: true; the input reads as it did. -/
def basinVolumeSpecUptoRow : OpenClaim := { program := "ythlchdnbokhclaagreat", sum := "7d476d9339f953208ad560563181cda2e7c1a288d1815c748a4c29c2d8674cfa", func := "snowline/snowlinelaw05.BasinVolumeSpec", spec := "basinVolumeSpec", unfollowed := true, recurses := true, plainKeys := false, apart := false, narrowed := true }
def BasinVolumeSpecUptoSaid : Prop := basinVolumeSpecUptoRow.holds Tryz.pinned (OpenSpec.upto basinVolumeSpecSpec)

/-- 'snowlinelaw05.BasinLostExact', WHERE WHAT IT READS IS OF BULK AT MOST 1048576: true; the input reads as it did. -/
def basinLostExactUptoRow : OpenClaim := { program := "ythlchdnbokhclaagreat", sum := "7d476d9339f953208ad560563181cda2e7c1a288d1815c748a4c29c2d8674cfa", func := "snowline/snowlinelaw05.BasinLostExact", spec := "basinLostExact", unfollowed := true, recurses := true, plainKeys := false, apart := false, narrowed := true }
def BasinLostExactUptoSaid : Prop := basinLostExactUptoRow.holds Tryz.pinned (OpenSpec.upto basinLostExactSpec)

end Rows
end Go.Proofs.YthlchdnbokhclaaGreat

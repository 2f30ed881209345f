/-
  NARROWER THAN 'FOR EVERY INPUT', by the rows' own cells (each row's printed sentence says how): RollBounds: laid · RollStones: laid · RollFits: laid · TopSame: laid · RollTrue: laid · RollSteps: laid · RollMore: laid · RollDone: laid · RollStone: laid · RollWater: laid · RollBest: laid · RollPass: laid · RollWrong: laid · RollKnown: laid.
  DERIVED. THE GIVEN ROWS OF THIS SEAT. 14 by the template 'for every input the law returns true; each argument reads behind the call as it read before'; 0 by the template 'total and deterministic' (their statements: YthgjedagbgmgmaaDoorTotals.lean).
  GIVEN WITH THE SEED: the statements are not yours to turn. If you find one false, say at which input.
  Laid BY PROGRAM, IN A SANDBOX (cutbox-rows.mjs): the forced cells as the released guide's own fill.sh prints them over the translation ea1b19361da60277… (all of the seat's roots in one cut). By AI agents, Wed Nov 11 2026. No macro, syntax, notation, axiom, sorry.
-/
import Derived.Test.YthgjedagbgmgmaaDoorChecked
import GoSem.Claim
import GoSem.ClaimJoined
import GoSem.ClaimMapViews
import Derived.JoinedTies
import Derived.KernelRfl
namespace Go.Proofs.YthgjedagbgmgmaaDoor
/- THE CELL 'sum', in the pinned program and in every row, IS THE sha256 OF THE DUMP (.gsa) THAT YthgjedagbgmgmaaDoorProg.lean LOADS. Nothing in Lean hashes anything: it is a label: what it is worth is what the hold of that sum in a sandbox is worth. -/
noncomputable def Tryd.pinned : Pinned := { name := "ythgjedagbgmgmaadoor", sum := "ea1b19361da60277fc69aa39c1afeb5e510fee8d637b3f390824d58a6ad1acd5", checked := Tryd.checked }
namespace Rows
def none {H : Type} : Left H := { results := [], args := [] }

/- WHAT THE LISTED PACKAGE-LEVEL VARIABLES READ AS WHEN THE CALL BEGINS. Each datum BY PROGRAM (the guide's laid-datum.mjs) off the statement by which the dump's own 'gosem.cut.vars' lays the variable. In a bare row this is a premise. The card (YthgjedagbgmgmaaDoorCards.lean) ties it to the program's text. -/
def laid_macadam_roll_begin {H : Type} : DataW H := .agg [.lit (.int .i64 0), .lit (.int .i64 (-1))]
def laid_macadam_roll_skies {H : Type} : DataW H := .iface "func table" (.agg [.iface "func" (.lit (.string [40, 109, 97, 99, 97, 100, 97, 109, 47, 114, 111, 108, 108, 46, 115, 116, 97, 116, 101, 41, 46, 100, 114, 121])), .iface "func" (.lit (.string [40, 109, 97, 99, 97, 100, 97, 109, 47, 114, 111, 108, 108, 46, 115, 116, 97, 116, 101, 41, 46, 100, 97, 109, 112])), .iface "func" (.lit (.string [40, 109, 97, 99, 97, 100, 97, 109, 47, 114, 111, 108, 108, 46, 115, 116, 97, 116, 101, 41, 46, 119, 101, 116]))])
def laid_macadam_weigh_nothing {H : Type} : DataW H := .agg [.lit (.int .i64 0), .lit (.int .i64 0)]
def laid_macadam_weigh_ends {H : Type} : DataW H := .iface "func table" (.agg [.iface "func" (.lit (.string [40, 109, 97, 99, 97, 100, 97, 109, 47, 119, 101, 105, 103, 104, 46, 112, 97, 115, 115, 41, 46, 108, 101, 97, 115, 116])), .iface "func" (.lit (.string [40, 109, 97, 99, 97, 100, 97, 109, 47, 119, 101, 105, 103, 104, 46, 112, 97, 115, 115, 41, 46, 109, 111, 115, 116]))])
def laid_macadam_toll_nowhere {H : Type} : DataW H := .agg [.lit (.int .i64 (-1)), .lit (.int .i64 (-1))]
def laid_macadam_toll_kinds {H : Type} : DataW H := .iface "func table" (.agg [.iface "func" (.lit (.string [40, 109, 97, 99, 97, 100, 97, 109, 47, 116, 111, 108, 108, 46, 118, 111, 116, 101, 115, 41, 46, 115, 111, 109, 101])), .iface "func" (.lit (.string [40, 109, 97, 99, 97, 100, 97, 109, 47, 116, 111, 108, 108, 46, 118, 111, 116, 101, 115, 41, 46, 101, 97, 99, 104]))])

/-- 'macadamlaw07.RollBounds': WHATEVER THE INPUT: true; the input reads as it did. -/
def rollBoundsSpec : ChangeSpec := { name := "rollBounds", fn := fun _ => fun
  | [d1, d2] => { results := [.lit (.bool true)], args := [d1, d2] }
  | _ => none }
def rollBoundsRow : OpenClaim := { program := "ythgjedagbgmgmaadoor", sum := "ea1b19361da60277fc69aa39c1afeb5e510fee8d637b3f390824d58a6ad1acd5", func := "macadam/macadamlaw07.RollBounds", spec := "rollBounds", unfollowed := true, recurses := true, named := ["macadam/roll.begin", "macadam/roll.skies"], plainKeys := false, apart := false, laid := [("macadam/roll.begin", laid_macadam_roll_begin), ("macadam/roll.skies", laid_macadam_roll_skies)] }
def RollBoundsSaid : Prop := rollBoundsRow.holds Tryd.pinned (OpenSpec.ofChange rollBoundsSpec)

/-- ITS FALSE NEIGHBOUR: 'it returns false'. Refute it at one input. -/
def rollBoundsWrong : ChangeSpec := { name := "rollBounds", fn := fun _ => fun
  | [d1, d2] => { results := [.lit (.bool false)], args := [d1, d2] }
  | _ => none }
def RollBoundsWrongFalsely : Prop := rollBoundsRow.holds Tryd.pinned (OpenSpec.ofChange rollBoundsWrong)

/-- 'macadamlaw07.RollStones': WHATEVER THE INPUT: true; the input reads as it did. -/
def rollStonesSpec : ChangeSpec := { name := "rollStones", fn := fun _ => fun
  | [d] => { results := [.lit (.bool true)], args := [d] }
  | _ => none }
def rollStonesRow : OpenClaim := { program := "ythgjedagbgmgmaadoor", sum := "ea1b19361da60277fc69aa39c1afeb5e510fee8d637b3f390824d58a6ad1acd5", func := "macadam/macadamlaw07.RollStones", spec := "rollStones", unfollowed := true, recurses := true, named := ["macadam/roll.begin", "macadam/roll.skies"], plainKeys := false, apart := false, laid := [("macadam/roll.begin", laid_macadam_roll_begin), ("macadam/roll.skies", laid_macadam_roll_skies)] }
def RollStonesSaid : Prop := rollStonesRow.holds Tryd.pinned (OpenSpec.ofChange rollStonesSpec)

/-- ITS FALSE NEIGHBOUR: 'it returns false'. Refute it at one input. -/
def rollStonesWrong : ChangeSpec := { name := "rollStones", fn := fun _ => fun
  | [d] => { results := [.lit (.bool false)], args := [d] }
  | _ => none }
def RollStonesWrongFalsely : Prop := rollStonesRow.holds Tryd.pinned (OpenSpec.ofChange rollStonesWrong)

/-- 'macadamlaw07.RollFits': WHATEVER THE INPUT: true; the input reads as it did. -/
def rollFitsSpec : ChangeSpec := { name := "rollFits", fn := fun _ => fun
  | [d1, d2] => { results := [.lit (.bool true)], args := [d1, d2] }
  | _ => none }
def rollFitsRow : OpenClaim := { program := "ythgjedagbgmgmaadoor", sum := "ea1b19361da60277fc69aa39c1afeb5e510fee8d637b3f390824d58a6ad1acd5", func := "macadam/macadamlaw07.RollFits", spec := "rollFits", unfollowed := true, recurses := true, named := ["macadam/roll.begin", "macadam/roll.skies"], plainKeys := false, apart := false, laid := [("macadam/roll.begin", laid_macadam_roll_begin), ("macadam/roll.skies", laid_macadam_roll_skies)] }
def RollFitsSaid : Prop := rollFitsRow.holds Tryd.pinned (OpenSpec.ofChange rollFitsSpec)

/-- ITS FALSE NEIGHBOUR: 'it returns false'. Refute it at one input. -/
def rollFitsWrong : ChangeSpec := { name := "rollFits", fn := fun _ => fun
  | [d1, d2] => { results := [.lit (.bool false)], args := [d1, d2] }
  | _ => none }
def RollFitsWrongFalsely : Prop := rollFitsRow.holds Tryd.pinned (OpenSpec.ofChange rollFitsWrong)

/-- 'macadamtop.TopSame': WHATEVER THE INPUT: true; the input reads as it did. -/
def topSameSpec : ChangeSpec := { name := "topSame", fn := fun _ => fun
  | [d1, d2] => { results := [.lit (.bool true)], args := [d1, d2] }
  | _ => none }
def topSameRow : OpenClaim := { program := "ythgjedagbgmgmaadoor", sum := "ea1b19361da60277fc69aa39c1afeb5e510fee8d637b3f390824d58a6ad1acd5", func := "macadam/macadamtop.TopSame", spec := "topSame", unfollowed := true, recurses := true, named := ["macadam/weigh.nothing", "macadam/weigh.ends", "macadam/toll.nowhere", "macadam/toll.kinds"], plainKeys := false, apart := false, laid := [("macadam/weigh.nothing", laid_macadam_weigh_nothing), ("macadam/weigh.ends", laid_macadam_weigh_ends), ("macadam/toll.nowhere", laid_macadam_toll_nowhere), ("macadam/toll.kinds", laid_macadam_toll_kinds)] }
def TopSameSaid : Prop := topSameRow.holds Tryd.pinned (OpenSpec.ofChange topSameSpec)

/-- ITS FALSE NEIGHBOUR: 'it returns false'. Refute it at one input. -/
def topSameWrong : ChangeSpec := { name := "topSame", fn := fun _ => fun
  | [d1, d2] => { results := [.lit (.bool false)], args := [d1, d2] }
  | _ => none }
def TopSameWrongFalsely : Prop := topSameRow.holds Tryd.pinned (OpenSpec.ofChange topSameWrong)

/-- 'macadamlaw07.RollTrue': WHATEVER THE INPUT: true; the input reads as it did. -/
def rollTrueSpec : ChangeSpec := { name := "rollTrue", fn := fun _ => fun
  | [d1, d2, d3] => { results := [.lit (.bool true)], args := [d1, d2, d3] }
  | _ => none }
def rollTrueRow : OpenClaim := { program := "ythgjedagbgmgmaadoor", sum := "ea1b19361da60277fc69aa39c1afeb5e510fee8d637b3f390824d58a6ad1acd5", func := "macadam/macadamlaw07.RollTrue", spec := "rollTrue", unfollowed := true, recurses := true, named := ["macadam/roll.begin", "macadam/roll.skies"], plainKeys := false, apart := false, laid := [("macadam/roll.begin", laid_macadam_roll_begin), ("macadam/roll.skies", laid_macadam_roll_skies)] }
def RollTrueSaid : Prop := rollTrueRow.holds Tryd.pinned (OpenSpec.ofChange rollTrueSpec)

/-- ITS FALSE NEIGHBOUR: 'it returns false'. Refute it at one input. -/
def rollTrueWrong : ChangeSpec := { name := "rollTrue", fn := fun _ => fun
  | [d1, d2, d3] => { results := [.lit (.bool false)], args := [d1, d2, d3] }
  | _ => none }
def RollTrueWrongFalsely : Prop := rollTrueRow.holds Tryd.pinned (OpenSpec.ofChange rollTrueWrong)

/-- 'macadamlaw07.RollSteps': WHATEVER THE INPUT: true; the input reads as it did. -/
def rollStepsSpec : ChangeSpec := { name := "rollSteps", fn := fun _ => fun
  | [d1, d2] => { results := [.lit (.bool true)], args := [d1, d2] }
  | _ => none }
def rollStepsRow : OpenClaim := { program := "ythgjedagbgmgmaadoor", sum := "ea1b19361da60277fc69aa39c1afeb5e510fee8d637b3f390824d58a6ad1acd5", func := "macadam/macadamlaw07.RollSteps", spec := "rollSteps", unfollowed := true, recurses := true, named := ["macadam/roll.begin", "macadam/roll.skies"], plainKeys := false, apart := false, laid := [("macadam/roll.begin", laid_macadam_roll_begin), ("macadam/roll.skies", laid_macadam_roll_skies)] }
def RollStepsSaid : Prop := rollStepsRow.holds Tryd.pinned (OpenSpec.ofChange rollStepsSpec)

/-- ITS FALSE NEIGHBOUR: 'it returns false'. Refute it at one input. -/
def rollStepsWrong : ChangeSpec := { name := "rollSteps", fn := fun _ => fun
  | [d1, d2] => { results := [.lit (.bool false)], args := [d1, d2] }
  | _ => none }
def RollStepsWrongFalsely : Prop := rollStepsRow.holds Tryd.pinned (OpenSpec.ofChange rollStepsWrong)

/-- 'macadamlaw07.RollMore': WHATEVER THE INPUT: true; the input reads as it did. -/
def rollMoreSpec : ChangeSpec := { name := "rollMore", fn := fun _ => fun
  | [d1, d2, d3] => { results := [.lit (.bool true)], args := [d1, d2, d3] }
  | _ => none }
def rollMoreRow : OpenClaim := { program := "ythgjedagbgmgmaadoor", sum := "ea1b19361da60277fc69aa39c1afeb5e510fee8d637b3f390824d58a6ad1acd5", func := "macadam/macadamlaw07.RollMore", spec := "rollMore", unfollowed := true, recurses := true, named := ["macadam/roll.begin", "macadam/roll.skies"], plainKeys := false, apart := false, laid := [("macadam/roll.begin", laid_macadam_roll_begin), ("macadam/roll.skies", laid_macadam_roll_skies)] }
def RollMoreSaid : Prop := rollMoreRow.holds Tryd.pinned (OpenSpec.ofChange rollMoreSpec)

/-- ITS FALSE NEIGHBOUR: 'it returns false'. Refute it at one input. -/
def rollMoreWrong : ChangeSpec := { name := "rollMore", fn := fun _ => fun
  | [d1, d2, d3] => { results := [.lit (.bool false)], args := [d1, d2, d3] }
  | _ => none }
def RollMoreWrongFalsely : Prop := rollMoreRow.holds Tryd.pinned (OpenSpec.ofChange rollMoreWrong)

/-- 'macadamlaw07.RollDone': WHATEVER THE INPUT: true; the input reads as it did. -/
def rollDoneSpec : ChangeSpec := { name := "rollDone", fn := fun _ => fun
  | [d1, d2] => { results := [.lit (.bool true)], args := [d1, d2] }
  | _ => none }
def rollDoneRow : OpenClaim := { program := "ythgjedagbgmgmaadoor", sum := "ea1b19361da60277fc69aa39c1afeb5e510fee8d637b3f390824d58a6ad1acd5", func := "macadam/macadamlaw07.RollDone", spec := "rollDone", unfollowed := true, recurses := true, named := ["macadam/roll.begin", "macadam/roll.skies"], plainKeys := false, apart := false, laid := [("macadam/roll.begin", laid_macadam_roll_begin), ("macadam/roll.skies", laid_macadam_roll_skies)] }
def RollDoneSaid : Prop := rollDoneRow.holds Tryd.pinned (OpenSpec.ofChange rollDoneSpec)

/-- ITS FALSE NEIGHBOUR: 'it returns false'. Refute it at one input. -/
def rollDoneWrong : ChangeSpec := { name := "rollDone", fn := fun _ => fun
  | [d1, d2] => { results := [.lit (.bool false)], args := [d1, d2] }
  | _ => none }
def RollDoneWrongFalsely : Prop := rollDoneRow.holds Tryd.pinned (OpenSpec.ofChange rollDoneWrong)

/-- 'macadamlaw07.RollStone': WHATEVER THE INPUT: true; the input reads as it did. -/
def rollStoneSpec : ChangeSpec := { name := "rollStone", fn := fun _ => fun
  | [d1, d2] => { results := [.lit (.bool true)], args := [d1, d2] }
  | _ => none }
def rollStoneRow : OpenClaim := { program := "ythgjedagbgmgmaadoor", sum := "ea1b19361da60277fc69aa39c1afeb5e510fee8d637b3f390824d58a6ad1acd5", func := "macadam/macadamlaw07.RollStone", spec := "rollStone", unfollowed := true, recurses := true, named := ["macadam/roll.begin", "macadam/roll.skies"], plainKeys := false, apart := false, laid := [("macadam/roll.begin", laid_macadam_roll_begin), ("macadam/roll.skies", laid_macadam_roll_skies)] }
def RollStoneSaid : Prop := rollStoneRow.holds Tryd.pinned (OpenSpec.ofChange rollStoneSpec)

/-- ITS FALSE NEIGHBOUR: 'it returns false'. Refute it at one input. -/
def rollStoneWrong : ChangeSpec := { name := "rollStone", fn := fun _ => fun
  | [d1, d2] => { results := [.lit (.bool false)], args := [d1, d2] }
  | _ => none }
def RollStoneWrongFalsely : Prop := rollStoneRow.holds Tryd.pinned (OpenSpec.ofChange rollStoneWrong)

/-- 'macadamlaw07.RollWater': WHATEVER THE INPUT: true; the input reads as it did. -/
def rollWaterSpec : ChangeSpec := { name := "rollWater", fn := fun _ => fun
  | [d1, d2] => { results := [.lit (.bool true)], args := [d1, d2] }
  | _ => none }
def rollWaterRow : OpenClaim := { program := "ythgjedagbgmgmaadoor", sum := "ea1b19361da60277fc69aa39c1afeb5e510fee8d637b3f390824d58a6ad1acd5", func := "macadam/macadamlaw07.RollWater", spec := "rollWater", unfollowed := true, recurses := true, named := ["macadam/roll.begin", "macadam/roll.skies"], plainKeys := false, apart := false, laid := [("macadam/roll.begin", laid_macadam_roll_begin), ("macadam/roll.skies", laid_macadam_roll_skies)] }
def RollWaterSaid : Prop := rollWaterRow.holds Tryd.pinned (OpenSpec.ofChange rollWaterSpec)

/-- ITS FALSE NEIGHBOUR: 'it returns false'. Refute it at one input. -/
def rollWaterWrong : ChangeSpec := { name := "rollWater", fn := fun _ => fun
  | [d1, d2] => { results := [.lit (.bool false)], args := [d1, d2] }
  | _ => none }
def RollWaterWrongFalsely : Prop := rollWaterRow.holds Tryd.pinned (OpenSpec.ofChange rollWaterWrong)

/-- 'macadamlaw07.RollBest': WHATEVER THE INPUT: true; the input reads as it did. -/
def rollBestSpec : ChangeSpec := { name := "rollBest", fn := fun _ => fun
  | [d1, d2] => { results := [.lit (.bool true)], args := [d1, d2] }
  | _ => none }
def rollBestRow : OpenClaim := { program := "ythgjedagbgmgmaadoor", sum := "ea1b19361da60277fc69aa39c1afeb5e510fee8d637b3f390824d58a6ad1acd5", func := "macadam/macadamlaw07.RollBest", spec := "rollBest", unfollowed := true, recurses := true, named := ["macadam/roll.begin", "macadam/roll.skies"], plainKeys := false, apart := false, laid := [("macadam/roll.begin", laid_macadam_roll_begin), ("macadam/roll.skies", laid_macadam_roll_skies)] }
def RollBestSaid : Prop := rollBestRow.holds Tryd.pinned (OpenSpec.ofChange rollBestSpec)

/-- ITS FALSE NEIGHBOUR: 'it returns false'. Refute it at one input. -/
def rollBestWrong : ChangeSpec := { name := "rollBest", fn := fun _ => fun
  | [d1, d2] => { results := [.lit (.bool false)], args := [d1, d2] }
  | _ => none }
def RollBestWrongFalsely : Prop := rollBestRow.holds Tryd.pinned (OpenSpec.ofChange rollBestWrong)

/-- 'macadamlaw07.RollPass': WHATEVER THE INPUT: true; the input reads as it did. -/
def rollPassSpec : ChangeSpec := { name := "rollPass", fn := fun _ => fun
  | [d1, d2] => { results := [.lit (.bool true)], args := [d1, d2] }
  | _ => none }
def rollPassRow : OpenClaim := { program := "ythgjedagbgmgmaadoor", sum := "ea1b19361da60277fc69aa39c1afeb5e510fee8d637b3f390824d58a6ad1acd5", func := "macadam/macadamlaw07.RollPass", spec := "rollPass", unfollowed := true, recurses := true, named := ["macadam/roll.begin", "macadam/roll.skies"], plainKeys := false, apart := false, laid := [("macadam/roll.begin", laid_macadam_roll_begin), ("macadam/roll.skies", laid_macadam_roll_skies)] }
def RollPassSaid : Prop := rollPassRow.holds Tryd.pinned (OpenSpec.ofChange rollPassSpec)

/-- ITS FALSE NEIGHBOUR: 'it returns false'. Refute it at one input. -/
def rollPassWrong : ChangeSpec := { name := "rollPass", fn := fun _ => fun
  | [d1, d2] => { results := [.lit (.bool false)], args := [d1, d2] }
  | _ => none }
def RollPassWrongFalsely : Prop := rollPassRow.holds Tryd.pinned (OpenSpec.ofChange rollPassWrong)

/-- 'macadamlaw07.RollWrong': WHATEVER THE INPUT: true; the input reads as it did. -/
def rollWrongSpec : ChangeSpec := { name := "rollWrong", fn := fun _ => fun
  | [d1, d2] => { results := [.lit (.bool true)], args := [d1, d2] }
  | _ => none }
def rollWrongRow : OpenClaim := { program := "ythgjedagbgmgmaadoor", sum := "ea1b19361da60277fc69aa39c1afeb5e510fee8d637b3f390824d58a6ad1acd5", func := "macadam/macadamlaw07.RollWrong", spec := "rollWrong", unfollowed := true, recurses := true, named := ["macadam/roll.begin", "macadam/roll.skies"], plainKeys := false, apart := false, laid := [("macadam/roll.begin", laid_macadam_roll_begin), ("macadam/roll.skies", laid_macadam_roll_skies)] }
def RollWrongSaid : Prop := rollWrongRow.holds Tryd.pinned (OpenSpec.ofChange rollWrongSpec)

/-- ITS FALSE NEIGHBOUR: 'it returns false'. Refute it at one input. -/
def rollWrongWrong : ChangeSpec := { name := "rollWrong", fn := fun _ => fun
  | [d1, d2] => { results := [.lit (.bool false)], args := [d1, d2] }
  | _ => none }
def RollWrongWrongFalsely : Prop := rollWrongRow.holds Tryd.pinned (OpenSpec.ofChange rollWrongWrong)

/-- 'macadamlaw07.RollKnown': WHATEVER THE INPUT: true; the input reads as it did. -/
def rollKnownSpec : ChangeSpec := { name := "rollKnown", fn := fun _ => fun
  | [] => { results := [.lit (.bool true)], args := [] }
  | _ => none }
def rollKnownRow : OpenClaim := { program := "ythgjedagbgmgmaadoor", sum := "ea1b19361da60277fc69aa39c1afeb5e510fee8d637b3f390824d58a6ad1acd5", func := "macadam/macadamlaw07.RollKnown", spec := "rollKnown", unfollowed := true, recurses := true, named := ["macadam/roll.begin", "macadam/roll.skies"], plainKeys := false, apart := false, laid := [("macadam/roll.begin", laid_macadam_roll_begin), ("macadam/roll.skies", laid_macadam_roll_skies)] }
def RollKnownSaid : Prop := rollKnownRow.holds Tryd.pinned (OpenSpec.ofChange rollKnownSpec)

/-- ITS FALSE NEIGHBOUR: 'it returns false'. Refute it at one input. -/
def rollKnownWrong : ChangeSpec := { name := "rollKnown", fn := fun _ => fun
  | [] => { results := [.lit (.bool false)], args := [] }
  | _ => none }
def RollKnownWrongFalsely : Prop := rollKnownRow.holds Tryd.pinned (OpenSpec.ofChange rollKnownWrong)

/- THE SECOND FORM. 'bulk': how many values and letters a reading holds, each counted each time it is reached (what is shared counts as often as it is met; a slice's spare places count too). A statement '..UptoSaid' is the law's where the arguments, and the package variables that the reading takes, are together of bulk at most 1048576: NARROWER than '..Said'. Prove '..Said' where nothing that the law and all that it calls make is longer than what came in: it says more and counts as full. Else prove '..UptoSaid'. A law counts once. -/
mutual
def uptoBulk {H : Type} : DataW H → Nat
  | .lit (.string bytes) => bytes.length + 1
  | .lit _ => 1
  | .nil => 1
  | .ptr d => uptoBulk d + 1
  | .slice elems spare => uptoBulkAll elems + uptoBulkAll spare + 1
  | .agg parts => uptoBulkAll parts + 1
  | .iface _ d => uptoBulk d + 1
  | .map entries => uptoBulkEntries entries + 1
  | .held _ => 1
def uptoBulkAll {H : Type} : List (DataW H) → Nat
  | [] => 0
  | d :: r => uptoBulk d + uptoBulkAll r
def uptoBulkEntries {H : Type} : List (Lit × DataW H) → Nat
  | [] => 0
  | x :: r => uptoBulkEntry x + uptoBulkEntries r
def uptoBulkEntry {H : Type} : Lit × DataW H → Nat
  | (.string bytes, d) => bytes.length + uptoBulk d + 1
  | (_, d) => uptoBulk d + 1
 end
def uptoSmall : (H : Type) → List (DataW H) → Bool := fun _ ds => decide (uptoBulkAll ds ≤ 1048576)
def OpenSpec.upto (s : _root_.Go.ChangeSpec) : _root_.Go.OpenSpec := { _root_.Go.OpenSpec.ofChange s with cond := some uptoSmall }

/-- 'macadamlaw07.RollBounds', WHERE WHAT IT READS IS OF BULK AT MOST 1048576: true; the input reads as it did. -/
def rollBoundsUptoRow : OpenClaim := { program := "ythgjedagbgmgmaadoor", sum := "ea1b19361da60277fc69aa39c1afeb5e510fee8d637b3f390824d58a6ad1acd5", func := "macadam/macadamlaw07.RollBounds", spec := "rollBounds", unfollowed := true, recurses := true, named := ["macadam/roll.begin", "macadam/roll.skies"], plainKeys := false, apart := false, laid := [("macadam/roll.begin", laid_macadam_roll_begin), ("macadam/roll.skies", laid_macadam_roll_skies)], narrowed := true }
def RollBoundsUptoSaid : Prop := rollBoundsUptoRow.holds Tryd.pinned (OpenSpec.upto rollBoundsSpec)

/-- 'macadamlaw07.RollStones', WHERE WHAT IT READS IS OF BULK AT MOST 1048576: true; the input reads as it did. -/
def rollStonesUptoRow : OpenClaim := { program := "ythgjedagbgmgmaadoor", sum := "ea1b19361da60277fc69aa39c1afeb5e510fee8d637b3f390824d58a6ad1acd5", func := "macadam/macadamlaw07.RollStones", spec := "rollStones", unfollowed := true, recurses := true, named := ["macadam/roll.begin", "macadam/roll.skies"], plainKeys := false, apart := false, laid := [("macadam/roll.begin", laid_macadam_roll_begin), ("macadam/roll.skies", laid_macadam_roll_skies)], narrowed := true }
def RollStonesUptoSaid : Prop := rollStonesUptoRow.holds Tryd.pinned (OpenSpec.upto rollStonesSpec)

/-- 'macadamlaw07.RollFits', WHERE WHAT IT READS IS OF BULK AT MOST 1048576: true; the input reads as it did. -/
def rollFitsUptoRow : OpenClaim := { program := "ythgjedagbgmgmaadoor", sum := "ea1b19361da60277fc69aa39c1afeb5e510fee8d637b3f390824d58a6ad1acd5", func := "macadam/macadamlaw07.RollFits", spec := "rollFits", unfollowed := true, recurses := true, named := ["macadam/roll.begin", "macadam/roll.skies"], plainKeys := false, apart := false, laid := [("macadam/roll.begin", laid_macadam_roll_begin), ("macadam/roll.skies", laid_macadam_roll_skies)], narrowed := true }
def RollFitsUptoSaid : Prop := rollFitsUptoRow.holds Tryd.pinned (OpenSpec.upto rollFitsSpec)

/-- 'macadamtop.TopSame', WHERE WHAT IT READS IS OF BULK AT MOST 1048576: true; the input reads as it did. -/
def topSameUptoRow : OpenClaim := { program := "ythgjedagbgmgmaadoor", sum := "ea1b19361da60277fc69aa39c1afeb5e510fee8d637b3f390824d58a6ad1acd5", func := "macadam/macadamtop.TopSame", spec := "topSame", unfollowed := true, recurses := true, named := ["macadam/weigh.nothing", "macadam/weigh.ends", "macadam/toll.nowhere", "macadam/toll.kinds"], plainKeys := false, apart := false, laid := [("macadam/weigh.nothing", laid_macadam_weigh_nothing), ("macadam/weigh.ends", laid_macadam_weigh_ends), ("macadam/toll.nowhere", laid_macadam_toll_nowhere), ("macadam/toll.kinds", laid_macadam_toll_kinds)], narrowed := true }
def TopSameUptoSaid : Prop := topSameUptoRow.holds Tryd.pinned (OpenSpec.upto topSameSpec)

/-- 'macadamlaw07.RollTrue', WHERE WHAT IT READS IS OF BULK AT MOST 1048576: true; the input reads as it did. -/
def rollTrueUptoRow : OpenClaim := { program := "ythgjedagbgmgmaadoor", sum := "ea1b19361da60277fc69aa39c1afeb5e510fee8d637b3f390824d58a6ad1acd5", func := "macadam/macadamlaw07.RollTrue", spec := "rollTrue", unfollowed := true, recurses := true, named := ["macadam/roll.begin", "macadam/roll.skies"], plainKeys := false, apart := false, laid := [("macadam/roll.begin", laid_macadam_roll_begin), ("macadam/roll.skies", laid_macadam_roll_skies)], narrowed := true }
def RollTrueUptoSaid : Prop := rollTrueUptoRow.holds Tryd.pinned (OpenSpec.upto rollTrueSpec)

/-- 'macadamlaw07.RollSteps', WHERE WHAT IT READS IS OF BULK AT MOST 1048576: true; the input reads as it did. -/
def rollStepsUptoRow : OpenClaim := { program := "ythgjedagbgmgmaadoor", sum := "ea1b19361da60277fc69aa39c1afeb5e510fee8d637b3f390824d58a6ad1acd5", func := "macadam/macadamlaw07.RollSteps", spec := "rollSteps", unfollowed := true, recurses := true, named := ["macadam/roll.begin", "macadam/roll.skies"], plainKeys := false, apart := false, laid := [("macadam/roll.begin", laid_macadam_roll_begin), ("macadam/roll.skies", laid_macadam_roll_skies)], narrowed := true }
def RollStepsUptoSaid : Prop := rollStepsUptoRow.holds Tryd.pinned (OpenSpec.upto rollStepsSpec)

/-- 'macadamlaw07.RollMore', WHERE WHAT IT READS IS OF BULK AT MOST 1048576: true; the input reads as it did. -/
def rollMoreUptoRow : OpenClaim := { program := "ythgjedagbgmgmaadoor", sum := "ea1b19361da60277fc69aa39c1afeb5e510fee8d637b3f390824d58a6ad1acd5", func := "macadam/macadamlaw07.RollMore", spec := "rollMore", unfollowed := true, recurses := true, named := ["macadam/roll.begin", "macadam/roll.skies"], plainKeys := false, apart := false, laid := [("macadam/roll.begin", laid_macadam_roll_begin), ("macadam/roll.skies", laid_macadam_roll_skies)], narrowed := true }
def RollMoreUptoSaid : Prop := rollMoreUptoRow.holds Tryd.pinned (OpenSpec.upto rollMoreSpec)

/-- 'macadamlaw07.RollDone', WHERE WHAT IT READS IS OF BULK AT MOST 1048576: true; the input reads as it did. -/
def rollDoneUptoRow : OpenClaim := { program := "ythgjedagbgmgmaadoor", sum := "ea1b19361da60277fc69aa39c1afeb5e510fee8d637b3f390824d58a6ad1acd5", func := "macadam/macadamlaw07.RollDone", spec := "rollDone", unfollowed := true, recurses := true, named := ["macadam/roll.begin", "macadam/roll.skies"], plainKeys := false, apart := false, laid := [("macadam/roll.begin", laid_macadam_roll_begin), ("macadam/roll.skies", laid_macadam_roll_skies)], narrowed := true }
def RollDoneUptoSaid : Prop := rollDoneUptoRow.holds Tryd.pinned (OpenSpec.upto rollDoneSpec)

/-- 'macadamlaw07.RollStone', WHERE WHAT IT READS IS OF BULK AT MOST 1048576: true; the input reads as it did. -/
def rollStoneUptoRow : OpenClaim := { program := "ythgjedagbgmgmaadoor", sum := "ea1b19361da60277fc69aa39c1afeb5e510fee8d637b3f390824d58a6ad1acd5", func := "macadam/macadamlaw07.RollStone", spec := "rollStone", unfollowed := true, recurses := true, named := ["macadam/roll.begin", "macadam/roll.skies"], plainKeys := false, apart := false, laid := [("macadam/roll.begin", laid_macadam_roll_begin), ("macadam/roll.skies", laid_macadam_roll_skies)], narrowed := true }
def RollStoneUptoSaid : Prop := rollStoneUptoRow.holds Tryd.pinned (OpenSpec.upto rollStoneSpec)

/-- 'macadamlaw07.RollWater', WHERE WHAT IT READS IS OF BULK AT MOST 1048576: true; the input reads as it did. -/
def rollWaterUptoRow : OpenClaim := { program := "ythgjedagbgmgmaadoor", sum := "ea1b19361da60277fc69aa39c1afeb5e510fee8d637b3f390824d58a6ad1acd5", func := "macadam/macadamlaw07.RollWater", spec := "rollWater", unfollowed := true, recurses := true, named := ["macadam/roll.begin", "macadam/roll.skies"], plainKeys := false, apart := false, laid := [("macadam/roll.begin", laid_macadam_roll_begin), ("macadam/roll.skies", laid_macadam_roll_skies)], narrowed := true }
def RollWaterUptoSaid : Prop := rollWaterUptoRow.holds Tryd.pinned (OpenSpec.upto rollWaterSpec)

/-- 'macadamlaw07.RollBest', WHERE WHAT IT READS IS OF BULK AT MOST 1048576: true; the input reads as it did. -/
def rollBestUptoRow : OpenClaim := { program := "ythgjedagbgmgmaadoor", sum := "ea1b19361da60277fc69aa39c1afeb5e510fee8d637b3f390824d58a6ad1acd5", func := "macadam/macadamlaw07.RollBest", spec := "rollBest", unfollowed := true, recurses := true, named := ["macadam/roll.begin", "macadam/roll.skies"], plainKeys := false, apart := false, laid := [("macadam/roll.begin", laid_macadam_roll_begin), ("macadam/roll.skies", laid_macadam_roll_skies)], narrowed := true }
def RollBestUptoSaid : Prop := rollBestUptoRow.holds Tryd.pinned (OpenSpec.upto rollBestSpec)

/-- 'macadamlaw07.RollPass', WHERE WHAT IT READS IS OF BULK AT MOST 1048576: true; the input reads as it did. -/
def rollPassUptoRow : OpenClaim := { program := "ythgjedagbgmgmaadoor", sum := "ea1b19361da60277fc69aa39c1afeb5e510fee8d637b3f390824d58a6ad1acd5", func := "macadam/macadamlaw07.RollPass", spec := "rollPass", unfollowed := true, recurses := true, named := ["macadam/roll.begin", "macadam/roll.skies"], plainKeys := false, apart := false, laid := [("macadam/roll.begin", laid_macadam_roll_begin), ("macadam/roll.skies", laid_macadam_roll_skies)], narrowed := true }
def RollPassUptoSaid : Prop := rollPassUptoRow.holds Tryd.pinned (OpenSpec.upto rollPassSpec)

/-- 'macadamlaw07.RollWrong', WHERE WHAT IT READS IS OF BULK AT MOST 1048576: true; the input reads as it did. -/
def rollWrongUptoRow : OpenClaim := { program := "ythgjedagbgmgmaadoor", sum := "ea1b19361da60277fc69aa39c1afeb5e510fee8d637b3f390824d58a6ad1acd5", func := "macadam/macadamlaw07.RollWrong", spec := "rollWrong", unfollowed := true, recurses := true, named := ["macadam/roll.begin", "macadam/roll.skies"], plainKeys := false, apart := false, laid := [("macadam/roll.begin", laid_macadam_roll_begin), ("macadam/roll.skies", laid_macadam_roll_skies)], narrowed := true }
def RollWrongUptoSaid : Prop := rollWrongUptoRow.holds Tryd.pinned (OpenSpec.upto rollWrongSpec)

/-- 'macadamlaw07.RollKnown', WHERE WHAT IT READS IS OF BULK AT MOST 1048576: true; the input reads as it did. -/
def rollKnownUptoRow : OpenClaim := { program := "ythgjedagbgmgmaadoor", sum := "ea1b19361da60277fc69aa39c1afeb5e510fee8d637b3f390824d58a6ad1acd5", func := "macadam/macadamlaw07.RollKnown", spec := "rollKnown", unfollowed := true, recurses := true, named := ["macadam/roll.begin", "macadam/roll.skies"], plainKeys := false, apart := false, laid := [("macadam/roll.begin", laid_macadam_roll_begin), ("macadam/roll.skies", laid_macadam_roll_skies)], narrowed := true }
def RollKnownUptoSaid : Prop := rollKnownUptoRow.holds Tryd.pinned (OpenSpec.upto rollKnownSpec)

end Rows
end Go.Proofs.YthgjedagbgmgmaaDoor

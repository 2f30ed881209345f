/-
  DERIVED. GIVEN WITH THE SEED: THE CARDS: each row of YthgjedagbgmgmaaDoorRows.lean that lists a variable, with what it lists TIED to the program's text (the seventh form; the later family's looks); each row that meets fmt, with fmt's text TOLD by the authors' own Lean function (tested against real Go, not proved from fmt's source: count such statements apart). THE CARD IS WHAT COUNTS. Prove the row's statement (the work); the ties are given (YthgjedagbgmgmaaDoorTie.lean); close each card by the builder's one call (the guide's Derived/Test/ToyasCard.lean, 'card_holds'). Laid BY PROGRAM, IN A SANDBOX (cutbox-door.mjs). By AI agents, Wed Nov 11 2026. No macro, syntax, notation, axiom, sorry.
-/
import Derived.Test.YthgjedagbgmgmaaDoorRows
import GoSem.ClaimSeven
namespace Go.Proofs.YthgjedagbgmgmaaDoor
namespace Rows

/-- THE TIED CARD OF 'macadamlaw07.RollBounds'. -/
def rollBoundsCard : Claim7 := { stood := { row := rollBoundsRow, standIns := [], harness := (true, "9e277a14e9425b53af21c6d649dafb4c6552123b8a0127771cf7566ec4a1c4ea"), looks := false }, kinds := [], alts := [], laidByText := true, laidKinds := [.data, .funcs], laidTests := true, laidLooks := .later }
def RollBoundsCardSaid : Prop := Claim7.holds Tryd.pinned (.plain (OpenSpec.ofChange rollBoundsSpec)) rollBoundsCard

/-- THE TIED CARD OF 'macadamlaw07.RollStones'. -/
def rollStonesCard : Claim7 := { stood := { row := rollStonesRow, standIns := [], harness := (true, "9e277a14e9425b53af21c6d649dafb4c6552123b8a0127771cf7566ec4a1c4ea"), looks := false }, kinds := [], alts := [], laidByText := true, laidKinds := [.data, .funcs], laidTests := true, laidLooks := .later }
def RollStonesCardSaid : Prop := Claim7.holds Tryd.pinned (.plain (OpenSpec.ofChange rollStonesSpec)) rollStonesCard

/-- THE TIED CARD OF 'macadamlaw07.RollFits'. -/
def rollFitsCard : Claim7 := { stood := { row := rollFitsRow, standIns := [], harness := (true, "9e277a14e9425b53af21c6d649dafb4c6552123b8a0127771cf7566ec4a1c4ea"), looks := false }, kinds := [], alts := [], laidByText := true, laidKinds := [.data, .funcs], laidTests := true, laidLooks := .later }
def RollFitsCardSaid : Prop := Claim7.holds Tryd.pinned (.plain (OpenSpec.ofChange rollFitsSpec)) rollFitsCard

/-- THE TIED CARD OF 'macadamtop.TopSame'. -/
def topSameCard : Claim7 := { stood := { row := topSameRow, standIns := [], harness := (true, "9e277a14e9425b53af21c6d649dafb4c6552123b8a0127771cf7566ec4a1c4ea"), looks := false }, kinds := [], alts := [], laidByText := true, laidKinds := [.data, .funcs, .data, .funcs], laidTests := true, laidLooks := .later }
def TopSameCardSaid : Prop := Claim7.holds Tryd.pinned (.plain (OpenSpec.ofChange topSameSpec)) topSameCard

/-- THE TIED CARD OF 'macadamlaw07.RollTrue'. -/
def rollTrueCard : Claim7 := { stood := { row := rollTrueRow, standIns := [], harness := (true, "9e277a14e9425b53af21c6d649dafb4c6552123b8a0127771cf7566ec4a1c4ea"), looks := false }, kinds := [], alts := [], laidByText := true, laidKinds := [.data, .funcs], laidTests := true, laidLooks := .later }
def RollTrueCardSaid : Prop := Claim7.holds Tryd.pinned (.plain (OpenSpec.ofChange rollTrueSpec)) rollTrueCard

/-- THE TIED CARD OF 'macadamlaw07.RollSteps'. -/
def rollStepsCard : Claim7 := { stood := { row := rollStepsRow, standIns := [], harness := (true, "9e277a14e9425b53af21c6d649dafb4c6552123b8a0127771cf7566ec4a1c4ea"), looks := false }, kinds := [], alts := [], laidByText := true, laidKinds := [.data, .funcs], laidTests := true, laidLooks := .later }
def RollStepsCardSaid : Prop := Claim7.holds Tryd.pinned (.plain (OpenSpec.ofChange rollStepsSpec)) rollStepsCard

/-- THE TIED CARD OF 'macadamlaw07.RollMore'. -/
def rollMoreCard : Claim7 := { stood := { row := rollMoreRow, standIns := [], harness := (true, "9e277a14e9425b53af21c6d649dafb4c6552123b8a0127771cf7566ec4a1c4ea"), looks := false }, kinds := [], alts := [], laidByText := true, laidKinds := [.data, .funcs], laidTests := true, laidLooks := .later }
def RollMoreCardSaid : Prop := Claim7.holds Tryd.pinned (.plain (OpenSpec.ofChange rollMoreSpec)) rollMoreCard

/-- THE TIED CARD OF 'macadamlaw07.RollDone'. -/
def rollDoneCard : Claim7 := { stood := { row := rollDoneRow, standIns := [], harness := (true, "9e277a14e9425b53af21c6d649dafb4c6552123b8a0127771cf7566ec4a1c4ea"), looks := false }, kinds := [], alts := [], laidByText := true, laidKinds := [.data, .funcs], laidTests := true, laidLooks := .later }
def RollDoneCardSaid : Prop := Claim7.holds Tryd.pinned (.plain (OpenSpec.ofChange rollDoneSpec)) rollDoneCard

/-- THE TIED CARD OF 'macadamlaw07.RollStone'. -/
def rollStoneCard : Claim7 := { stood := { row := rollStoneRow, standIns := [], harness := (true, "9e277a14e9425b53af21c6d649dafb4c6552123b8a0127771cf7566ec4a1c4ea"), looks := false }, kinds := [], alts := [], laidByText := true, laidKinds := [.data, .funcs], laidTests := true, laidLooks := .later }
def RollStoneCardSaid : Prop := Claim7.holds Tryd.pinned (.plain (OpenSpec.ofChange rollStoneSpec)) rollStoneCard

/-- THE TIED CARD OF 'macadamlaw07.RollWater'. -/
def rollWaterCard : Claim7 := { stood := { row := rollWaterRow, standIns := [], harness := (true, "9e277a14e9425b53af21c6d649dafb4c6552123b8a0127771cf7566ec4a1c4ea"), looks := false }, kinds := [], alts := [], laidByText := true, laidKinds := [.data, .funcs], laidTests := true, laidLooks := .later }
def RollWaterCardSaid : Prop := Claim7.holds Tryd.pinned (.plain (OpenSpec.ofChange rollWaterSpec)) rollWaterCard

/-- THE TIED CARD OF 'macadamlaw07.RollBest'. -/
def rollBestCard : Claim7 := { stood := { row := rollBestRow, standIns := [], harness := (true, "9e277a14e9425b53af21c6d649dafb4c6552123b8a0127771cf7566ec4a1c4ea"), looks := false }, kinds := [], alts := [], laidByText := true, laidKinds := [.data, .funcs], laidTests := true, laidLooks := .later }
def RollBestCardSaid : Prop := Claim7.holds Tryd.pinned (.plain (OpenSpec.ofChange rollBestSpec)) rollBestCard

/-- THE TIED CARD OF 'macadamlaw07.RollPass'. -/
def rollPassCard : Claim7 := { stood := { row := rollPassRow, standIns := [], harness := (true, "9e277a14e9425b53af21c6d649dafb4c6552123b8a0127771cf7566ec4a1c4ea"), looks := false }, kinds := [], alts := [], laidByText := true, laidKinds := [.data, .funcs], laidTests := true, laidLooks := .later }
def RollPassCardSaid : Prop := Claim7.holds Tryd.pinned (.plain (OpenSpec.ofChange rollPassSpec)) rollPassCard

/-- THE TIED CARD OF 'macadamlaw07.RollWrong'. -/
def rollWrongCard : Claim7 := { stood := { row := rollWrongRow, standIns := [], harness := (true, "9e277a14e9425b53af21c6d649dafb4c6552123b8a0127771cf7566ec4a1c4ea"), looks := false }, kinds := [], alts := [], laidByText := true, laidKinds := [.data, .funcs], laidTests := true, laidLooks := .later }
def RollWrongCardSaid : Prop := Claim7.holds Tryd.pinned (.plain (OpenSpec.ofChange rollWrongSpec)) rollWrongCard

/-- THE TIED CARD OF 'macadamlaw07.RollKnown'. -/
def rollKnownCard : Claim7 := { stood := { row := rollKnownRow, standIns := [], harness := (true, "9e277a14e9425b53af21c6d649dafb4c6552123b8a0127771cf7566ec4a1c4ea"), looks := false }, kinds := [], alts := [], laidByText := true, laidKinds := [.data, .funcs], laidTests := true, laidLooks := .later }
def RollKnownCardSaid : Prop := Claim7.holds Tryd.pinned (.plain (OpenSpec.ofChange rollKnownSpec)) rollKnownCard

/-- THE SECOND FORM's CARD OF 'macadamlaw07.RollBounds'. -/
def rollBoundsUptoCard : Claim7 := { stood := { row := rollBoundsUptoRow, standIns := [], harness := (true, "9e277a14e9425b53af21c6d649dafb4c6552123b8a0127771cf7566ec4a1c4ea"), looks := false }, kinds := [], alts := [], laidByText := true, laidKinds := [.data, .funcs], laidTests := true, laidLooks := .later }
def RollBoundsUptoCardSaid : Prop := Claim7.holds Tryd.pinned (.plain (OpenSpec.upto rollBoundsSpec)) rollBoundsUptoCard

/-- THE SECOND FORM's CARD OF 'macadamlaw07.RollStones'. -/
def rollStonesUptoCard : Claim7 := { stood := { row := rollStonesUptoRow, standIns := [], harness := (true, "9e277a14e9425b53af21c6d649dafb4c6552123b8a0127771cf7566ec4a1c4ea"), looks := false }, kinds := [], alts := [], laidByText := true, laidKinds := [.data, .funcs], laidTests := true, laidLooks := .later }
def RollStonesUptoCardSaid : Prop := Claim7.holds Tryd.pinned (.plain (OpenSpec.upto rollStonesSpec)) rollStonesUptoCard

/-- THE SECOND FORM's CARD OF 'macadamlaw07.RollFits'. -/
def rollFitsUptoCard : Claim7 := { stood := { row := rollFitsUptoRow, standIns := [], harness := (true, "9e277a14e9425b53af21c6d649dafb4c6552123b8a0127771cf7566ec4a1c4ea"), looks := false }, kinds := [], alts := [], laidByText := true, laidKinds := [.data, .funcs], laidTests := true, laidLooks := .later }
def RollFitsUptoCardSaid : Prop := Claim7.holds Tryd.pinned (.plain (OpenSpec.upto rollFitsSpec)) rollFitsUptoCard

/-- THE SECOND FORM's CARD OF 'macadamtop.TopSame'. -/
def topSameUptoCard : Claim7 := { stood := { row := topSameUptoRow, standIns := [], harness := (true, "9e277a14e9425b53af21c6d649dafb4c6552123b8a0127771cf7566ec4a1c4ea"), looks := false }, kinds := [], alts := [], laidByText := true, laidKinds := [.data, .funcs, .data, .funcs], laidTests := true, laidLooks := .later }
def TopSameUptoCardSaid : Prop := Claim7.holds Tryd.pinned (.plain (OpenSpec.upto topSameSpec)) topSameUptoCard

/-- THE SECOND FORM's CARD OF 'macadamlaw07.RollTrue'. -/
def rollTrueUptoCard : Claim7 := { stood := { row := rollTrueUptoRow, standIns := [], harness := (true, "9e277a14e9425b53af21c6d649dafb4c6552123b8a0127771cf7566ec4a1c4ea"), looks := false }, kinds := [], alts := [], laidByText := true, laidKinds := [.data, .funcs], laidTests := true, laidLooks := .later }
def RollTrueUptoCardSaid : Prop := Claim7.holds Tryd.pinned (.plain (OpenSpec.upto rollTrueSpec)) rollTrueUptoCard

/-- THE SECOND FORM's CARD OF 'macadamlaw07.RollSteps'. -/
def rollStepsUptoCard : Claim7 := { stood := { row := rollStepsUptoRow, standIns := [], harness := (true, "9e277a14e9425b53af21c6d649dafb4c6552123b8a0127771cf7566ec4a1c4ea"), looks := false }, kinds := [], alts := [], laidByText := true, laidKinds := [.data, .funcs], laidTests := true, laidLooks := .later }
def RollStepsUptoCardSaid : Prop := Claim7.holds Tryd.pinned (.plain (OpenSpec.upto rollStepsSpec)) rollStepsUptoCard

/-- THE SECOND FORM's CARD OF 'macadamlaw07.RollMore'. -/
def rollMoreUptoCard : Claim7 := { stood := { row := rollMoreUptoRow, standIns := [], harness := (true, "9e277a14e9425b53af21c6d649dafb4c6552123b8a0127771cf7566ec4a1c4ea"), looks := false }, kinds := [], alts := [], laidByText := true, laidKinds := [.data, .funcs], laidTests := true, laidLooks := .later }
def RollMoreUptoCardSaid : Prop := Claim7.holds Tryd.pinned (.plain (OpenSpec.upto rollMoreSpec)) rollMoreUptoCard

/-- THE SECOND FORM's CARD OF 'macadamlaw07.RollDone'. -/
def rollDoneUptoCard : Claim7 := { stood := { row := rollDoneUptoRow, standIns := [], harness := (true, "9e277a14e9425b53af21c6d649dafb4c6552123b8a0127771cf7566ec4a1c4ea"), looks := false }, kinds := [], alts := [], laidByText := true, laidKinds := [.data, .funcs], laidTests := true, laidLooks := .later }
def RollDoneUptoCardSaid : Prop := Claim7.holds Tryd.pinned (.plain (OpenSpec.upto rollDoneSpec)) rollDoneUptoCard

/-- THE SECOND FORM's CARD OF 'macadamlaw07.RollStone'. -/
def rollStoneUptoCard : Claim7 := { stood := { row := rollStoneUptoRow, standIns := [], harness := (true, "9e277a14e9425b53af21c6d649dafb4c6552123b8a0127771cf7566ec4a1c4ea"), looks := false }, kinds := [], alts := [], laidByText := true, laidKinds := [.data, .funcs], laidTests := true, laidLooks := .later }
def RollStoneUptoCardSaid : Prop := Claim7.holds Tryd.pinned (.plain (OpenSpec.upto rollStoneSpec)) rollStoneUptoCard

/-- THE SECOND FORM's CARD OF 'macadamlaw07.RollWater'. -/
def rollWaterUptoCard : Claim7 := { stood := { row := rollWaterUptoRow, standIns := [], harness := (true, "9e277a14e9425b53af21c6d649dafb4c6552123b8a0127771cf7566ec4a1c4ea"), looks := false }, kinds := [], alts := [], laidByText := true, laidKinds := [.data, .funcs], laidTests := true, laidLooks := .later }
def RollWaterUptoCardSaid : Prop := Claim7.holds Tryd.pinned (.plain (OpenSpec.upto rollWaterSpec)) rollWaterUptoCard

/-- THE SECOND FORM's CARD OF 'macadamlaw07.RollBest'. -/
def rollBestUptoCard : Claim7 := { stood := { row := rollBestUptoRow, standIns := [], harness := (true, "9e277a14e9425b53af21c6d649dafb4c6552123b8a0127771cf7566ec4a1c4ea"), looks := false }, kinds := [], alts := [], laidByText := true, laidKinds := [.data, .funcs], laidTests := true, laidLooks := .later }
def RollBestUptoCardSaid : Prop := Claim7.holds Tryd.pinned (.plain (OpenSpec.upto rollBestSpec)) rollBestUptoCard

/-- THE SECOND FORM's CARD OF 'macadamlaw07.RollPass'. -/
def rollPassUptoCard : Claim7 := { stood := { row := rollPassUptoRow, standIns := [], harness := (true, "9e277a14e9425b53af21c6d649dafb4c6552123b8a0127771cf7566ec4a1c4ea"), looks := false }, kinds := [], alts := [], laidByText := true, laidKinds := [.data, .funcs], laidTests := true, laidLooks := .later }
def RollPassUptoCardSaid : Prop := Claim7.holds Tryd.pinned (.plain (OpenSpec.upto rollPassSpec)) rollPassUptoCard

/-- THE SECOND FORM's CARD OF 'macadamlaw07.RollWrong'. -/
def rollWrongUptoCard : Claim7 := { stood := { row := rollWrongUptoRow, standIns := [], harness := (true, "9e277a14e9425b53af21c6d649dafb4c6552123b8a0127771cf7566ec4a1c4ea"), looks := false }, kinds := [], alts := [], laidByText := true, laidKinds := [.data, .funcs], laidTests := true, laidLooks := .later }
def RollWrongUptoCardSaid : Prop := Claim7.holds Tryd.pinned (.plain (OpenSpec.upto rollWrongSpec)) rollWrongUptoCard

/-- THE SECOND FORM's CARD OF 'macadamlaw07.RollKnown'. -/
def rollKnownUptoCard : Claim7 := { stood := { row := rollKnownUptoRow, standIns := [], harness := (true, "9e277a14e9425b53af21c6d649dafb4c6552123b8a0127771cf7566ec4a1c4ea"), looks := false }, kinds := [], alts := [], laidByText := true, laidKinds := [.data, .funcs], laidTests := true, laidLooks := .later }
def RollKnownUptoCardSaid : Prop := Claim7.holds Tryd.pinned (.plain (OpenSpec.upto rollKnownSpec)) rollKnownUptoCard
end Rows
end Go.Proofs.YthgjedagbgmgmaaDoor

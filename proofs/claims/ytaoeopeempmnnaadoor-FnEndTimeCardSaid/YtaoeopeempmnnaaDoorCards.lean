/-
  DERIVED. GIVEN WITH THE SEED: THE CARDS: each row of YtaoeopeempmnnaaDoorRows.lean that lists a variable, with what it lists TIED to the program's text (the seventh form; the later family's looks); each row that meets fmt, with fmt's text TOLD by the authors' own Lean function (tested against real Go, not proved from fmt's source: count such statements apart). THE CARD IS WHAT COUNTS. Prove the row's statement (the work); the ties are given (YtaoeopeempmnnaaDoorTie.lean); close each card by the builder's one call (the guide's Derived/Test/ToyasCard.lean, 'card_holds'). Laid BY PROGRAM, IN A SANDBOX (cutbox-door.mjs). By AI agents, Wed Nov 11 2026. No macro, syntax, notation, axiom, sorry.
-/
import Derived.Test.YtaoeopeempmnnaaDoorRows
import GoSem.ClaimSeven
namespace Go.Proofs.YtaoeopeempmnnaaDoor
namespace Rows

/-- THE TIED CARD OF 'laws.FnValidStarts'. -/
def fnValidStartsCard : Claim7 := { stood := { row := fnValidStartsRow, standIns := [], harness := (true, "b07896bb202bbb0084b3030ff5b5889b57188de27dd4adf06abfc8749fc71ea2"), looks := false }, kinds := [], alts := [], laidByText := true, laidKinds := [.data], laidTests := true, laidLooks := .later }
def FnValidStartsCardSaid : Prop := Claim7.holds Tryd.pinned (.plain (OpenSpec.ofChange fnValidStartsSpec)) fnValidStartsCard

/-- THE TIED CARD OF 'laws.FnValidStartsMore'. -/
def fnValidStartsMoreCard : Claim7 := { stood := { row := fnValidStartsMoreRow, standIns := [], harness := (true, "b07896bb202bbb0084b3030ff5b5889b57188de27dd4adf06abfc8749fc71ea2"), looks := false }, kinds := [], alts := [], laidByText := true, laidKinds := [.data], laidTests := true, laidLooks := .later }
def FnValidStartsMoreCardSaid : Prop := Claim7.holds Tryd.pinned (.plain (OpenSpec.ofChange fnValidStartsMoreSpec)) fnValidStartsMoreCard

/-- THE TIED CARD OF 'laws.FnValidStartsRow'. -/
def fnValidStartsRowCard : Claim7 := { stood := { row := fnValidStartsRowRow, standIns := [], harness := (true, "b07896bb202bbb0084b3030ff5b5889b57188de27dd4adf06abfc8749fc71ea2"), looks := false }, kinds := [], alts := [], laidByText := true, laidKinds := [.data], laidTests := true, laidLooks := .later }
def FnValidStartsRowCardSaid : Prop := Claim7.holds Tryd.pinned (.plain (OpenSpec.ofChange fnValidStartsRowSpec)) fnValidStartsRowCard

/-- THE TIED CARD OF 'laws.FnValidStartsHead'. -/
def fnValidStartsHeadCard : Claim7 := { stood := { row := fnValidStartsHeadRow, standIns := [], harness := (true, "b07896bb202bbb0084b3030ff5b5889b57188de27dd4adf06abfc8749fc71ea2"), looks := false }, kinds := [], alts := [], laidByText := true, laidKinds := [.data], laidTests := true, laidLooks := .later }
def FnValidStartsHeadCardSaid : Prop := Claim7.holds Tryd.pinned (.plain (OpenSpec.ofChange fnValidStartsHeadSpec)) fnValidStartsHeadCard

/-- THE TIED CARD OF 'laws.FnEndTime'. -/
def fnEndTimeCard : Claim7 := { stood := { row := fnEndTimeRow, standIns := [], harness := (true, "b07896bb202bbb0084b3030ff5b5889b57188de27dd4adf06abfc8749fc71ea2"), looks := false }, kinds := [], alts := [], laidByText := true, laidKinds := [.data], laidTests := true, laidLooks := .later }
def FnEndTimeCardSaid : Prop := Claim7.holds Tryd.pinned (.plain (OpenSpec.ofChange fnEndTimeSpec)) fnEndTimeCard

/-- THE TIED CARD OF 'laws.FnEndTimeLater'. -/
def fnEndTimeLaterCard : Claim7 := { stood := { row := fnEndTimeLaterRow, standIns := [], harness := (true, "b07896bb202bbb0084b3030ff5b5889b57188de27dd4adf06abfc8749fc71ea2"), looks := false }, kinds := [], alts := [], laidByText := true, laidKinds := [.data], laidTests := true, laidLooks := .later }
def FnEndTimeLaterCardSaid : Prop := Claim7.holds Tryd.pinned (.plain (OpenSpec.ofChange fnEndTimeLaterSpec)) fnEndTimeLaterCard

/-- THE TIED CARD OF 'laws.FnMeetsDeadlineNever'. -/
def fnMeetsDeadlineNeverCard : Claim7 := { stood := { row := fnMeetsDeadlineNeverRow, standIns := [], harness := (true, "b07896bb202bbb0084b3030ff5b5889b57188de27dd4adf06abfc8749fc71ea2"), looks := false }, kinds := [], alts := [], laidByText := true, laidKinds := [.data], laidTests := true, laidLooks := .later }
def FnMeetsDeadlineNeverCardSaid : Prop := Claim7.holds Tryd.pinned (.plain (OpenSpec.ofChange fnMeetsDeadlineNeverSpec)) fnMeetsDeadlineNeverCard

/-- THE TIED CARD OF 'laws.FnMeetsDeadline'. -/
def fnMeetsDeadlineCard : Claim7 := { stood := { row := fnMeetsDeadlineRow, standIns := [], harness := (true, "b07896bb202bbb0084b3030ff5b5889b57188de27dd4adf06abfc8749fc71ea2"), looks := false }, kinds := [], alts := [], laidByText := true, laidKinds := [.data], laidTests := true, laidLooks := .later }
def FnMeetsDeadlineCardSaid : Prop := Claim7.holds Tryd.pinned (.plain (OpenSpec.ofChange fnMeetsDeadlineSpec)) fnMeetsDeadlineCard

/-- THE TIED CARD OF 'laws.FnLogOfTimes'. -/
def fnLogOfTimesCard : Claim7 := { stood := { row := fnLogOfTimesRow, standIns := [], harness := (true, "b07896bb202bbb0084b3030ff5b5889b57188de27dd4adf06abfc8749fc71ea2"), looks := false }, kinds := [], alts := [], laidByText := true, laidKinds := [.data], laidTests := true, laidLooks := .later }
def FnLogOfTimesCardSaid : Prop := Claim7.holds Tryd.pinned (.plain (OpenSpec.ofChange fnLogOfTimesSpec)) fnLogOfTimesCard

/-- THE TIED CARD OF 'laws.FnCancelAt'. -/
def fnCancelAtCard : Claim7 := { stood := { row := fnCancelAtRow, standIns := [], harness := (true, "b07896bb202bbb0084b3030ff5b5889b57188de27dd4adf06abfc8749fc71ea2"), looks := false }, kinds := [], alts := [], laidByText := true, laidKinds := [.data], laidTests := true, laidLooks := .later }
def FnCancelAtCardSaid : Prop := Claim7.holds Tryd.pinned (.plain (OpenSpec.ofChange fnCancelAtSpec)) fnCancelAtCard

/-- THE TIED CARD OF 'laws.FnCancelAtMore'. -/
def fnCancelAtMoreCard : Claim7 := { stood := { row := fnCancelAtMoreRow, standIns := [], harness := (true, "b07896bb202bbb0084b3030ff5b5889b57188de27dd4adf06abfc8749fc71ea2"), looks := false }, kinds := [], alts := [], laidByText := true, laidKinds := [.data], laidTests := true, laidLooks := .later }
def FnCancelAtMoreCardSaid : Prop := Claim7.holds Tryd.pinned (.plain (OpenSpec.ofChange fnCancelAtMoreSpec)) fnCancelAtMoreCard

/-- THE TIED CARD OF 'laws.FnRunningAtEnd'. -/
def fnRunningAtEndCard : Claim7 := { stood := { row := fnRunningAtEndRow, standIns := [], harness := (true, "b07896bb202bbb0084b3030ff5b5889b57188de27dd4adf06abfc8749fc71ea2"), looks := false }, kinds := [], alts := [], laidByText := true, laidKinds := [.data], laidTests := true, laidLooks := .later }
def FnRunningAtEndCardSaid : Prop := Claim7.holds Tryd.pinned (.plain (OpenSpec.ofChange fnRunningAtEndSpec)) fnRunningAtEndCard

/-- THE SECOND FORM's CARD OF 'laws.FnValidStarts'. -/
def fnValidStartsUptoCard : Claim7 := { stood := { row := fnValidStartsUptoRow, standIns := [], harness := (true, "b07896bb202bbb0084b3030ff5b5889b57188de27dd4adf06abfc8749fc71ea2"), looks := false }, kinds := [], alts := [], laidByText := true, laidKinds := [.data], laidTests := true, laidLooks := .later }
def FnValidStartsUptoCardSaid : Prop := Claim7.holds Tryd.pinned (.plain (OpenSpec.upto fnValidStartsSpec)) fnValidStartsUptoCard

/-- THE SECOND FORM's CARD OF 'laws.FnValidStartsMore'. -/
def fnValidStartsMoreUptoCard : Claim7 := { stood := { row := fnValidStartsMoreUptoRow, standIns := [], harness := (true, "b07896bb202bbb0084b3030ff5b5889b57188de27dd4adf06abfc8749fc71ea2"), looks := false }, kinds := [], alts := [], laidByText := true, laidKinds := [.data], laidTests := true, laidLooks := .later }
def FnValidStartsMoreUptoCardSaid : Prop := Claim7.holds Tryd.pinned (.plain (OpenSpec.upto fnValidStartsMoreSpec)) fnValidStartsMoreUptoCard

/-- THE SECOND FORM's CARD OF 'laws.FnValidStartsRow'. -/
def fnValidStartsRowUptoCard : Claim7 := { stood := { row := fnValidStartsRowUptoRow, standIns := [], harness := (true, "b07896bb202bbb0084b3030ff5b5889b57188de27dd4adf06abfc8749fc71ea2"), looks := false }, kinds := [], alts := [], laidByText := true, laidKinds := [.data], laidTests := true, laidLooks := .later }
def FnValidStartsRowUptoCardSaid : Prop := Claim7.holds Tryd.pinned (.plain (OpenSpec.upto fnValidStartsRowSpec)) fnValidStartsRowUptoCard

/-- THE SECOND FORM's CARD OF 'laws.FnValidStartsHead'. -/
def fnValidStartsHeadUptoCard : Claim7 := { stood := { row := fnValidStartsHeadUptoRow, standIns := [], harness := (true, "b07896bb202bbb0084b3030ff5b5889b57188de27dd4adf06abfc8749fc71ea2"), looks := false }, kinds := [], alts := [], laidByText := true, laidKinds := [.data], laidTests := true, laidLooks := .later }
def FnValidStartsHeadUptoCardSaid : Prop := Claim7.holds Tryd.pinned (.plain (OpenSpec.upto fnValidStartsHeadSpec)) fnValidStartsHeadUptoCard

/-- THE SECOND FORM's CARD OF 'laws.FnEndTime'. -/
def fnEndTimeUptoCard : Claim7 := { stood := { row := fnEndTimeUptoRow, standIns := [], harness := (true, "b07896bb202bbb0084b3030ff5b5889b57188de27dd4adf06abfc8749fc71ea2"), looks := false }, kinds := [], alts := [], laidByText := true, laidKinds := [.data], laidTests := true, laidLooks := .later }
def FnEndTimeUptoCardSaid : Prop := Claim7.holds Tryd.pinned (.plain (OpenSpec.upto fnEndTimeSpec)) fnEndTimeUptoCard

/-- THE SECOND FORM's CARD OF 'laws.FnEndTimeLater'. -/
def fnEndTimeLaterUptoCard : Claim7 := { stood := { row := fnEndTimeLaterUptoRow, standIns := [], harness := (true, "b07896bb202bbb0084b3030ff5b5889b57188de27dd4adf06abfc8749fc71ea2"), looks := false }, kinds := [], alts := [], laidByText := true, laidKinds := [.data], laidTests := true, laidLooks := .later }
def FnEndTimeLaterUptoCardSaid : Prop := Claim7.holds Tryd.pinned (.plain (OpenSpec.upto fnEndTimeLaterSpec)) fnEndTimeLaterUptoCard

/-- THE SECOND FORM's CARD OF 'laws.FnMeetsDeadlineNever'. -/
def fnMeetsDeadlineNeverUptoCard : Claim7 := { stood := { row := fnMeetsDeadlineNeverUptoRow, standIns := [], harness := (true, "b07896bb202bbb0084b3030ff5b5889b57188de27dd4adf06abfc8749fc71ea2"), looks := false }, kinds := [], alts := [], laidByText := true, laidKinds := [.data], laidTests := true, laidLooks := .later }
def FnMeetsDeadlineNeverUptoCardSaid : Prop := Claim7.holds Tryd.pinned (.plain (OpenSpec.upto fnMeetsDeadlineNeverSpec)) fnMeetsDeadlineNeverUptoCard

/-- THE SECOND FORM's CARD OF 'laws.FnMeetsDeadline'. -/
def fnMeetsDeadlineUptoCard : Claim7 := { stood := { row := fnMeetsDeadlineUptoRow, standIns := [], harness := (true, "b07896bb202bbb0084b3030ff5b5889b57188de27dd4adf06abfc8749fc71ea2"), looks := false }, kinds := [], alts := [], laidByText := true, laidKinds := [.data], laidTests := true, laidLooks := .later }
def FnMeetsDeadlineUptoCardSaid : Prop := Claim7.holds Tryd.pinned (.plain (OpenSpec.upto fnMeetsDeadlineSpec)) fnMeetsDeadlineUptoCard

/-- THE SECOND FORM's CARD OF 'laws.FnLogOfTimes'. -/
def fnLogOfTimesUptoCard : Claim7 := { stood := { row := fnLogOfTimesUptoRow, standIns := [], harness := (true, "b07896bb202bbb0084b3030ff5b5889b57188de27dd4adf06abfc8749fc71ea2"), looks := false }, kinds := [], alts := [], laidByText := true, laidKinds := [.data], laidTests := true, laidLooks := .later }
def FnLogOfTimesUptoCardSaid : Prop := Claim7.holds Tryd.pinned (.plain (OpenSpec.upto fnLogOfTimesSpec)) fnLogOfTimesUptoCard

/-- THE SECOND FORM's CARD OF 'laws.FnCancelAt'. -/
def fnCancelAtUptoCard : Claim7 := { stood := { row := fnCancelAtUptoRow, standIns := [], harness := (true, "b07896bb202bbb0084b3030ff5b5889b57188de27dd4adf06abfc8749fc71ea2"), looks := false }, kinds := [], alts := [], laidByText := true, laidKinds := [.data], laidTests := true, laidLooks := .later }
def FnCancelAtUptoCardSaid : Prop := Claim7.holds Tryd.pinned (.plain (OpenSpec.upto fnCancelAtSpec)) fnCancelAtUptoCard

/-- THE SECOND FORM's CARD OF 'laws.FnCancelAtMore'. -/
def fnCancelAtMoreUptoCard : Claim7 := { stood := { row := fnCancelAtMoreUptoRow, standIns := [], harness := (true, "b07896bb202bbb0084b3030ff5b5889b57188de27dd4adf06abfc8749fc71ea2"), looks := false }, kinds := [], alts := [], laidByText := true, laidKinds := [.data], laidTests := true, laidLooks := .later }
def FnCancelAtMoreUptoCardSaid : Prop := Claim7.holds Tryd.pinned (.plain (OpenSpec.upto fnCancelAtMoreSpec)) fnCancelAtMoreUptoCard

/-- THE SECOND FORM's CARD OF 'laws.FnRunningAtEnd'. -/
def fnRunningAtEndUptoCard : Claim7 := { stood := { row := fnRunningAtEndUptoRow, standIns := [], harness := (true, "b07896bb202bbb0084b3030ff5b5889b57188de27dd4adf06abfc8749fc71ea2"), looks := false }, kinds := [], alts := [], laidByText := true, laidKinds := [.data], laidTests := true, laidLooks := .later }
def FnRunningAtEndUptoCardSaid : Prop := Claim7.holds Tryd.pinned (.plain (OpenSpec.upto fnRunningAtEndSpec)) fnRunningAtEndUptoCard
end Rows
end Go.Proofs.YtaoeopeempmnnaaDoor

/-
  DERIVED. GIVEN WITH THE SEED: THE CARDS: each row of YtfmjlhlmfkgpeaaDoorRows.lean that lists a variable, with what it lists TIED to the program's text (the seventh form; the later family's looks); each row that meets fmt, with fmt's text TOLD by the authors' own Lean function (tested against real Go, not proved from fmt's source: count such statements apart). THE CARD IS WHAT COUNTS. Prove the row's statement (the work); the ties are given (YtfmjlhlmfkgpeaaDoorTie.lean); close each card by the builder's one call (the guide's Derived/Test/ToyasCard.lean, 'card_holds'). Laid BY PROGRAM, IN A SANDBOX (cutbox-door.mjs). By AI agents, Wed Nov 11 2026. No macro, syntax, notation, axiom, sorry.
-/
import Derived.Test.YtfmjlhlmfkgpeaaDoorRows
import GoSem.ClaimSeven
namespace Go.Proofs.YtfmjlhlmfkgpeaaDoor
namespace Rows

/-- THE TIED CARD OF 'laws.FnExactValidStarts'. -/
def fnExactValidStartsCard : Claim7 := { stood := { row := fnExactValidStartsRow, standIns := [], harness := (true, "7e84e1b4590f134cbd2b8ff9ad40b5a60cba175ccaff185dc8795f2000f2f807"), looks := false }, kinds := [], alts := [], laidByText := true, laidKinds := [.data], laidTests := true, laidLooks := .later }
def FnExactValidStartsCardSaid : Prop := Claim7.holds Tryd.pinned (.plain (OpenSpec.ofChange fnExactValidStartsSpec)) fnExactValidStartsCard

/-- THE TIED CARD OF 'laws.FnExactMeetsDeadline'. -/
def fnExactMeetsDeadlineCard : Claim7 := { stood := { row := fnExactMeetsDeadlineRow, standIns := [], harness := (true, "7e84e1b4590f134cbd2b8ff9ad40b5a60cba175ccaff185dc8795f2000f2f807"), looks := false }, kinds := [], alts := [], laidByText := true, laidKinds := [.data], laidTests := true, laidLooks := .later }
def FnExactMeetsDeadlineCardSaid : Prop := Claim7.holds Tryd.pinned (.plain (OpenSpec.ofChange fnExactMeetsDeadlineSpec)) fnExactMeetsDeadlineCard

/-- THE TIED CARD OF 'laws.FnExactEndTime'. -/
def fnExactEndTimeCard : Claim7 := { stood := { row := fnExactEndTimeRow, standIns := [], harness := (true, "7e84e1b4590f134cbd2b8ff9ad40b5a60cba175ccaff185dc8795f2000f2f807"), looks := false }, kinds := [], alts := [], laidByText := true, laidKinds := [.data], laidTests := true, laidLooks := .later }
def FnExactEndTimeCardSaid : Prop := Claim7.holds Tryd.pinned (.plain (OpenSpec.ofChange fnExactEndTimeSpec)) fnExactEndTimeCard

/-- THE TIED CARD OF 'laws.FnExactRunningAt'. -/
def fnExactRunningAtCard : Claim7 := { stood := { row := fnExactRunningAtRow, standIns := [], harness := (true, "7e84e1b4590f134cbd2b8ff9ad40b5a60cba175ccaff185dc8795f2000f2f807"), looks := false }, kinds := [], alts := [], laidByText := true, laidKinds := [.data], laidTests := true, laidLooks := .later }
def FnExactRunningAtCardSaid : Prop := Claim7.holds Tryd.pinned (.plain (OpenSpec.ofChange fnExactRunningAtSpec)) fnExactRunningAtCard

/-- THE TIED CARD OF 'laws.FnExactCancelAt'. -/
def fnExactCancelAtCard : Claim7 := { stood := { row := fnExactCancelAtRow, standIns := [], harness := (true, "7e84e1b4590f134cbd2b8ff9ad40b5a60cba175ccaff185dc8795f2000f2f807"), looks := false }, kinds := [], alts := [], laidByText := true, laidKinds := [.data], laidTests := true, laidLooks := .later }
def FnExactCancelAtCardSaid : Prop := Claim7.holds Tryd.pinned (.plain (OpenSpec.ofChange fnExactCancelAtSpec)) fnExactCancelAtCard

/-- THE TIED CARD OF 'laws.FnExactLogOf'. -/
def fnExactLogOfCard : Claim7 := { stood := { row := fnExactLogOfRow, standIns := [], harness := (true, "7e84e1b4590f134cbd2b8ff9ad40b5a60cba175ccaff185dc8795f2000f2f807"), looks := false }, kinds := [], alts := [], laidByText := true, laidKinds := [.data], laidTests := true, laidLooks := .later }
def FnExactLogOfCardSaid : Prop := Claim7.holds Tryd.pinned (.plain (OpenSpec.ofChange fnExactLogOfSpec)) fnExactLogOfCard

/-- THE TIED CARD OF 'laws.FnExactLateTasks'. -/
def fnExactLateTasksCard : Claim7 := { stood := { row := fnExactLateTasksRow, standIns := [], harness := (true, "7e84e1b4590f134cbd2b8ff9ad40b5a60cba175ccaff185dc8795f2000f2f807"), looks := false }, kinds := [], alts := [], laidByText := true, laidKinds := [.data], laidTests := true, laidLooks := .later }
def FnExactLateTasksCardSaid : Prop := Claim7.holds Tryd.pinned (.plain (OpenSpec.ofChange fnExactLateTasksSpec)) fnExactLateTasksCard

/-- THE SECOND FORM's CARD OF 'laws.FnExactValidStarts'. -/
def fnExactValidStartsUptoCard : Claim7 := { stood := { row := fnExactValidStartsUptoRow, standIns := [], harness := (true, "7e84e1b4590f134cbd2b8ff9ad40b5a60cba175ccaff185dc8795f2000f2f807"), looks := false }, kinds := [], alts := [], laidByText := true, laidKinds := [.data], laidTests := true, laidLooks := .later }
def FnExactValidStartsUptoCardSaid : Prop := Claim7.holds Tryd.pinned (.plain (OpenSpec.upto fnExactValidStartsSpec)) fnExactValidStartsUptoCard

/-- THE SECOND FORM's CARD OF 'laws.FnExactMeetsDeadline'. -/
def fnExactMeetsDeadlineUptoCard : Claim7 := { stood := { row := fnExactMeetsDeadlineUptoRow, standIns := [], harness := (true, "7e84e1b4590f134cbd2b8ff9ad40b5a60cba175ccaff185dc8795f2000f2f807"), looks := false }, kinds := [], alts := [], laidByText := true, laidKinds := [.data], laidTests := true, laidLooks := .later }
def FnExactMeetsDeadlineUptoCardSaid : Prop := Claim7.holds Tryd.pinned (.plain (OpenSpec.upto fnExactMeetsDeadlineSpec)) fnExactMeetsDeadlineUptoCard

/-- THE SECOND FORM's CARD OF 'laws.FnExactEndTime'. -/
def fnExactEndTimeUptoCard : Claim7 := { stood := { row := fnExactEndTimeUptoRow, standIns := [], harness := (true, "7e84e1b4590f134cbd2b8ff9ad40b5a60cba175ccaff185dc8795f2000f2f807"), looks := false }, kinds := [], alts := [], laidByText := true, laidKinds := [.data], laidTests := true, laidLooks := .later }
def FnExactEndTimeUptoCardSaid : Prop := Claim7.holds Tryd.pinned (.plain (OpenSpec.upto fnExactEndTimeSpec)) fnExactEndTimeUptoCard

/-- THE SECOND FORM's CARD OF 'laws.FnExactRunningAt'. -/
def fnExactRunningAtUptoCard : Claim7 := { stood := { row := fnExactRunningAtUptoRow, standIns := [], harness := (true, "7e84e1b4590f134cbd2b8ff9ad40b5a60cba175ccaff185dc8795f2000f2f807"), looks := false }, kinds := [], alts := [], laidByText := true, laidKinds := [.data], laidTests := true, laidLooks := .later }
def FnExactRunningAtUptoCardSaid : Prop := Claim7.holds Tryd.pinned (.plain (OpenSpec.upto fnExactRunningAtSpec)) fnExactRunningAtUptoCard

/-- THE SECOND FORM's CARD OF 'laws.FnExactCancelAt'. -/
def fnExactCancelAtUptoCard : Claim7 := { stood := { row := fnExactCancelAtUptoRow, standIns := [], harness := (true, "7e84e1b4590f134cbd2b8ff9ad40b5a60cba175ccaff185dc8795f2000f2f807"), looks := false }, kinds := [], alts := [], laidByText := true, laidKinds := [.data], laidTests := true, laidLooks := .later }
def FnExactCancelAtUptoCardSaid : Prop := Claim7.holds Tryd.pinned (.plain (OpenSpec.upto fnExactCancelAtSpec)) fnExactCancelAtUptoCard

/-- THE SECOND FORM's CARD OF 'laws.FnExactLogOf'. -/
def fnExactLogOfUptoCard : Claim7 := { stood := { row := fnExactLogOfUptoRow, standIns := [], harness := (true, "7e84e1b4590f134cbd2b8ff9ad40b5a60cba175ccaff185dc8795f2000f2f807"), looks := false }, kinds := [], alts := [], laidByText := true, laidKinds := [.data], laidTests := true, laidLooks := .later }
def FnExactLogOfUptoCardSaid : Prop := Claim7.holds Tryd.pinned (.plain (OpenSpec.upto fnExactLogOfSpec)) fnExactLogOfUptoCard

/-- THE SECOND FORM's CARD OF 'laws.FnExactLateTasks'. -/
def fnExactLateTasksUptoCard : Claim7 := { stood := { row := fnExactLateTasksUptoRow, standIns := [], harness := (true, "7e84e1b4590f134cbd2b8ff9ad40b5a60cba175ccaff185dc8795f2000f2f807"), looks := false }, kinds := [], alts := [], laidByText := true, laidKinds := [.data], laidTests := true, laidLooks := .later }
def FnExactLateTasksUptoCardSaid : Prop := Claim7.holds Tryd.pinned (.plain (OpenSpec.upto fnExactLateTasksSpec)) fnExactLateTasksUptoCard
end Rows
end Go.Proofs.YtfmjlhlmfkgpeaaDoor

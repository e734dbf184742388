/-
  NARROWER THAN 'FOR EVERY INPUT', by the rows' own cells (each row's printed sentence says how): FnExactValidStarts: laid · FnExactMeetsDeadline: laid · FnExactEndTime: laid · FnExactRunningAt: laid · FnExactCancelAt: laid · FnExactLogOf: laid · FnExactLateTasks: laid.
  DERIVED. THE GIVEN ROWS OF THIS SEAT. 7 by the template 'for every input the law returns true; each argument reads behind the call as it read before'; 0 by the template 'total and deterministic' (their statements: YtfmjlhlmfkgpeaaDoorTotals.lean).
  GIVEN WITH THE SEED: the statements are not yours to turn. If you find one false, say at which input.
  Laid BY PROGRAM, IN A SANDBOX (cutbox-rows.mjs): the forced cells as the released guide's own fill.sh prints them over the translation 812ed869870bfa3e… (all of the seat's roots in one cut). By AI agents, Wed Nov 11 2026. No macro, syntax, notation, axiom, sorry.
-/
import Derived.Test.YtfmjlhlmfkgpeaaDoorChecked
import GoSem.Claim
import GoSem.ClaimJoined
import GoSem.ClaimMapViews
import Derived.JoinedTies
import Derived.KernelRfl
namespace Go.Proofs.YtfmjlhlmfkgpeaaDoor
/- THE CELL 'sum', in the pinned program and in every row, IS THE sha256 OF THE DUMP (.gsa) THAT YtfmjlhlmfkgpeaaDoorProg.lean LOADS. Nothing in Lean hashes anything: it is a label: what it is worth is what the hold of that sum in a sandbox is worth. -/
noncomputable def Tryd.pinned : Pinned := { name := "ytfmjlhlmfkgpeaadoor", sum := "812ed869870bfa3e19d3939993bf9c09860e72931557006c90502a59b8b9bb9a", checked := Tryd.checked }
namespace Rows
def none {H : Type} : Left H := { results := [], args := [] }

/- WHAT THE LISTED PACKAGE-LEVEL VARIABLES READ AS WHEN THE CALL BEGINS. Each datum BY PROGRAM (the guide's laid-datum.mjs) off the statement by which the dump's own 'gosem.cut.vars' lays the variable. In a bare row this is a premise. The card (YtfmjlhlmfkgpeaaDoorCards.lean) ties it to the program's text. -/
def laid_math_bits_deBruijn32tab {H : Type} : DataW H := .agg [.lit (.int .u8 0), .lit (.int .u8 1), .lit (.int .u8 28), .lit (.int .u8 2), .lit (.int .u8 29), .lit (.int .u8 14), .lit (.int .u8 24), .lit (.int .u8 3), .lit (.int .u8 30), .lit (.int .u8 22), .lit (.int .u8 20), .lit (.int .u8 15), .lit (.int .u8 25), .lit (.int .u8 17), .lit (.int .u8 4), .lit (.int .u8 8), .lit (.int .u8 31), .lit (.int .u8 27), .lit (.int .u8 13), .lit (.int .u8 23), .lit (.int .u8 21), .lit (.int .u8 19), .lit (.int .u8 16), .lit (.int .u8 7), .lit (.int .u8 26), .lit (.int .u8 12), .lit (.int .u8 18), .lit (.int .u8 6), .lit (.int .u8 11), .lit (.int .u8 5), .lit (.int .u8 10), .lit (.int .u8 9)]

/-- 'laws.FnExactValidStarts': WHATEVER THE INPUT: true; the input reads as it did. -/
def fnExactValidStartsSpec : ChangeSpec := { name := "fnExactValidStarts", fn := fun _ => fun
  | [d1, d2, d3, d4] => { results := [.lit (.bool true)], args := [d1, d2, d3, d4] }
  | _ => none }
def fnExactValidStartsRow : OpenClaim := { program := "ytfmjlhlmfkgpeaadoor", sum := "812ed869870bfa3e19d3939993bf9c09860e72931557006c90502a59b8b9bb9a", func := "loop.example/buildscheduler/laws.FnExactValidStarts", spec := "fnExactValidStarts", unfollowed := true, recurses := true, named := ["math/bits.deBruijn32tab"], apart := false, laid := [("math/bits.deBruijn32tab", laid_math_bits_deBruijn32tab)] }
def FnExactValidStartsSaid : Prop := fnExactValidStartsRow.holds Tryd.pinned (OpenSpec.ofChange fnExactValidStartsSpec)

/-- ITS FALSE NEIGHBOUR: 'it returns false'. Refute it at one input. -/
def fnExactValidStartsWrong : ChangeSpec := { name := "fnExactValidStarts", fn := fun _ => fun
  | [d1, d2, d3, d4] => { results := [.lit (.bool false)], args := [d1, d2, d3, d4] }
  | _ => none }
def FnExactValidStartsWrongFalsely : Prop := fnExactValidStartsRow.holds Tryd.pinned (OpenSpec.ofChange fnExactValidStartsWrong)

/-- 'laws.FnExactMeetsDeadline': WHATEVER THE INPUT: true; the input reads as it did. -/
def fnExactMeetsDeadlineSpec : ChangeSpec := { name := "fnExactMeetsDeadline", fn := fun _ => fun
  | [d1, d2, d3, d4, d5] => { results := [.lit (.bool true)], args := [d1, d2, d3, d4, d5] }
  | _ => none }
def fnExactMeetsDeadlineRow : OpenClaim := { program := "ytfmjlhlmfkgpeaadoor", sum := "812ed869870bfa3e19d3939993bf9c09860e72931557006c90502a59b8b9bb9a", func := "loop.example/buildscheduler/laws.FnExactMeetsDeadline", spec := "fnExactMeetsDeadline", unfollowed := true, recurses := true, named := ["math/bits.deBruijn32tab"], apart := false, laid := [("math/bits.deBruijn32tab", laid_math_bits_deBruijn32tab)] }
def FnExactMeetsDeadlineSaid : Prop := fnExactMeetsDeadlineRow.holds Tryd.pinned (OpenSpec.ofChange fnExactMeetsDeadlineSpec)

/-- ITS FALSE NEIGHBOUR: 'it returns false'. Refute it at one input. -/
def fnExactMeetsDeadlineWrong : ChangeSpec := { name := "fnExactMeetsDeadline", fn := fun _ => fun
  | [d1, d2, d3, d4, d5] => { results := [.lit (.bool false)], args := [d1, d2, d3, d4, d5] }
  | _ => none }
def FnExactMeetsDeadlineWrongFalsely : Prop := fnExactMeetsDeadlineRow.holds Tryd.pinned (OpenSpec.ofChange fnExactMeetsDeadlineWrong)

/-- 'laws.FnExactEndTime': WHATEVER THE INPUT: true; the input reads as it did. -/
def fnExactEndTimeSpec : ChangeSpec := { name := "fnExactEndTime", fn := fun _ => fun
  | [d1, d2, d3, d4] => { results := [.lit (.bool true)], args := [d1, d2, d3, d4] }
  | _ => none }
def fnExactEndTimeRow : OpenClaim := { program := "ytfmjlhlmfkgpeaadoor", sum := "812ed869870bfa3e19d3939993bf9c09860e72931557006c90502a59b8b9bb9a", func := "loop.example/buildscheduler/laws.FnExactEndTime", spec := "fnExactEndTime", unfollowed := true, recurses := true, named := ["math/bits.deBruijn32tab"], apart := false, laid := [("math/bits.deBruijn32tab", laid_math_bits_deBruijn32tab)] }
def FnExactEndTimeSaid : Prop := fnExactEndTimeRow.holds Tryd.pinned (OpenSpec.ofChange fnExactEndTimeSpec)

/-- ITS FALSE NEIGHBOUR: 'it returns false'. Refute it at one input. -/
def fnExactEndTimeWrong : ChangeSpec := { name := "fnExactEndTime", fn := fun _ => fun
  | [d1, d2, d3, d4] => { results := [.lit (.bool false)], args := [d1, d2, d3, d4] }
  | _ => none }
def FnExactEndTimeWrongFalsely : Prop := fnExactEndTimeRow.holds Tryd.pinned (OpenSpec.ofChange fnExactEndTimeWrong)

/-- 'laws.FnExactRunningAt': WHATEVER THE INPUT: true; the input reads as it did. -/
def fnExactRunningAtSpec : ChangeSpec := { name := "fnExactRunningAt", fn := fun _ => fun
  | [d1, d2, d3, d4, d5] => { results := [.lit (.bool true)], args := [d1, d2, d3, d4, d5] }
  | _ => none }
def fnExactRunningAtRow : OpenClaim := { program := "ytfmjlhlmfkgpeaadoor", sum := "812ed869870bfa3e19d3939993bf9c09860e72931557006c90502a59b8b9bb9a", func := "loop.example/buildscheduler/laws.FnExactRunningAt", spec := "fnExactRunningAt", unfollowed := true, recurses := true, named := ["math/bits.deBruijn32tab"], apart := false, laid := [("math/bits.deBruijn32tab", laid_math_bits_deBruijn32tab)] }
def FnExactRunningAtSaid : Prop := fnExactRunningAtRow.holds Tryd.pinned (OpenSpec.ofChange fnExactRunningAtSpec)

/-- ITS FALSE NEIGHBOUR: 'it returns false'. Refute it at one input. -/
def fnExactRunningAtWrong : ChangeSpec := { name := "fnExactRunningAt", fn := fun _ => fun
  | [d1, d2, d3, d4, d5] => { results := [.lit (.bool false)], args := [d1, d2, d3, d4, d5] }
  | _ => none }
def FnExactRunningAtWrongFalsely : Prop := fnExactRunningAtRow.holds Tryd.pinned (OpenSpec.ofChange fnExactRunningAtWrong)

/-- 'laws.FnExactCancelAt': WHATEVER THE INPUT: true; the input reads as it did. -/
def fnExactCancelAtSpec : ChangeSpec := { name := "fnExactCancelAt", fn := fun _ => fun
  | [d1, d2, d3, d4, d5] => { results := [.lit (.bool true)], args := [d1, d2, d3, d4, d5] }
  | _ => none }
def fnExactCancelAtRow : OpenClaim := { program := "ytfmjlhlmfkgpeaadoor", sum := "812ed869870bfa3e19d3939993bf9c09860e72931557006c90502a59b8b9bb9a", func := "loop.example/buildscheduler/laws.FnExactCancelAt", spec := "fnExactCancelAt", unfollowed := true, recurses := true, named := ["math/bits.deBruijn32tab"], apart := false, laid := [("math/bits.deBruijn32tab", laid_math_bits_deBruijn32tab)] }
def FnExactCancelAtSaid : Prop := fnExactCancelAtRow.holds Tryd.pinned (OpenSpec.ofChange fnExactCancelAtSpec)

/-- ITS FALSE NEIGHBOUR: 'it returns false'. Refute it at one input. -/
def fnExactCancelAtWrong : ChangeSpec := { name := "fnExactCancelAt", fn := fun _ => fun
  | [d1, d2, d3, d4, d5] => { results := [.lit (.bool false)], args := [d1, d2, d3, d4, d5] }
  | _ => none }
def FnExactCancelAtWrongFalsely : Prop := fnExactCancelAtRow.holds Tryd.pinned (OpenSpec.ofChange fnExactCancelAtWrong)

/-- 'laws.FnExactLogOf': WHATEVER THE INPUT: true; the input reads as it did. -/
def fnExactLogOfSpec : ChangeSpec := { name := "fnExactLogOf", fn := fun _ => fun
  | [d1, d2, d3, d4] => { results := [.lit (.bool true)], args := [d1, d2, d3, d4] }
  | _ => none }
def fnExactLogOfRow : OpenClaim := { program := "ytfmjlhlmfkgpeaadoor", sum := "812ed869870bfa3e19d3939993bf9c09860e72931557006c90502a59b8b9bb9a", func := "loop.example/buildscheduler/laws.FnExactLogOf", spec := "fnExactLogOf", unfollowed := true, recurses := true, named := ["math/bits.deBruijn32tab"], apart := false, laid := [("math/bits.deBruijn32tab", laid_math_bits_deBruijn32tab)] }
def FnExactLogOfSaid : Prop := fnExactLogOfRow.holds Tryd.pinned (OpenSpec.ofChange fnExactLogOfSpec)

/-- ITS FALSE NEIGHBOUR: 'it returns false'. Refute it at one input. -/
def fnExactLogOfWrong : ChangeSpec := { name := "fnExactLogOf", fn := fun _ => fun
  | [d1, d2, d3, d4] => { results := [.lit (.bool false)], args := [d1, d2, d3, d4] }
  | _ => none }
def FnExactLogOfWrongFalsely : Prop := fnExactLogOfRow.holds Tryd.pinned (OpenSpec.ofChange fnExactLogOfWrong)

/-- 'laws.FnExactLateTasks': WHATEVER THE INPUT: true; the input reads as it did. -/
def fnExactLateTasksSpec : ChangeSpec := { name := "fnExactLateTasks", fn := fun _ => fun
  | [d1, d2, d3, d4, d5] => { results := [.lit (.bool true)], args := [d1, d2, d3, d4, d5] }
  | _ => none }
def fnExactLateTasksRow : OpenClaim := { program := "ytfmjlhlmfkgpeaadoor", sum := "812ed869870bfa3e19d3939993bf9c09860e72931557006c90502a59b8b9bb9a", func := "loop.example/buildscheduler/laws.FnExactLateTasks", spec := "fnExactLateTasks", unfollowed := true, recurses := true, named := ["math/bits.deBruijn32tab"], apart := false, laid := [("math/bits.deBruijn32tab", laid_math_bits_deBruijn32tab)] }
def FnExactLateTasksSaid : Prop := fnExactLateTasksRow.holds Tryd.pinned (OpenSpec.ofChange fnExactLateTasksSpec)

/-- ITS FALSE NEIGHBOUR: 'it returns false'. Refute it at one input. -/
def fnExactLateTasksWrong : ChangeSpec := { name := "fnExactLateTasks", fn := fun _ => fun
  | [d1, d2, d3, d4, d5] => { results := [.lit (.bool false)], args := [d1, d2, d3, d4, d5] }
  | _ => none }
def FnExactLateTasksWrongFalsely : Prop := fnExactLateTasksRow.holds Tryd.pinned (OpenSpec.ofChange fnExactLateTasksWrong)

/- THE SECOND FORM. 'bulk': how many values and letters a reading holds, each counted each time it is reached (what is shared counts as often as it is met; a slice's spare places count too). A statement '..UptoSaid' is the law's where the arguments, and the package variables that the reading takes, are together of bulk at most 1048576: NARROWER than '..Said'. Prove '..Said' where nothing that the law and all that it calls make is longer than what came in: it says more and counts as full. Else prove '..UptoSaid'. A law counts once. -/
mutual
def uptoBulk {H : Type} : DataW H → Nat
  | .lit (.string bytes) => bytes.length + 1
  | .lit _ => 1
  | .nil => 1
  | .ptr d => uptoBulk d + 1
  | .slice elems spare => uptoBulkAll elems + uptoBulkAll spare + 1
  | .agg parts => uptoBulkAll parts + 1
  | .iface _ d => uptoBulk d + 1
  | .map entries => uptoBulkEntries entries + 1
  | .held _ => 1
def uptoBulkAll {H : Type} : List (DataW H) → Nat
  | [] => 0
  | d :: r => uptoBulk d + uptoBulkAll r
def uptoBulkEntries {H : Type} : List (Lit × DataW H) → Nat
  | [] => 0
  | x :: r => uptoBulkEntry x + uptoBulkEntries r
def uptoBulkEntry {H : Type} : Lit × DataW H → Nat
  | (.string bytes, d) => bytes.length + uptoBulk d + 1
  | (_, d) => uptoBulk d + 1
 end
def uptoSmall : (H : Type) → List (DataW H) → Bool := fun _ ds => decide (uptoBulkAll ds ≤ 1048576)
def OpenSpec.upto (s : _root_.Go.ChangeSpec) : _root_.Go.OpenSpec := { _root_.Go.OpenSpec.ofChange s with cond := some uptoSmall }

/-- 'laws.FnExactValidStarts', WHERE WHAT IT READS IS OF BULK AT MOST 1048576: true; the input reads as it did. -/
def fnExactValidStartsUptoRow : OpenClaim := { program := "ytfmjlhlmfkgpeaadoor", sum := "812ed869870bfa3e19d3939993bf9c09860e72931557006c90502a59b8b9bb9a", func := "loop.example/buildscheduler/laws.FnExactValidStarts", spec := "fnExactValidStarts", unfollowed := true, recurses := true, named := ["math/bits.deBruijn32tab"], apart := false, laid := [("math/bits.deBruijn32tab", laid_math_bits_deBruijn32tab)], narrowed := true }
def FnExactValidStartsUptoSaid : Prop := fnExactValidStartsUptoRow.holds Tryd.pinned (OpenSpec.upto fnExactValidStartsSpec)

/-- 'laws.FnExactMeetsDeadline', WHERE WHAT IT READS IS OF BULK AT MOST 1048576: true; the input reads as it did. -/
def fnExactMeetsDeadlineUptoRow : OpenClaim := { program := "ytfmjlhlmfkgpeaadoor", sum := "812ed869870bfa3e19d3939993bf9c09860e72931557006c90502a59b8b9bb9a", func := "loop.example/buildscheduler/laws.FnExactMeetsDeadline", spec := "fnExactMeetsDeadline", unfollowed := true, recurses := true, named := ["math/bits.deBruijn32tab"], apart := false, laid := [("math/bits.deBruijn32tab", laid_math_bits_deBruijn32tab)], narrowed := true }
def FnExactMeetsDeadlineUptoSaid : Prop := fnExactMeetsDeadlineUptoRow.holds Tryd.pinned (OpenSpec.upto fnExactMeetsDeadlineSpec)

/-- 'laws.FnExactEndTime', WHERE WHAT IT READS IS OF BULK AT MOST 1048576: true; the input reads as it did. -/
def fnExactEndTimeUptoRow : OpenClaim := { program := "ytfmjlhlmfkgpeaadoor", sum := "812ed869870bfa3e19d3939993bf9c09860e72931557006c90502a59b8b9bb9a", func := "loop.example/buildscheduler/laws.FnExactEndTime", spec := "fnExactEndTime", unfollowed := true, recurses := true, named := ["math/bits.deBruijn32tab"], apart := false, laid := [("math/bits.deBruijn32tab", laid_math_bits_deBruijn32tab)], narrowed := true }
def FnExactEndTimeUptoSaid : Prop := fnExactEndTimeUptoRow.holds Tryd.pinned (OpenSpec.upto fnExactEndTimeSpec)

/-- 'laws.FnExactRunningAt', WHERE WHAT IT READS IS OF BULK AT MOST 1048576: true; the input reads as it did. -/
def fnExactRunningAtUptoRow : OpenClaim := { program := "ytfmjlhlmfkgpeaadoor", sum := "812ed869870bfa3e19d3939993bf9c09860e72931557006c90502a59b8b9bb9a", func := "loop.example/buildscheduler/laws.FnExactRunningAt", spec := "fnExactRunningAt", unfollowed := true, recurses := true, named := ["math/bits.deBruijn32tab"], apart := false, laid := [("math/bits.deBruijn32tab", laid_math_bits_deBruijn32tab)], narrowed := true }
def FnExactRunningAtUptoSaid : Prop := fnExactRunningAtUptoRow.holds Tryd.pinned (OpenSpec.upto fnExactRunningAtSpec)

/-- 'laws.FnExactCancelAt', WHERE WHAT IT READS IS OF BULK AT MOST 1048576: true; the input reads as it did. -/
def fnExactCancelAtUptoRow : OpenClaim := { program := "ytfmjlhlmfkgpeaadoor", sum := "812ed869870bfa3e19d3939993bf9c09860e72931557006c90502a59b8b9bb9a", func := "loop.example/buildscheduler/laws.FnExactCancelAt", spec := "fnExactCancelAt", unfollowed := true, recurses := true, named := ["math/bits.deBruijn32tab"], apart := false, laid := [("math/bits.deBruijn32tab", laid_math_bits_deBruijn32tab)], narrowed := true }
def FnExactCancelAtUptoSaid : Prop := fnExactCancelAtUptoRow.holds Tryd.pinned (OpenSpec.upto fnExactCancelAtSpec)

/-- 'laws.FnExactLogOf', WHERE WHAT IT READS IS OF BULK AT MOST 1048576: true; the input reads as it did. -/
def fnExactLogOfUptoRow : OpenClaim := { program := "ytfmjlhlmfkgpeaadoor", sum := "812ed869870bfa3e19d3939993bf9c09860e72931557006c90502a59b8b9bb9a", func := "loop.example/buildscheduler/laws.FnExactLogOf", spec := "fnExactLogOf", unfollowed := true, recurses := true, named := ["math/bits.deBruijn32tab"], apart := false, laid := [("math/bits.deBruijn32tab", laid_math_bits_deBruijn32tab)], narrowed := true }
def FnExactLogOfUptoSaid : Prop := fnExactLogOfUptoRow.holds Tryd.pinned (OpenSpec.upto fnExactLogOfSpec)

/-- 'laws.FnExactLateTasks', WHERE WHAT IT READS IS OF BULK AT MOST 1048576: true; the input reads as it did. -/
def fnExactLateTasksUptoRow : OpenClaim := { program := "ytfmjlhlmfkgpeaadoor", sum := "812ed869870bfa3e19d3939993bf9c09860e72931557006c90502a59b8b9bb9a", func := "loop.example/buildscheduler/laws.FnExactLateTasks", spec := "fnExactLateTasks", unfollowed := true, recurses := true, named := ["math/bits.deBruijn32tab"], apart := false, laid := [("math/bits.deBruijn32tab", laid_math_bits_deBruijn32tab)], narrowed := true }
def FnExactLateTasksUptoSaid : Prop := fnExactLateTasksUptoRow.holds Tryd.pinned (OpenSpec.upto fnExactLateTasksSpec)

end Rows
end Go.Proofs.YtfmjlhlmfkgpeaaDoor

/-
  No cell of these rows narrows 'for every input' (looked for: loops, veiled, ifaces, maps, wideKeys, modest, calm, conditions, laid).
  DERIVED. THE GIVEN ROWS OF THIS SEAT. 15 by the template 'for every input the law returns true; each argument reads behind the call as it read before'; 0 by the template 'total and deterministic' (their statements: YtdokbocmgdhmmaaTotals.lean).
  GIVEN WITH THE SEED: the statements are not yours to turn. If you find one false, say at which input.
  Laid BY PROGRAM, IN A SANDBOX (cutbox-rows.mjs): the forced cells as the released guide's own fill.sh prints them over the translation e4104e353de681e3… (all of the seat's roots in one cut). By AI agents, Wed Nov 11 2026. No macro, syntax, notation, axiom, sorry.
-/
import Derived.Test.YtdokbocmgdhmmaaChecked
import GoSem.Claim
import GoSem.ClaimJoined
import GoSem.ClaimMapViews
import Derived.JoinedTies
import Derived.KernelRfl
namespace Go.Proofs.Ytdokbocmgdhmmaa
/- THE CELL 'sum', in the pinned program and in every row, IS THE sha256 OF THE DUMP (.gsa) THAT YtdokbocmgdhmmaaProg.lean LOADS. Nothing in Lean hashes anything: it is a label: what it is worth is what the hold of that sum in a sandbox is worth. -/
noncomputable def Try.pinned : Pinned := { name := "ytdokbocmgdhmmaa", sum := "e4104e353de681e381af4b5682ea76ea6d3f39227ffa739e5d1f8d312ccb09fb", checked := Try.checked }
namespace Rows
def none {H : Type} : Left H := { results := [], args := [] }

/-- 'bitepointlaw02.SkillMarks': WHATEVER THE INPUT: true; the input reads as it did. -/
def skillMarksSpec : ChangeSpec := { name := "skillMarks", fn := fun _ => fun
  | [d1, d2] => { results := [.lit (.bool true)], args := [d1, d2] }
  | _ => none }
def skillMarksRow : OpenClaim := { program := "ytdokbocmgdhmmaa", sum := "e4104e353de681e381af4b5682ea76ea6d3f39227ffa739e5d1f8d312ccb09fb", func := "bitepoint/bitepointlaw02.SkillMarks", spec := "skillMarks", unfollowed := true, recurses := true, apart := false }
def SkillMarksSaid : Prop := skillMarksRow.holds Try.pinned (OpenSpec.ofChange skillMarksSpec)

/-- ITS FALSE NEIGHBOUR: 'it returns false'. Refute it at one input. -/
def skillMarksWrong : ChangeSpec := { name := "skillMarks", fn := fun _ => fun
  | [d1, d2] => { results := [.lit (.bool false)], args := [d1, d2] }
  | _ => none }
def SkillMarksWrongFalsely : Prop := skillMarksRow.holds Try.pinned (OpenSpec.ofChange skillMarksWrong)

/-- 'bitepointlaw02.SkillAfters': WHATEVER THE INPUT: true; the input reads as it did. -/
def skillAftersSpec : ChangeSpec := { name := "skillAfters", fn := fun _ => fun
  | [d1, d2] => { results := [.lit (.bool true)], args := [d1, d2] }
  | _ => none }
def skillAftersRow : OpenClaim := { program := "ytdokbocmgdhmmaa", sum := "e4104e353de681e381af4b5682ea76ea6d3f39227ffa739e5d1f8d312ccb09fb", func := "bitepoint/bitepointlaw02.SkillAfters", spec := "skillAfters", unfollowed := true, recurses := true, apart := false }
def SkillAftersSaid : Prop := skillAftersRow.holds Try.pinned (OpenSpec.ofChange skillAftersSpec)

/-- ITS FALSE NEIGHBOUR: 'it returns false'. Refute it at one input. -/
def skillAftersWrong : ChangeSpec := { name := "skillAfters", fn := fun _ => fun
  | [d1, d2] => { results := [.lit (.bool false)], args := [d1, d2] }
  | _ => none }
def SkillAftersWrongFalsely : Prop := skillAftersRow.holds Try.pinned (OpenSpec.ofChange skillAftersWrong)

/-- 'bitepointlaw02.SkillTests': WHATEVER THE INPUT: true; the input reads as it did. -/
def skillTestsSpec : ChangeSpec := { name := "skillTests", fn := fun _ => fun
  | [d1, d2, d3] => { results := [.lit (.bool true)], args := [d1, d2, d3] }
  | _ => none }
def skillTestsRow : OpenClaim := { program := "ytdokbocmgdhmmaa", sum := "e4104e353de681e381af4b5682ea76ea6d3f39227ffa739e5d1f8d312ccb09fb", func := "bitepoint/bitepointlaw02.SkillTests", spec := "skillTests", unfollowed := true, recurses := true, apart := false }
def SkillTestsSaid : Prop := skillTestsRow.holds Try.pinned (OpenSpec.ofChange skillTestsSpec)

/-- ITS FALSE NEIGHBOUR: 'it returns false'. Refute it at one input. -/
def skillTestsWrong : ChangeSpec := { name := "skillTests", fn := fun _ => fun
  | [d1, d2, d3] => { results := [.lit (.bool false)], args := [d1, d2, d3] }
  | _ => none }
def SkillTestsWrongFalsely : Prop := skillTestsRow.holds Try.pinned (OpenSpec.ofChange skillTestsWrong)

/-- 'bitepointlaw02.SkillPlans': WHATEVER THE INPUT: true; the input reads as it did. -/
def skillPlansSpec : ChangeSpec := { name := "skillPlans", fn := fun _ => fun
  | [d1, d2, d3] => { results := [.lit (.bool true)], args := [d1, d2, d3] }
  | _ => none }
def skillPlansRow : OpenClaim := { program := "ytdokbocmgdhmmaa", sum := "e4104e353de681e381af4b5682ea76ea6d3f39227ffa739e5d1f8d312ccb09fb", func := "bitepoint/bitepointlaw02.SkillPlans", spec := "skillPlans", unfollowed := true, recurses := true, apart := false }
def SkillPlansSaid : Prop := skillPlansRow.holds Try.pinned (OpenSpec.ofChange skillPlansSpec)

/-- ITS FALSE NEIGHBOUR: 'it returns false'. Refute it at one input. -/
def skillPlansWrong : ChangeSpec := { name := "skillPlans", fn := fun _ => fun
  | [d1, d2, d3] => { results := [.lit (.bool false)], args := [d1, d2, d3] }
  | _ => none }
def SkillPlansWrongFalsely : Prop := skillPlansRow.holds Try.pinned (OpenSpec.ofChange skillPlansWrong)

/-- 'bitepointlaw02.SkillKnown': WHATEVER THE INPUT: true; the input reads as it did. -/
def skillKnownSpec : ChangeSpec := { name := "skillKnown", fn := fun _ => fun
  | [] => { results := [.lit (.bool true)], args := [] }
  | _ => none }
def skillKnownRow : OpenClaim := { program := "ytdokbocmgdhmmaa", sum := "e4104e353de681e381af4b5682ea76ea6d3f39227ffa739e5d1f8d312ccb09fb", func := "bitepoint/bitepointlaw02.SkillKnown", spec := "skillKnown", unfollowed := true, recurses := true, apart := false }
def SkillKnownSaid : Prop := skillKnownRow.holds Try.pinned (OpenSpec.ofChange skillKnownSpec)

/-- ITS FALSE NEIGHBOUR: 'it returns false'. Refute it at one input. -/
def skillKnownWrong : ChangeSpec := { name := "skillKnown", fn := fun _ => fun
  | [] => { results := [.lit (.bool false)], args := [] }
  | _ => none }
def SkillKnownWrongFalsely : Prop := skillKnownRow.holds Try.pinned (OpenSpec.ofChange skillKnownWrong)

/-- 'bitepointlaw02.SkillTrue': WHATEVER THE INPUT: true; the input reads as it did. -/
def skillTrueSpec : ChangeSpec := { name := "skillTrue", fn := fun _ => fun
  | [d1, d2] => { results := [.lit (.bool true)], args := [d1, d2] }
  | _ => none }
def skillTrueRow : OpenClaim := { program := "ytdokbocmgdhmmaa", sum := "e4104e353de681e381af4b5682ea76ea6d3f39227ffa739e5d1f8d312ccb09fb", func := "bitepoint/bitepointlaw02.SkillTrue", spec := "skillTrue", unfollowed := true, recurses := true, apart := false }
def SkillTrueSaid : Prop := skillTrueRow.holds Try.pinned (OpenSpec.ofChange skillTrueSpec)

/-- ITS FALSE NEIGHBOUR: 'it returns false'. Refute it at one input. -/
def skillTrueWrong : ChangeSpec := { name := "skillTrue", fn := fun _ => fun
  | [d1, d2] => { results := [.lit (.bool false)], args := [d1, d2] }
  | _ => none }
def SkillTrueWrongFalsely : Prop := skillTrueRow.holds Try.pinned (OpenSpec.ofChange skillTrueWrong)

/-- 'bitepointlaw02.SkillReached': WHATEVER THE INPUT: true; the input reads as it did. -/
def skillReachedSpec : ChangeSpec := { name := "skillReached", fn := fun _ => fun
  | [d1, d2, d3] => { results := [.lit (.bool true)], args := [d1, d2, d3] }
  | _ => none }
def skillReachedRow : OpenClaim := { program := "ytdokbocmgdhmmaa", sum := "e4104e353de681e381af4b5682ea76ea6d3f39227ffa739e5d1f8d312ccb09fb", func := "bitepoint/bitepointlaw02.SkillReached", spec := "skillReached", unfollowed := true, recurses := true, apart := false }
def SkillReachedSaid : Prop := skillReachedRow.holds Try.pinned (OpenSpec.ofChange skillReachedSpec)

/-- ITS FALSE NEIGHBOUR: 'it returns false'. Refute it at one input. -/
def skillReachedWrong : ChangeSpec := { name := "skillReached", fn := fun _ => fun
  | [d1, d2, d3] => { results := [.lit (.bool false)], args := [d1, d2, d3] }
  | _ => none }
def SkillReachedWrongFalsely : Prop := skillReachedRow.holds Try.pinned (OpenSpec.ofChange skillReachedWrong)

/-- 'bitepointlaw02.SkillDual': WHATEVER THE INPUT: true; the input reads as it did. -/
def skillDualSpec : ChangeSpec := { name := "skillDual", fn := fun _ => fun
  | [d1, d2, d3] => { results := [.lit (.bool true)], args := [d1, d2, d3] }
  | _ => none }
def skillDualRow : OpenClaim := { program := "ytdokbocmgdhmmaa", sum := "e4104e353de681e381af4b5682ea76ea6d3f39227ffa739e5d1f8d312ccb09fb", func := "bitepoint/bitepointlaw02.SkillDual", spec := "skillDual", unfollowed := true, recurses := true, apart := false }
def SkillDualSaid : Prop := skillDualRow.holds Try.pinned (OpenSpec.ofChange skillDualSpec)

/-- ITS FALSE NEIGHBOUR: 'it returns false'. Refute it at one input. -/
def skillDualWrong : ChangeSpec := { name := "skillDual", fn := fun _ => fun
  | [d1, d2, d3] => { results := [.lit (.bool false)], args := [d1, d2, d3] }
  | _ => none }
def SkillDualWrongFalsely : Prop := skillDualRow.holds Try.pinned (OpenSpec.ofChange skillDualWrong)

/-- 'bitepointlaw02.SkillSevere': WHATEVER THE INPUT: true; the input reads as it did. -/
def skillSevereSpec : ChangeSpec := { name := "skillSevere", fn := fun _ => fun
  | [d1, d2, d3] => { results := [.lit (.bool true)], args := [d1, d2, d3] }
  | _ => none }
def skillSevereRow : OpenClaim := { program := "ytdokbocmgdhmmaa", sum := "e4104e353de681e381af4b5682ea76ea6d3f39227ffa739e5d1f8d312ccb09fb", func := "bitepoint/bitepointlaw02.SkillSevere", spec := "skillSevere", unfollowed := true, recurses := true, apart := false }
def SkillSevereSaid : Prop := skillSevereRow.holds Try.pinned (OpenSpec.ofChange skillSevereSpec)

/-- ITS FALSE NEIGHBOUR: 'it returns false'. Refute it at one input. -/
def skillSevereWrong : ChangeSpec := { name := "skillSevere", fn := fun _ => fun
  | [d1, d2, d3] => { results := [.lit (.bool false)], args := [d1, d2, d3] }
  | _ => none }
def SkillSevereWrongFalsely : Prop := skillSevereRow.holds Try.pinned (OpenSpec.ofChange skillSevereWrong)

/-- 'bitepointlaw02.SkillReady': WHATEVER THE INPUT: true; the input reads as it did. -/
def skillReadySpec : ChangeSpec := { name := "skillReady", fn := fun _ => fun
  | [d1, d2, d3] => { results := [.lit (.bool true)], args := [d1, d2, d3] }
  | _ => none }
def skillReadyRow : OpenClaim := { program := "ytdokbocmgdhmmaa", sum := "e4104e353de681e381af4b5682ea76ea6d3f39227ffa739e5d1f8d312ccb09fb", func := "bitepoint/bitepointlaw02.SkillReady", spec := "skillReady", unfollowed := true, recurses := true, apart := false }
def SkillReadySaid : Prop := skillReadyRow.holds Try.pinned (OpenSpec.ofChange skillReadySpec)

/-- ITS FALSE NEIGHBOUR: 'it returns false'. Refute it at one input. -/
def skillReadyWrong : ChangeSpec := { name := "skillReady", fn := fun _ => fun
  | [d1, d2, d3] => { results := [.lit (.bool false)], args := [d1, d2, d3] }
  | _ => none }
def SkillReadyWrongFalsely : Prop := skillReadyRow.holds Try.pinned (OpenSpec.ofChange skillReadyWrong)

/-- 'bitepointlaw02.SkillFewest': WHATEVER THE INPUT: true; the input reads as it did. -/
def skillFewestSpec : ChangeSpec := { name := "skillFewest", fn := fun _ => fun
  | [d1, d2, d3] => { results := [.lit (.bool true)], args := [d1, d2, d3] }
  | _ => none }
def skillFewestRow : OpenClaim := { program := "ytdokbocmgdhmmaa", sum := "e4104e353de681e381af4b5682ea76ea6d3f39227ffa739e5d1f8d312ccb09fb", func := "bitepoint/bitepointlaw02.SkillFewest", spec := "skillFewest", unfollowed := true, recurses := true, apart := false }
def SkillFewestSaid : Prop := skillFewestRow.holds Try.pinned (OpenSpec.ofChange skillFewestSpec)

/-- ITS FALSE NEIGHBOUR: 'it returns false'. Refute it at one input. -/
def skillFewestWrong : ChangeSpec := { name := "skillFewest", fn := fun _ => fun
  | [d1, d2, d3] => { results := [.lit (.bool false)], args := [d1, d2, d3] }
  | _ => none }
def SkillFewestWrongFalsely : Prop := skillFewestRow.holds Try.pinned (OpenSpec.ofChange skillFewestWrong)

/-- 'bitepointlaw02.SkillMore': WHATEVER THE INPUT: true; the input reads as it did. -/
def skillMoreSpec : ChangeSpec := { name := "skillMore", fn := fun _ => fun
  | [d1, d2, d3] => { results := [.lit (.bool true)], args := [d1, d2, d3] }
  | _ => none }
def skillMoreRow : OpenClaim := { program := "ytdokbocmgdhmmaa", sum := "e4104e353de681e381af4b5682ea76ea6d3f39227ffa739e5d1f8d312ccb09fb", func := "bitepoint/bitepointlaw02.SkillMore", spec := "skillMore", unfollowed := true, recurses := true, apart := false }
def SkillMoreSaid : Prop := skillMoreRow.holds Try.pinned (OpenSpec.ofChange skillMoreSpec)

/-- ITS FALSE NEIGHBOUR: 'it returns false'. Refute it at one input. -/
def skillMoreWrong : ChangeSpec := { name := "skillMore", fn := fun _ => fun
  | [d1, d2, d3] => { results := [.lit (.bool false)], args := [d1, d2, d3] }
  | _ => none }
def SkillMoreWrongFalsely : Prop := skillMoreRow.holds Try.pinned (OpenSpec.ofChange skillMoreWrong)

/-- 'bitepointlaw02.SkillEasier': WHATEVER THE INPUT: true; the input reads as it did. -/
def skillEasierSpec : ChangeSpec := { name := "skillEasier", fn := fun _ => fun
  | [d1, d2, d3] => { results := [.lit (.bool true)], args := [d1, d2, d3] }
  | _ => none }
def skillEasierRow : OpenClaim := { program := "ytdokbocmgdhmmaa", sum := "e4104e353de681e381af4b5682ea76ea6d3f39227ffa739e5d1f8d312ccb09fb", func := "bitepoint/bitepointlaw02.SkillEasier", spec := "skillEasier", unfollowed := true, recurses := true, apart := false }
def SkillEasierSaid : Prop := skillEasierRow.holds Try.pinned (OpenSpec.ofChange skillEasierSpec)

/-- ITS FALSE NEIGHBOUR: 'it returns false'. Refute it at one input. -/
def skillEasierWrong : ChangeSpec := { name := "skillEasier", fn := fun _ => fun
  | [d1, d2, d3] => { results := [.lit (.bool false)], args := [d1, d2, d3] }
  | _ => none }
def SkillEasierWrongFalsely : Prop := skillEasierRow.holds Try.pinned (OpenSpec.ofChange skillEasierWrong)

/-- 'bitepointlaw02.SkillTurned': WHATEVER THE INPUT: true; the input reads as it did. -/
def skillTurnedSpec : ChangeSpec := { name := "skillTurned", fn := fun _ => fun
  | [d1, d2, d3] => { results := [.lit (.bool true)], args := [d1, d2, d3] }
  | _ => none }
def skillTurnedRow : OpenClaim := { program := "ytdokbocmgdhmmaa", sum := "e4104e353de681e381af4b5682ea76ea6d3f39227ffa739e5d1f8d312ccb09fb", func := "bitepoint/bitepointlaw02.SkillTurned", spec := "skillTurned", unfollowed := true, recurses := true, apart := false }
def SkillTurnedSaid : Prop := skillTurnedRow.holds Try.pinned (OpenSpec.ofChange skillTurnedSpec)

/-- ITS FALSE NEIGHBOUR: 'it returns false'. Refute it at one input. -/
def skillTurnedWrong : ChangeSpec := { name := "skillTurned", fn := fun _ => fun
  | [d1, d2, d3] => { results := [.lit (.bool false)], args := [d1, d2, d3] }
  | _ => none }
def SkillTurnedWrongFalsely : Prop := skillTurnedRow.holds Try.pinned (OpenSpec.ofChange skillTurnedWrong)

/-- 'bitepointlaw02.SkillWeeks': WHATEVER THE INPUT: true; the input reads as it did. -/
def skillWeeksSpec : ChangeSpec := { name := "skillWeeks", fn := fun _ => fun
  | [d1, d2, d3] => { results := [.lit (.bool true)], args := [d1, d2, d3] }
  | _ => none }
def skillWeeksRow : OpenClaim := { program := "ytdokbocmgdhmmaa", sum := "e4104e353de681e381af4b5682ea76ea6d3f39227ffa739e5d1f8d312ccb09fb", func := "bitepoint/bitepointlaw02.SkillWeeks", spec := "skillWeeks", unfollowed := true, recurses := true, apart := false }
def SkillWeeksSaid : Prop := skillWeeksRow.holds Try.pinned (OpenSpec.ofChange skillWeeksSpec)

/-- ITS FALSE NEIGHBOUR: 'it returns false'. Refute it at one input. -/
def skillWeeksWrong : ChangeSpec := { name := "skillWeeks", fn := fun _ => fun
  | [d1, d2, d3] => { results := [.lit (.bool false)], args := [d1, d2, d3] }
  | _ => none }
def SkillWeeksWrongFalsely : Prop := skillWeeksRow.holds Try.pinned (OpenSpec.ofChange skillWeeksWrong)

/- THE SECOND FORM. 'bulk': how many values and letters a reading holds, each counted each time it is reached (what is shared counts as often as it is met; a slice's spare places count too). A statement '..UptoSaid' is the law's where the arguments, and the package variables that the reading takes, are together of bulk at most 1048576: NARROWER than '..Said'. Prove '..Said' where nothing that the law and all that it calls make is longer than what came in: it says more and counts as full. Else prove '..UptoSaid'. A law counts once. -/
mutual
def uptoBulk {H : Type} : DataW H → Nat
  | .lit (.string bytes) => bytes.length + 1
  | .lit _ => 1
  | .nil => 1
  | .ptr d => uptoBulk d + 1
  | .slice elems spare => uptoBulkAll elems + uptoBulkAll spare + 1
  | .agg parts => uptoBulkAll parts + 1
  | .iface _ d => uptoBulk d + 1
  | .map entries => uptoBulkEntries entries + 1
  | .held _ => 1
def uptoBulkAll {H : Type} : List (DataW H) → Nat
  | [] => 0
  | d :: r => uptoBulk d + uptoBulkAll r
def uptoBulkEntries {H : Type} : List (Lit × DataW H) → Nat
  | [] => 0
  | x :: r => uptoBulkEntry x + uptoBulkEntries r
def uptoBulkEntry {H : Type} : Lit × DataW H → Nat
  | (.string bytes, d) => bytes.length + uptoBulk d + 1
  | (_, d) => uptoBulk d + 1
 end
def uptoSmall : (H : Type) → List (DataW H) → Bool := fun _ ds => decide (uptoBulkAll ds ≤ 1048576)
def OpenSpec.upto (s : _root_.Go.ChangeSpec) : _root_.Go.OpenSpec := { _root_.Go.OpenSpec.ofChange s with cond := some uptoSmall }

/-- 'bitepointlaw02.SkillMarks', WHERE WHAT IT READS IS OF BULK AT MOST 1048576: true; the input reads as it did. -/
def skillMarksUptoRow : OpenClaim := { program := "ytdokbocmgdhmmaa", sum := "e4104e353de681e381af4b5682ea76ea6d3f39227ffa739e5d1f8d312ccb09fb", func := "bitepoint/bitepointlaw02.SkillMarks", spec := "skillMarks", unfollowed := true, recurses := true, apart := false, narrowed := true }
def SkillMarksUptoSaid : Prop := skillMarksUptoRow.holds Try.pinned (OpenSpec.upto skillMarksSpec)

/-- 'bitepointlaw02.SkillAfters', WHERE WHAT IT READS IS OF BULK AT MOST 1048576: true; the input reads as it did. -/
def skillAftersUptoRow : OpenClaim := { program := "ytdokbocmgdhmmaa", sum := "e4104e353de681e381af4b5682ea76ea6d3f39227ffa739e5d1f8d312ccb09fb", func := "bitepoint/bitepointlaw02.SkillAfters", spec := "skillAfters", unfollowed := true, recurses := true, apart := false, narrowed := true }
def SkillAftersUptoSaid : Prop := skillAftersUptoRow.holds Try.pinned (OpenSpec.upto skillAftersSpec)

/-- 'bitepointlaw02.SkillTests', WHERE WHAT IT READS IS OF BULK AT MOST 1048576: true; the input reads as it did. -/
def skillTestsUptoRow : OpenClaim := { program := "ytdokbocmgdhmmaa", sum := "e4104e353de681e381af4b5682ea76ea6d3f39227ffa739e5d1f8d312ccb09fb", func := "bitepoint/bitepointlaw02.SkillTests", spec := "skillTests", unfollowed := true, recurses := true, apart := false, narrowed := true }
def SkillTestsUptoSaid : Prop := skillTestsUptoRow.holds Try.pinned (OpenSpec.upto skillTestsSpec)

/-- 'bitepointlaw02.SkillPlans', WHERE WHAT IT READS IS OF BULK AT MOST 1048576: true; the input reads as it did. -/
def skillPlansUptoRow : OpenClaim := { program := "ytdokbocmgdhmmaa", sum := "e4104e353de681e381af4b5682ea76ea6d3f39227ffa739e5d1f8d312ccb09fb", func := "bitepoint/bitepointlaw02.SkillPlans", spec := "skillPlans", unfollowed := true, recurses := true, apart := false, narrowed := true }
def SkillPlansUptoSaid : Prop := skillPlansUptoRow.holds Try.pinned (OpenSpec.upto skillPlansSpec)

/-- 'bitepointlaw02.SkillKnown', WHERE WHAT IT READS IS OF BULK AT MOST 1048576: true; the input reads as it did. -/
def skillKnownUptoRow : OpenClaim := { program := "ytdokbocmgdhmmaa", sum := "e4104e353de681e381af4b5682ea76ea6d3f39227ffa739e5d1f8d312ccb09fb", func := "bitepoint/bitepointlaw02.SkillKnown", spec := "skillKnown", unfollowed := true, recurses := true, apart := false, narrowed := true }
def SkillKnownUptoSaid : Prop := skillKnownUptoRow.holds Try.pinned (OpenSpec.upto skillKnownSpec)

/-- 'bitepointlaw02.SkillTrue', WHERE WHAT IT READS IS OF BULK AT MOST 1048576: true; the input reads as it did. -/
def skillTrueUptoRow : OpenClaim := { program := "ytdokbocmgdhmmaa", sum := "e4104e353de681e381af4b5682ea76ea6d3f39227ffa739e5d1f8d312ccb09fb", func := "bitepoint/bitepointlaw02.SkillTrue", spec := "skillTrue", unfollowed := true, recurses := true, apart := false, narrowed := true }
def SkillTrueUptoSaid : Prop := skillTrueUptoRow.holds Try.pinned (OpenSpec.upto skillTrueSpec)

/-- 'bitepointlaw02.SkillReached', WHERE WHAT IT READS IS OF BULK AT MOST 1048576: true; the input reads as it did. -/
def skillReachedUptoRow : OpenClaim := { program := "ytdokbocmgdhmmaa", sum := "e4104e353de681e381af4b5682ea76ea6d3f39227ffa739e5d1f8d312ccb09fb", func := "bitepoint/bitepointlaw02.SkillReached", spec := "skillReached", unfollowed := true, recurses := true, apart := false, narrowed := true }
def SkillReachedUptoSaid : Prop := skillReachedUptoRow.holds Try.pinned (OpenSpec.upto skillReachedSpec)

/-- 'bitepointlaw02.SkillDual', WHERE WHAT IT READS IS OF BULK AT MOST 1048576: true; the input reads as it did. -/
def skillDualUptoRow : OpenClaim := { program := "ytdokbocmgdhmmaa", sum := "e4104e353de681e381af4b5682ea76ea6d3f39227ffa739e5d1f8d312ccb09fb", func := "bitepoint/bitepointlaw02.SkillDual", spec := "skillDual", unfollowed := true, recurses := true, apart := false, narrowed := true }
def SkillDualUptoSaid : Prop := skillDualUptoRow.holds Try.pinned (OpenSpec.upto skillDualSpec)

/-- 'bitepointlaw02.SkillSevere', WHERE WHAT IT READS IS OF BULK AT MOST 1048576: true; the input reads as it did. -/
def skillSevereUptoRow : OpenClaim := { program := "ytdokbocmgdhmmaa", sum := "e4104e353de681e381af4b5682ea76ea6d3f39227ffa739e5d1f8d312ccb09fb", func := "bitepoint/bitepointlaw02.SkillSevere", spec := "skillSevere", unfollowed := true, recurses := true, apart := false, narrowed := true }
def SkillSevereUptoSaid : Prop := skillSevereUptoRow.holds Try.pinned (OpenSpec.upto skillSevereSpec)

/-- 'bitepointlaw02.SkillReady', WHERE WHAT IT READS IS OF BULK AT MOST 1048576: true; the input reads as it did. -/
def skillReadyUptoRow : OpenClaim := { program := "ytdokbocmgdhmmaa", sum := "e4104e353de681e381af4b5682ea76ea6d3f39227ffa739e5d1f8d312ccb09fb", func := "bitepoint/bitepointlaw02.SkillReady", spec := "skillReady", unfollowed := true, recurses := true, apart := false, narrowed := true }
def SkillReadyUptoSaid : Prop := skillReadyUptoRow.holds Try.pinned (OpenSpec.upto skillReadySpec)

/-- 'bitepointlaw02.SkillFewest', WHERE WHAT IT READS IS OF BULK AT MOST 1048576: true; the input reads as it did. -/
def skillFewestUptoRow : OpenClaim := { program := "ytdokbocmgdhmmaa", sum := "e4104e353de681e381af4b5682ea76ea6d3f39227ffa739e5d1f8d312ccb09fb", func := "bitepoint/bitepointlaw02.SkillFewest", spec := "skillFewest", unfollowed := true, recurses := true, apart := false, narrowed := true }
def SkillFewestUptoSaid : Prop := skillFewestUptoRow.holds Try.pinned (OpenSpec.upto skillFewestSpec)

/-- 'bitepointlaw02.SkillMore', WHERE WHAT IT READS IS OF BULK AT MOST 1048576: true; the input reads as it did. -/
def skillMoreUptoRow : OpenClaim := { program := "ytdokbocmgdhmmaa", sum := "e4104e353de681e381af4b5682ea76ea6d3f39227ffa739e5d1f8d312ccb09fb", func := "bitepoint/bitepointlaw02.SkillMore", spec := "skillMore", unfollowed := true, recurses := true, apart := false, narrowed := true }
def SkillMoreUptoSaid : Prop := skillMoreUptoRow.holds Try.pinned (OpenSpec.upto skillMoreSpec)

/-- 'bitepointlaw02.SkillEasier', WHERE WHAT IT READS IS OF BULK AT MOST 1048576: true; the input reads as it did. -/
def skillEasierUptoRow : OpenClaim := { program := "ytdokbocmgdhmmaa", sum := "e4104e353de681e381af4b5682ea76ea6d3f39227ffa739e5d1f8d312ccb09fb", func := "bitepoint/bitepointlaw02.SkillEasier", spec := "skillEasier", unfollowed := true, recurses := true, apart := false, narrowed := true }
def SkillEasierUptoSaid : Prop := skillEasierUptoRow.holds Try.pinned (OpenSpec.upto skillEasierSpec)

/-- 'bitepointlaw02.SkillTurned', WHERE WHAT IT READS IS OF BULK AT MOST 1048576: true; the input reads as it did. -/
def skillTurnedUptoRow : OpenClaim := { program := "ytdokbocmgdhmmaa", sum := "e4104e353de681e381af4b5682ea76ea6d3f39227ffa739e5d1f8d312ccb09fb", func := "bitepoint/bitepointlaw02.SkillTurned", spec := "skillTurned", unfollowed := true, recurses := true, apart := false, narrowed := true }
def SkillTurnedUptoSaid : Prop := skillTurnedUptoRow.holds Try.pinned (OpenSpec.upto skillTurnedSpec)

/-- 'bitepointlaw02.SkillWeeks', WHERE WHAT IT READS IS OF BULK AT MOST 1048576: true; the input reads as it did. -/
def skillWeeksUptoRow : OpenClaim := { program := "ytdokbocmgdhmmaa", sum := "e4104e353de681e381af4b5682ea76ea6d3f39227ffa739e5d1f8d312ccb09fb", func := "bitepoint/bitepointlaw02.SkillWeeks", spec := "skillWeeks", unfollowed := true, recurses := true, apart := false, narrowed := true }
def SkillWeeksUptoSaid : Prop := skillWeeksUptoRow.holds Try.pinned (OpenSpec.upto skillWeeksSpec)

end Rows
end Go.Proofs.Ytdokbocmgdhmmaa

/-
  No cell of these rows narrows 'for every input' (looked for: loops, veiled, ifaces, maps, wideKeys, modest, calm, conditions, laid).
  DERIVED. THE GIVEN ROWS OF THIS SEAT. 14 by the template 'for every input the law returns true; each argument reads behind the call as it read before'; 0 by the template 'total and deterministic' (their statements: YtifhdbgciehicaaTotals.lean).
  GIVEN WITH THE SEED: the statements are not yours to turn. If you find one false, say at which input.
  Laid BY PROGRAM, IN A SANDBOX (cutbox-rows.mjs): the forced cells as the released guide's own fill.sh prints them over the translation 1a899bb7f712cd23… (all of the seat's roots in one cut). By AI agents, Wed Nov 11 2026. No macro, syntax, notation, axiom, sorry.
-/
import Derived.Test.YtifhdbgciehicaaChecked
import GoSem.Claim
import GoSem.ClaimJoined
import GoSem.ClaimMapViews
import Derived.JoinedTies
import Derived.KernelRfl
namespace Go.Proofs.Ytifhdbgciehicaa
/- THE CELL 'sum', in the pinned program and in every row, IS THE sha256 OF THE DUMP (.gsa) THAT YtifhdbgciehicaaProg.lean LOADS. Nothing in Lean hashes anything: it is a label: what it is worth is what the hold of that sum in a sandbox is worth. -/
noncomputable def Try.pinned : Pinned := { name := "ytifhdbgciehicaa", sum := "1a899bb7f712cd23c4899c963867b4ef36246cdb4b8594d68526c6d52162bd5e", checked := Try.checked }
namespace Rows
def none {H : Type} : Left H := { results := [], args := [] }

/-- 'bitepointlaw07.AnswerMarks': WHATEVER THE INPUT: true; the input reads as it did. -/
def answerMarksSpec : ChangeSpec := { name := "answerMarks", fn := fun _ => fun
  | [d1, d2] => { results := [.lit (.bool true)], args := [d1, d2] }
  | _ => none }
def answerMarksRow : OpenClaim := { program := "ytifhdbgciehicaa", sum := "1a899bb7f712cd23c4899c963867b4ef36246cdb4b8594d68526c6d52162bd5e", func := "bitepoint/bitepointlaw07.AnswerMarks", spec := "answerMarks", unfollowed := true, recurses := true, plainKeys := false, apart := false }
def AnswerMarksSaid : Prop := answerMarksRow.holds Try.pinned (OpenSpec.ofChange answerMarksSpec)

/-- ITS FALSE NEIGHBOUR: 'it returns false'. Refute it at one input. -/
def answerMarksWrong : ChangeSpec := { name := "answerMarks", fn := fun _ => fun
  | [d1, d2] => { results := [.lit (.bool false)], args := [d1, d2] }
  | _ => none }
def AnswerMarksWrongFalsely : Prop := answerMarksRow.holds Try.pinned (OpenSpec.ofChange answerMarksWrong)

/-- 'bitepointlaw07.AnswerOutcomes': WHATEVER THE INPUT: true; the input reads as it did. -/
def answerOutcomesSpec : ChangeSpec := { name := "answerOutcomes", fn := fun _ => fun
  | [d1, d2] => { results := [.lit (.bool true)], args := [d1, d2] }
  | _ => none }
def answerOutcomesRow : OpenClaim := { program := "ytifhdbgciehicaa", sum := "1a899bb7f712cd23c4899c963867b4ef36246cdb4b8594d68526c6d52162bd5e", func := "bitepoint/bitepointlaw07.AnswerOutcomes", spec := "answerOutcomes", unfollowed := true, recurses := true, plainKeys := false, apart := false }
def AnswerOutcomesSaid : Prop := answerOutcomesRow.holds Try.pinned (OpenSpec.ofChange answerOutcomesSpec)

/-- ITS FALSE NEIGHBOUR: 'it returns false'. Refute it at one input. -/
def answerOutcomesWrong : ChangeSpec := { name := "answerOutcomes", fn := fun _ => fun
  | [d1, d2] => { results := [.lit (.bool false)], args := [d1, d2] }
  | _ => none }
def AnswerOutcomesWrongFalsely : Prop := answerOutcomesRow.holds Try.pinned (OpenSpec.ofChange answerOutcomesWrong)

/-- 'bitepointlaw07.AnswerLooks': WHATEVER THE INPUT: true; the input reads as it did. -/
def answerLooksSpec : ChangeSpec := { name := "answerLooks", fn := fun _ => fun
  | [d1, d2] => { results := [.lit (.bool true)], args := [d1, d2] }
  | _ => none }
def answerLooksRow : OpenClaim := { program := "ytifhdbgciehicaa", sum := "1a899bb7f712cd23c4899c963867b4ef36246cdb4b8594d68526c6d52162bd5e", func := "bitepoint/bitepointlaw07.AnswerLooks", spec := "answerLooks", unfollowed := true, recurses := true, plainKeys := false, apart := false }
def AnswerLooksSaid : Prop := answerLooksRow.holds Try.pinned (OpenSpec.ofChange answerLooksSpec)

/-- ITS FALSE NEIGHBOUR: 'it returns false'. Refute it at one input. -/
def answerLooksWrong : ChangeSpec := { name := "answerLooks", fn := fun _ => fun
  | [d1, d2] => { results := [.lit (.bool false)], args := [d1, d2] }
  | _ => none }
def AnswerLooksWrongFalsely : Prop := answerLooksRow.holds Try.pinned (OpenSpec.ofChange answerLooksWrong)

/-- 'bitepointlaw07.AnswerStrikes': WHATEVER THE INPUT: true; the input reads as it did. -/
def answerStrikesSpec : ChangeSpec := { name := "answerStrikes", fn := fun _ => fun
  | [d1, d2, d3] => { results := [.lit (.bool true)], args := [d1, d2, d3] }
  | _ => none }
def answerStrikesRow : OpenClaim := { program := "ytifhdbgciehicaa", sum := "1a899bb7f712cd23c4899c963867b4ef36246cdb4b8594d68526c6d52162bd5e", func := "bitepoint/bitepointlaw07.AnswerStrikes", spec := "answerStrikes", unfollowed := true, recurses := true, plainKeys := false, apart := false }
def AnswerStrikesSaid : Prop := answerStrikesRow.holds Try.pinned (OpenSpec.ofChange answerStrikesSpec)

/-- ITS FALSE NEIGHBOUR: 'it returns false'. Refute it at one input. -/
def answerStrikesWrong : ChangeSpec := { name := "answerStrikes", fn := fun _ => fun
  | [d1, d2, d3] => { results := [.lit (.bool false)], args := [d1, d2, d3] }
  | _ => none }
def AnswerStrikesWrongFalsely : Prop := answerStrikesRow.holds Try.pinned (OpenSpec.ofChange answerStrikesWrong)

/-- 'bitepointlaw07.AnswerKnown': WHATEVER THE INPUT: true; the input reads as it did. -/
def answerKnownSpec : ChangeSpec := { name := "answerKnown", fn := fun _ => fun
  | [] => { results := [.lit (.bool true)], args := [] }
  | _ => none }
def answerKnownRow : OpenClaim := { program := "ytifhdbgciehicaa", sum := "1a899bb7f712cd23c4899c963867b4ef36246cdb4b8594d68526c6d52162bd5e", func := "bitepoint/bitepointlaw07.AnswerKnown", spec := "answerKnown", unfollowed := true, recurses := true, plainKeys := false, apart := false }
def AnswerKnownSaid : Prop := answerKnownRow.holds Try.pinned (OpenSpec.ofChange answerKnownSpec)

/-- ITS FALSE NEIGHBOUR: 'it returns false'. Refute it at one input. -/
def answerKnownWrong : ChangeSpec := { name := "answerKnown", fn := fun _ => fun
  | [] => { results := [.lit (.bool false)], args := [] }
  | _ => none }
def AnswerKnownWrongFalsely : Prop := answerKnownRow.holds Try.pinned (OpenSpec.ofChange answerKnownWrong)

/-- 'bitepointlaw07.AnswerEvery': WHATEVER THE INPUT: true; the input reads as it did. -/
def answerEverySpec : ChangeSpec := { name := "answerEvery", fn := fun _ => fun
  | [d1, d2, d3] => { results := [.lit (.bool true)], args := [d1, d2, d3] }
  | _ => none }
def answerEveryRow : OpenClaim := { program := "ytifhdbgciehicaa", sum := "1a899bb7f712cd23c4899c963867b4ef36246cdb4b8594d68526c6d52162bd5e", func := "bitepoint/bitepointlaw07.AnswerEvery", spec := "answerEvery", unfollowed := true, recurses := true, plainKeys := false, apart := false }
def AnswerEverySaid : Prop := answerEveryRow.holds Try.pinned (OpenSpec.ofChange answerEverySpec)

/-- ITS FALSE NEIGHBOUR: 'it returns false'. Refute it at one input. -/
def answerEveryWrong : ChangeSpec := { name := "answerEvery", fn := fun _ => fun
  | [d1, d2, d3] => { results := [.lit (.bool false)], args := [d1, d2, d3] }
  | _ => none }
def AnswerEveryWrongFalsely : Prop := answerEveryRow.holds Try.pinned (OpenSpec.ofChange answerEveryWrong)

/-- 'bitepointlaw07.AnswerReached': WHATEVER THE INPUT: true; the input reads as it did. -/
def answerReachedSpec : ChangeSpec := { name := "answerReached", fn := fun _ => fun
  | [d1, d2] => { results := [.lit (.bool true)], args := [d1, d2] }
  | _ => none }
def answerReachedRow : OpenClaim := { program := "ytifhdbgciehicaa", sum := "1a899bb7f712cd23c4899c963867b4ef36246cdb4b8594d68526c6d52162bd5e", func := "bitepoint/bitepointlaw07.AnswerReached", spec := "answerReached", unfollowed := true, recurses := true, plainKeys := false, apart := false }
def AnswerReachedSaid : Prop := answerReachedRow.holds Try.pinned (OpenSpec.ofChange answerReachedSpec)

/-- ITS FALSE NEIGHBOUR: 'it returns false'. Refute it at one input. -/
def answerReachedWrong : ChangeSpec := { name := "answerReached", fn := fun _ => fun
  | [d1, d2] => { results := [.lit (.bool false)], args := [d1, d2] }
  | _ => none }
def AnswerReachedWrongFalsely : Prop := answerReachedRow.holds Try.pinned (OpenSpec.ofChange answerReachedWrong)

/-- 'bitepointlaw07.AnswerDecides': WHATEVER THE INPUT: true; the input reads as it did. -/
def answerDecidesSpec : ChangeSpec := { name := "answerDecides", fn := fun _ => fun
  | [d1, d2, d3] => { results := [.lit (.bool true)], args := [d1, d2, d3] }
  | _ => none }
def answerDecidesRow : OpenClaim := { program := "ytifhdbgciehicaa", sum := "1a899bb7f712cd23c4899c963867b4ef36246cdb4b8594d68526c6d52162bd5e", func := "bitepoint/bitepointlaw07.AnswerDecides", spec := "answerDecides", unfollowed := true, recurses := true, plainKeys := false, apart := false }
def AnswerDecidesSaid : Prop := answerDecidesRow.holds Try.pinned (OpenSpec.ofChange answerDecidesSpec)

/-- ITS FALSE NEIGHBOUR: 'it returns false'. Refute it at one input. -/
def answerDecidesWrong : ChangeSpec := { name := "answerDecides", fn := fun _ => fun
  | [d1, d2, d3] => { results := [.lit (.bool false)], args := [d1, d2, d3] }
  | _ => none }
def AnswerDecidesWrongFalsely : Prop := answerDecidesRow.holds Try.pinned (OpenSpec.ofChange answerDecidesWrong)

/-- 'bitepointlaw07.AnswerNeeded': WHATEVER THE INPUT: true; the input reads as it did. -/
def answerNeededSpec : ChangeSpec := { name := "answerNeeded", fn := fun _ => fun
  | [d1, d2, d3] => { results := [.lit (.bool true)], args := [d1, d2, d3] }
  | _ => none }
def answerNeededRow : OpenClaim := { program := "ytifhdbgciehicaa", sum := "1a899bb7f712cd23c4899c963867b4ef36246cdb4b8594d68526c6d52162bd5e", func := "bitepoint/bitepointlaw07.AnswerNeeded", spec := "answerNeeded", unfollowed := true, recurses := true, plainKeys := false, apart := false }
def AnswerNeededSaid : Prop := answerNeededRow.holds Try.pinned (OpenSpec.ofChange answerNeededSpec)

/-- ITS FALSE NEIGHBOUR: 'it returns false'. Refute it at one input. -/
def answerNeededWrong : ChangeSpec := { name := "answerNeeded", fn := fun _ => fun
  | [d1, d2, d3] => { results := [.lit (.bool false)], args := [d1, d2, d3] }
  | _ => none }
def AnswerNeededWrongFalsely : Prop := answerNeededRow.holds Try.pinned (OpenSpec.ofChange answerNeededWrong)

/-- 'bitepointlaw07.AnswerFewest': WHATEVER THE INPUT: true; the input reads as it did. -/
def answerFewestSpec : ChangeSpec := { name := "answerFewest", fn := fun _ => fun
  | [d1, d2, d3] => { results := [.lit (.bool true)], args := [d1, d2, d3] }
  | _ => none }
def answerFewestRow : OpenClaim := { program := "ytifhdbgciehicaa", sum := "1a899bb7f712cd23c4899c963867b4ef36246cdb4b8594d68526c6d52162bd5e", func := "bitepoint/bitepointlaw07.AnswerFewest", spec := "answerFewest", unfollowed := true, recurses := true, plainKeys := false, apart := false }
def AnswerFewestSaid : Prop := answerFewestRow.holds Try.pinned (OpenSpec.ofChange answerFewestSpec)

/-- ITS FALSE NEIGHBOUR: 'it returns false'. Refute it at one input. -/
def answerFewestWrong : ChangeSpec := { name := "answerFewest", fn := fun _ => fun
  | [d1, d2, d3] => { results := [.lit (.bool false)], args := [d1, d2, d3] }
  | _ => none }
def AnswerFewestWrongFalsely : Prop := answerFewestRow.holds Try.pinned (OpenSpec.ofChange answerFewestWrong)

/-- 'bitepointlaw07.AnswerStruck': WHATEVER THE INPUT: true; the input reads as it did. -/
def answerStruckSpec : ChangeSpec := { name := "answerStruck", fn := fun _ => fun
  | [d1, d2, d3] => { results := [.lit (.bool true)], args := [d1, d2, d3] }
  | _ => none }
def answerStruckRow : OpenClaim := { program := "ytifhdbgciehicaa", sum := "1a899bb7f712cd23c4899c963867b4ef36246cdb4b8594d68526c6d52162bd5e", func := "bitepoint/bitepointlaw07.AnswerStruck", spec := "answerStruck", unfollowed := true, recurses := true, plainKeys := false, apart := false }
def AnswerStruckSaid : Prop := answerStruckRow.holds Try.pinned (OpenSpec.ofChange answerStruckSpec)

/-- ITS FALSE NEIGHBOUR: 'it returns false'. Refute it at one input. -/
def answerStruckWrong : ChangeSpec := { name := "answerStruck", fn := fun _ => fun
  | [d1, d2, d3] => { results := [.lit (.bool false)], args := [d1, d2, d3] }
  | _ => none }
def AnswerStruckWrongFalsely : Prop := answerStruckRow.holds Try.pinned (OpenSpec.ofChange answerStruckWrong)

/-- 'bitepointlaw07.AnswerTurned': WHATEVER THE INPUT: true; the input reads as it did. -/
def answerTurnedSpec : ChangeSpec := { name := "answerTurned", fn := fun _ => fun
  | [d1, d2, d3] => { results := [.lit (.bool true)], args := [d1, d2, d3] }
  | _ => none }
def answerTurnedRow : OpenClaim := { program := "ytifhdbgciehicaa", sum := "1a899bb7f712cd23c4899c963867b4ef36246cdb4b8594d68526c6d52162bd5e", func := "bitepoint/bitepointlaw07.AnswerTurned", spec := "answerTurned", unfollowed := true, recurses := true, plainKeys := false, apart := false }
def AnswerTurnedSaid : Prop := answerTurnedRow.holds Try.pinned (OpenSpec.ofChange answerTurnedSpec)

/-- ITS FALSE NEIGHBOUR: 'it returns false'. Refute it at one input. -/
def answerTurnedWrong : ChangeSpec := { name := "answerTurned", fn := fun _ => fun
  | [d1, d2, d3] => { results := [.lit (.bool false)], args := [d1, d2, d3] }
  | _ => none }
def AnswerTurnedWrongFalsely : Prop := answerTurnedRow.holds Try.pinned (OpenSpec.ofChange answerTurnedWrong)

/-- 'bitepointlaw07.AnswerMore': WHATEVER THE INPUT: true; the input reads as it did. -/
def answerMoreSpec : ChangeSpec := { name := "answerMore", fn := fun _ => fun
  | [d1, d2, d3] => { results := [.lit (.bool true)], args := [d1, d2, d3] }
  | _ => none }
def answerMoreRow : OpenClaim := { program := "ytifhdbgciehicaa", sum := "1a899bb7f712cd23c4899c963867b4ef36246cdb4b8594d68526c6d52162bd5e", func := "bitepoint/bitepointlaw07.AnswerMore", spec := "answerMore", unfollowed := true, recurses := true, plainKeys := false, apart := false }
def AnswerMoreSaid : Prop := answerMoreRow.holds Try.pinned (OpenSpec.ofChange answerMoreSpec)

/-- ITS FALSE NEIGHBOUR: 'it returns false'. Refute it at one input. -/
def answerMoreWrong : ChangeSpec := { name := "answerMore", fn := fun _ => fun
  | [d1, d2, d3] => { results := [.lit (.bool false)], args := [d1, d2, d3] }
  | _ => none }
def AnswerMoreWrongFalsely : Prop := answerMoreRow.holds Try.pinned (OpenSpec.ofChange answerMoreWrong)

/-- 'bitepointlaw07.AnswerMissed': WHATEVER THE INPUT: true; the input reads as it did. -/
def answerMissedSpec : ChangeSpec := { name := "answerMissed", fn := fun _ => fun
  | [d1, d2, d3] => { results := [.lit (.bool true)], args := [d1, d2, d3] }
  | _ => none }
def answerMissedRow : OpenClaim := { program := "ytifhdbgciehicaa", sum := "1a899bb7f712cd23c4899c963867b4ef36246cdb4b8594d68526c6d52162bd5e", func := "bitepoint/bitepointlaw07.AnswerMissed", spec := "answerMissed", unfollowed := true, recurses := true, plainKeys := false, apart := false }
def AnswerMissedSaid : Prop := answerMissedRow.holds Try.pinned (OpenSpec.ofChange answerMissedSpec)

/-- ITS FALSE NEIGHBOUR: 'it returns false'. Refute it at one input. -/
def answerMissedWrong : ChangeSpec := { name := "answerMissed", fn := fun _ => fun
  | [d1, d2, d3] => { results := [.lit (.bool false)], args := [d1, d2, d3] }
  | _ => none }
def AnswerMissedWrongFalsely : Prop := answerMissedRow.holds Try.pinned (OpenSpec.ofChange answerMissedWrong)

/- THE SECOND FORM. 'bulk': how many values and letters a reading holds, each counted each time it is reached (what is shared counts as often as it is met; a slice's spare places count too). A statement '..UptoSaid' is the law's where the arguments, and the package variables that the reading takes, are together of bulk at most 1048576: NARROWER than '..Said'. Prove '..Said' where nothing that the law and all that it calls make is longer than what came in: it says more and counts as full. Else prove '..UptoSaid'. A law counts once. -/
mutual
def uptoBulk {H : Type} : DataW H → Nat
  | .lit (.string bytes) => bytes.length + 1
  | .lit _ => 1
  | .nil => 1
  | .ptr d => uptoBulk d + 1
  | .slice elems spare => uptoBulkAll elems + uptoBulkAll spare + 1
  | .agg parts => uptoBulkAll parts + 1
  | .iface _ d => uptoBulk d + 1
  | .map entries => uptoBulkEntries entries + 1
  | .held _ => 1
def uptoBulkAll {H : Type} : List (DataW H) → Nat
  | [] => 0
  | d :: r => uptoBulk d + uptoBulkAll r
def uptoBulkEntries {H : Type} : List (Lit × DataW H) → Nat
  | [] => 0
  | x :: r => uptoBulkEntry x + uptoBulkEntries r
def uptoBulkEntry {H : Type} : Lit × DataW H → Nat
  | (.string bytes, d) => bytes.length + uptoBulk d + 1
  | (_, d) => uptoBulk d + 1
 end
def uptoSmall : (H : Type) → List (DataW H) → Bool := fun _ ds => decide (uptoBulkAll ds ≤ 1048576)
def OpenSpec.upto (s : _root_.Go.ChangeSpec) : _root_.Go.OpenSpec := { _root_.Go.OpenSpec.ofChange s with cond := some uptoSmall }

/-- 'bitepointlaw07.AnswerMarks', WHERE WHAT IT READS IS OF BULK AT MOST 1048576: true; the input reads as it did. -/
def answerMarksUptoRow : OpenClaim := { program := "ytifhdbgciehicaa", sum := "1a899bb7f712cd23c4899c963867b4ef36246cdb4b8594d68526c6d52162bd5e", func := "bitepoint/bitepointlaw07.AnswerMarks", spec := "answerMarks", unfollowed := true, recurses := true, plainKeys := false, apart := false, narrowed := true }
def AnswerMarksUptoSaid : Prop := answerMarksUptoRow.holds Try.pinned (OpenSpec.upto answerMarksSpec)

/-- 'bitepointlaw07.AnswerOutcomes', WHERE WHAT IT READS IS OF BULK AT MOST 1048576: true; the input reads as it did. -/
def answerOutcomesUptoRow : OpenClaim := { program := "ytifhdbgciehicaa", sum := "1a899bb7f712cd23c4899c963867b4ef36246cdb4b8594d68526c6d52162bd5e", func := "bitepoint/bitepointlaw07.AnswerOutcomes", spec := "answerOutcomes", unfollowed := true, recurses := true, plainKeys := false, apart := false, narrowed := true }
def AnswerOutcomesUptoSaid : Prop := answerOutcomesUptoRow.holds Try.pinned (OpenSpec.upto answerOutcomesSpec)

/-- 'bitepointlaw07.AnswerLooks', WHERE WHAT IT READS IS OF BULK AT MOST 1048576: true; the input reads as it did. -/
def answerLooksUptoRow : OpenClaim := { program := "ytifhdbgciehicaa", sum := "1a899bb7f712cd23c4899c963867b4ef36246cdb4b8594d68526c6d52162bd5e", func := "bitepoint/bitepointlaw07.AnswerLooks", spec := "answerLooks", unfollowed := true, recurses := true, plainKeys := false, apart := false, narrowed := true }
def AnswerLooksUptoSaid : Prop := answerLooksUptoRow.holds Try.pinned (OpenSpec.upto answerLooksSpec)

/-- 'bitepointlaw07.AnswerStrikes', WHERE WHAT IT READS IS OF BULK AT MOST 1048576: true; the input reads as it did. -/
def answerStrikesUptoRow : OpenClaim := { program := "ytifhdbgciehicaa", sum := "1a899bb7f712cd23c4899c963867b4ef36246cdb4b8594d68526c6d52162bd5e", func := "bitepoint/bitepointlaw07.AnswerStrikes", spec := "answerStrikes", unfollowed := true, recurses := true, plainKeys := false, apart := false, narrowed := true }
def AnswerStrikesUptoSaid : Prop := answerStrikesUptoRow.holds Try.pinned (OpenSpec.upto answerStrikesSpec)

/-- 'bitepointlaw07.AnswerKnown', WHERE WHAT IT READS IS OF BULK AT MOST 1048576: true; the input reads as it did. -/
def answerKnownUptoRow : OpenClaim := { program := "ytifhdbgciehicaa", sum := "1a899bb7f712cd23c4899c963867b4ef36246cdb4b8594d68526c6d52162bd5e", func := "bitepoint/bitepointlaw07.AnswerKnown", spec := "answerKnown", unfollowed := true, recurses := true, plainKeys := false, apart := false, narrowed := true }
def AnswerKnownUptoSaid : Prop := answerKnownUptoRow.holds Try.pinned (OpenSpec.upto answerKnownSpec)

/-- 'bitepointlaw07.AnswerEvery', WHERE WHAT IT READS IS OF BULK AT MOST 1048576: true; the input reads as it did. -/
def answerEveryUptoRow : OpenClaim := { program := "ytifhdbgciehicaa", sum := "1a899bb7f712cd23c4899c963867b4ef36246cdb4b8594d68526c6d52162bd5e", func := "bitepoint/bitepointlaw07.AnswerEvery", spec := "answerEvery", unfollowed := true, recurses := true, plainKeys := false, apart := false, narrowed := true }
def AnswerEveryUptoSaid : Prop := answerEveryUptoRow.holds Try.pinned (OpenSpec.upto answerEverySpec)

/-- 'bitepointlaw07.AnswerReached', WHERE WHAT IT READS IS OF BULK AT MOST 1048576: true; the input reads as it did. -/
def answerReachedUptoRow : OpenClaim := { program := "ytifhdbgciehicaa", sum := "1a899bb7f712cd23c4899c963867b4ef36246cdb4b8594d68526c6d52162bd5e", func := "bitepoint/bitepointlaw07.AnswerReached", spec := "answerReached", unfollowed := true, recurses := true, plainKeys := false, apart := false, narrowed := true }
def AnswerReachedUptoSaid : Prop := answerReachedUptoRow.holds Try.pinned (OpenSpec.upto answerReachedSpec)

/-- 'bitepointlaw07.AnswerDecides', WHERE WHAT IT READS IS OF BULK AT MOST 1048576: true; the input reads as it did. -/
def answerDecidesUptoRow : OpenClaim := { program := "ytifhdbgciehicaa", sum := "1a899bb7f712cd23c4899c963867b4ef36246cdb4b8594d68526c6d52162bd5e", func := "bitepoint/bitepointlaw07.AnswerDecides", spec := "answerDecides", unfollowed := true, recurses := true, plainKeys := false, apart := false, narrowed := true }
def AnswerDecidesUptoSaid : Prop := answerDecidesUptoRow.holds Try.pinned (OpenSpec.upto answerDecidesSpec)

/-- 'bitepointlaw07.AnswerNeeded', WHERE WHAT IT READS IS OF BULK AT MOST 1048576: true; the input reads as it did. -/
def answerNeededUptoRow : OpenClaim := { program := "ytifhdbgciehicaa", sum := "1a899bb7f712cd23c4899c963867b4ef36246cdb4b8594d68526c6d52162bd5e", func := "bitepoint/bitepointlaw07.AnswerNeeded", spec := "answerNeeded", unfollowed := true, recurses := true, plainKeys := false, apart := false, narrowed := true }
def AnswerNeededUptoSaid : Prop := answerNeededUptoRow.holds Try.pinned (OpenSpec.upto answerNeededSpec)

/-- 'bitepointlaw07.AnswerFewest', WHERE WHAT IT READS IS OF BULK AT MOST 1048576: true; the input reads as it did. -/
def answerFewestUptoRow : OpenClaim := { program := "ytifhdbgciehicaa", sum := "1a899bb7f712cd23c4899c963867b4ef36246cdb4b8594d68526c6d52162bd5e", func := "bitepoint/bitepointlaw07.AnswerFewest", spec := "answerFewest", unfollowed := true, recurses := true, plainKeys := false, apart := false, narrowed := true }
def AnswerFewestUptoSaid : Prop := answerFewestUptoRow.holds Try.pinned (OpenSpec.upto answerFewestSpec)

/-- 'bitepointlaw07.AnswerStruck', WHERE WHAT IT READS IS OF BULK AT MOST 1048576: true; the input reads as it did. -/
def answerStruckUptoRow : OpenClaim := { program := "ytifhdbgciehicaa", sum := "1a899bb7f712cd23c4899c963867b4ef36246cdb4b8594d68526c6d52162bd5e", func := "bitepoint/bitepointlaw07.AnswerStruck", spec := "answerStruck", unfollowed := true, recurses := true, plainKeys := false, apart := false, narrowed := true }
def AnswerStruckUptoSaid : Prop := answerStruckUptoRow.holds Try.pinned (OpenSpec.upto answerStruckSpec)

/-- 'bitepointlaw07.AnswerTurned', WHERE WHAT IT READS IS OF BULK AT MOST 1048576: true; the input reads as it did. -/
def answerTurnedUptoRow : OpenClaim := { program := "ytifhdbgciehicaa", sum := "1a899bb7f712cd23c4899c963867b4ef36246cdb4b8594d68526c6d52162bd5e", func := "bitepoint/bitepointlaw07.AnswerTurned", spec := "answerTurned", unfollowed := true, recurses := true, plainKeys := false, apart := false, narrowed := true }
def AnswerTurnedUptoSaid : Prop := answerTurnedUptoRow.holds Try.pinned (OpenSpec.upto answerTurnedSpec)

/-- 'bitepointlaw07.AnswerMore', WHERE WHAT IT READS IS OF BULK AT MOST 1048576: true; the input reads as it did. -/
def answerMoreUptoRow : OpenClaim := { program := "ytifhdbgciehicaa", sum := "1a899bb7f712cd23c4899c963867b4ef36246cdb4b8594d68526c6d52162bd5e", func := "bitepoint/bitepointlaw07.AnswerMore", spec := "answerMore", unfollowed := true, recurses := true, plainKeys := false, apart := false, narrowed := true }
def AnswerMoreUptoSaid : Prop := answerMoreUptoRow.holds Try.pinned (OpenSpec.upto answerMoreSpec)

/-- 'bitepointlaw07.AnswerMissed', WHERE WHAT IT READS IS OF BULK AT MOST 1048576: true; the input reads as it did. -/
def answerMissedUptoRow : OpenClaim := { program := "ytifhdbgciehicaa", sum := "1a899bb7f712cd23c4899c963867b4ef36246cdb4b8594d68526c6d52162bd5e", func := "bitepoint/bitepointlaw07.AnswerMissed", spec := "answerMissed", unfollowed := true, recurses := true, plainKeys := false, apart := false, narrowed := true }
def AnswerMissedUptoSaid : Prop := answerMissedUptoRow.holds Try.pinned (OpenSpec.upto answerMissedSpec)

end Rows
end Go.Proofs.Ytifhdbgciehicaa

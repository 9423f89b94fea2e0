/-
  No cell of these rows narrows 'for every input' (looked for: loops, veiled, ifaces, maps, wideKeys, modest, calm, conditions, laid).
  DERIVED. THE GIVEN ROWS OF THIS SEAT. 13 by the template 'for every input the law returns true; each argument reads behind the call as it read before'; 0 by the template 'total and deterministic' (their statements: YtilnbgpogfabaaaTotals.lean).
  GIVEN WITH THE SEED: the statements are not yours to turn. If you find one false, say at which input.
  Laid BY PROGRAM, IN A SANDBOX (cutbox-rows.mjs): the forced cells as the released guide's own fill.sh prints them over the translation 54e13efdd8d352eb… (all of the seat's roots in one cut). By AI agents, Wed Nov 11 2026. No macro, syntax, notation, axiom, sorry.
-/
import Derived.Test.YtilnbgpogfabaaaChecked
import GoSem.Claim
import GoSem.ClaimJoined
import GoSem.ClaimMapViews
import Derived.JoinedTies
import Derived.KernelRfl
namespace Go.Proofs.Ytilnbgpogfabaaa
/- THE CELL 'sum', in the pinned program and in every row, IS THE sha256 OF THE DUMP (.gsa) THAT YtilnbgpogfabaaaProg.lean LOADS. Nothing in Lean hashes anything: it is a label: what it is worth is what the hold of that sum in a sandbox is worth. -/
noncomputable def Try.pinned : Pinned := { name := "ytilnbgpogfabaaa", sum := "54e13efdd8d352eb15c11f3a61199148f045f08e8cdf0724c652b1f7916b2807", checked := Try.checked }
namespace Rows
def none {H : Type} : Left H := { results := [], args := [] }

/-- 'bitepointlaw06.PaperChecks': WHATEVER THE INPUT: true; the input reads as it did. -/
def paperChecksSpec : ChangeSpec := { name := "paperChecks", fn := fun _ => fun
  | [d] => { results := [.lit (.bool true)], args := [d] }
  | _ => none }
def paperChecksRow : OpenClaim := { program := "ytilnbgpogfabaaa", sum := "54e13efdd8d352eb15c11f3a61199148f045f08e8cdf0724c652b1f7916b2807", func := "bitepoint/bitepointlaw06.PaperChecks", spec := "paperChecks", unfollowed := true, recurses := true, plainKeys := false, apart := false }
def PaperChecksSaid : Prop := paperChecksRow.holds Try.pinned (OpenSpec.ofChange paperChecksSpec)

/-- ITS FALSE NEIGHBOUR: 'it returns false'. Refute it at one input. -/
def paperChecksWrong : ChangeSpec := { name := "paperChecks", fn := fun _ => fun
  | [d] => { results := [.lit (.bool false)], args := [d] }
  | _ => none }
def PaperChecksWrongFalsely : Prop := paperChecksRow.holds Try.pinned (OpenSpec.ofChange paperChecksWrong)

/-- 'bitepointlaw06.PaperNumbers': WHATEVER THE INPUT: true; the input reads as it did. -/
def paperNumbersSpec : ChangeSpec := { name := "paperNumbers", fn := fun _ => fun
  | [d1, d2, d3] => { results := [.lit (.bool true)], args := [d1, d2, d3] }
  | _ => none }
def paperNumbersRow : OpenClaim := { program := "ytilnbgpogfabaaa", sum := "54e13efdd8d352eb15c11f3a61199148f045f08e8cdf0724c652b1f7916b2807", func := "bitepoint/bitepointlaw06.PaperNumbers", spec := "paperNumbers", unfollowed := true, recurses := true, plainKeys := false, apart := false }
def PaperNumbersSaid : Prop := paperNumbersRow.holds Try.pinned (OpenSpec.ofChange paperNumbersSpec)

/-- ITS FALSE NEIGHBOUR: 'it returns false'. Refute it at one input. -/
def paperNumbersWrong : ChangeSpec := { name := "paperNumbers", fn := fun _ => fun
  | [d1, d2, d3] => { results := [.lit (.bool false)], args := [d1, d2, d3] }
  | _ => none }
def PaperNumbersWrongFalsely : Prop := paperNumbersRow.holds Try.pinned (OpenSpec.ofChange paperNumbersWrong)

/-- 'bitepointlaw06.PaperDraws': WHATEVER THE INPUT: true; the input reads as it did. -/
def paperDrawsSpec : ChangeSpec := { name := "paperDraws", fn := fun _ => fun
  | [d1, d2, d3] => { results := [.lit (.bool true)], args := [d1, d2, d3] }
  | _ => none }
def paperDrawsRow : OpenClaim := { program := "ytilnbgpogfabaaa", sum := "54e13efdd8d352eb15c11f3a61199148f045f08e8cdf0724c652b1f7916b2807", func := "bitepoint/bitepointlaw06.PaperDraws", spec := "paperDraws", unfollowed := true, recurses := true, plainKeys := false, apart := false }
def PaperDrawsSaid : Prop := paperDrawsRow.holds Try.pinned (OpenSpec.ofChange paperDrawsSpec)

/-- ITS FALSE NEIGHBOUR: 'it returns false'. Refute it at one input. -/
def paperDrawsWrong : ChangeSpec := { name := "paperDraws", fn := fun _ => fun
  | [d1, d2, d3] => { results := [.lit (.bool false)], args := [d1, d2, d3] }
  | _ => none }
def PaperDrawsWrongFalsely : Prop := paperDrawsRow.holds Try.pinned (OpenSpec.ofChange paperDrawsWrong)

/-- 'bitepointlaw06.PaperAccepts': WHATEVER THE INPUT: true; the input reads as it did. -/
def paperAcceptsSpec : ChangeSpec := { name := "paperAccepts", fn := fun _ => fun
  | [d1, d2, d3] => { results := [.lit (.bool true)], args := [d1, d2, d3] }
  | _ => none }
def paperAcceptsRow : OpenClaim := { program := "ytilnbgpogfabaaa", sum := "54e13efdd8d352eb15c11f3a61199148f045f08e8cdf0724c652b1f7916b2807", func := "bitepoint/bitepointlaw06.PaperAccepts", spec := "paperAccepts", unfollowed := true, recurses := true, plainKeys := false, apart := false }
def PaperAcceptsSaid : Prop := paperAcceptsRow.holds Try.pinned (OpenSpec.ofChange paperAcceptsSpec)

/-- ITS FALSE NEIGHBOUR: 'it returns false'. Refute it at one input. -/
def paperAcceptsWrong : ChangeSpec := { name := "paperAccepts", fn := fun _ => fun
  | [d1, d2, d3] => { results := [.lit (.bool false)], args := [d1, d2, d3] }
  | _ => none }
def PaperAcceptsWrongFalsely : Prop := paperAcceptsRow.holds Try.pinned (OpenSpec.ofChange paperAcceptsWrong)

/-- 'bitepointlaw06.PaperKnown': WHATEVER THE INPUT: true; the input reads as it did. -/
def paperKnownSpec : ChangeSpec := { name := "paperKnown", fn := fun _ => fun
  | [] => { results := [.lit (.bool true)], args := [] }
  | _ => none }
def paperKnownRow : OpenClaim := { program := "ytilnbgpogfabaaa", sum := "54e13efdd8d352eb15c11f3a61199148f045f08e8cdf0724c652b1f7916b2807", func := "bitepoint/bitepointlaw06.PaperKnown", spec := "paperKnown", unfollowed := true, recurses := true, plainKeys := false, apart := false }
def PaperKnownSaid : Prop := paperKnownRow.holds Try.pinned (OpenSpec.ofChange paperKnownSpec)

/-- ITS FALSE NEIGHBOUR: 'it returns false'. Refute it at one input. -/
def paperKnownWrong : ChangeSpec := { name := "paperKnown", fn := fun _ => fun
  | [] => { results := [.lit (.bool false)], args := [] }
  | _ => none }
def PaperKnownWrongFalsely : Prop := paperKnownRow.holds Try.pinned (OpenSpec.ofChange paperKnownWrong)

/-- 'bitepointlaw06.PaperCovered': WHATEVER THE INPUT: true; the input reads as it did. -/
def paperCoveredSpec : ChangeSpec := { name := "paperCovered", fn := fun _ => fun
  | [d1, d2, d3] => { results := [.lit (.bool true)], args := [d1, d2, d3] }
  | _ => none }
def paperCoveredRow : OpenClaim := { program := "ytilnbgpogfabaaa", sum := "54e13efdd8d352eb15c11f3a61199148f045f08e8cdf0724c652b1f7916b2807", func := "bitepoint/bitepointlaw06.PaperCovered", spec := "paperCovered", unfollowed := true, recurses := true, plainKeys := false, apart := false }
def PaperCoveredSaid : Prop := paperCoveredRow.holds Try.pinned (OpenSpec.ofChange paperCoveredSpec)

/-- ITS FALSE NEIGHBOUR: 'it returns false'. Refute it at one input. -/
def paperCoveredWrong : ChangeSpec := { name := "paperCovered", fn := fun _ => fun
  | [d1, d2, d3] => { results := [.lit (.bool false)], args := [d1, d2, d3] }
  | _ => none }
def PaperCoveredWrongFalsely : Prop := paperCoveredRow.holds Try.pinned (OpenSpec.ofChange paperCoveredWrong)

/-- 'bitepointlaw06.PaperNumbered': WHATEVER THE INPUT: true; the input reads as it did. -/
def paperNumberedSpec : ChangeSpec := { name := "paperNumbered", fn := fun _ => fun
  | [d1, d2] => { results := [.lit (.bool true)], args := [d1, d2] }
  | _ => none }
def paperNumberedRow : OpenClaim := { program := "ytilnbgpogfabaaa", sum := "54e13efdd8d352eb15c11f3a61199148f045f08e8cdf0724c652b1f7916b2807", func := "bitepoint/bitepointlaw06.PaperNumbered", spec := "paperNumbered", unfollowed := true, recurses := true, plainKeys := false, apart := false }
def PaperNumberedSaid : Prop := paperNumberedRow.holds Try.pinned (OpenSpec.ofChange paperNumberedSpec)

/-- ITS FALSE NEIGHBOUR: 'it returns false'. Refute it at one input. -/
def paperNumberedWrong : ChangeSpec := { name := "paperNumbered", fn := fun _ => fun
  | [d1, d2] => { results := [.lit (.bool false)], args := [d1, d2] }
  | _ => none }
def PaperNumberedWrongFalsely : Prop := paperNumberedRow.holds Try.pinned (OpenSpec.ofChange paperNumberedWrong)

/-- 'bitepointlaw06.PaperAny': WHATEVER THE INPUT: true; the input reads as it did. -/
def paperAnySpec : ChangeSpec := { name := "paperAny", fn := fun _ => fun
  | [d1, d2] => { results := [.lit (.bool true)], args := [d1, d2] }
  | _ => none }
def paperAnyRow : OpenClaim := { program := "ytilnbgpogfabaaa", sum := "54e13efdd8d352eb15c11f3a61199148f045f08e8cdf0724c652b1f7916b2807", func := "bitepoint/bitepointlaw06.PaperAny", spec := "paperAny", unfollowed := true, recurses := true, plainKeys := false, apart := false }
def PaperAnySaid : Prop := paperAnyRow.holds Try.pinned (OpenSpec.ofChange paperAnySpec)

/-- ITS FALSE NEIGHBOUR: 'it returns false'. Refute it at one input. -/
def paperAnyWrong : ChangeSpec := { name := "paperAny", fn := fun _ => fun
  | [d1, d2] => { results := [.lit (.bool false)], args := [d1, d2] }
  | _ => none }
def PaperAnyWrongFalsely : Prop := paperAnyRow.holds Try.pinned (OpenSpec.ofChange paperAnyWrong)

/-- 'bitepointlaw06.PaperNeighbours': WHATEVER THE INPUT: true; the input reads as it did. -/
def paperNeighboursSpec : ChangeSpec := { name := "paperNeighbours", fn := fun _ => fun
  | [d1, d2, d3] => { results := [.lit (.bool true)], args := [d1, d2, d3] }
  | _ => none }
def paperNeighboursRow : OpenClaim := { program := "ytilnbgpogfabaaa", sum := "54e13efdd8d352eb15c11f3a61199148f045f08e8cdf0724c652b1f7916b2807", func := "bitepoint/bitepointlaw06.PaperNeighbours", spec := "paperNeighbours", unfollowed := true, recurses := true, plainKeys := false, apart := false }
def PaperNeighboursSaid : Prop := paperNeighboursRow.holds Try.pinned (OpenSpec.ofChange paperNeighboursSpec)

/-- ITS FALSE NEIGHBOUR: 'it returns false'. Refute it at one input. -/
def paperNeighboursWrong : ChangeSpec := { name := "paperNeighbours", fn := fun _ => fun
  | [d1, d2, d3] => { results := [.lit (.bool false)], args := [d1, d2, d3] }
  | _ => none }
def PaperNeighboursWrongFalsely : Prop := paperNeighboursRow.holds Try.pinned (OpenSpec.ofChange paperNeighboursWrong)

/-- 'bitepointlaw06.PaperRepeated': WHATEVER THE INPUT: true; the input reads as it did. -/
def paperRepeatedSpec : ChangeSpec := { name := "paperRepeated", fn := fun _ => fun
  | [d1, d2, d3] => { results := [.lit (.bool true)], args := [d1, d2, d3] }
  | _ => none }
def paperRepeatedRow : OpenClaim := { program := "ytilnbgpogfabaaa", sum := "54e13efdd8d352eb15c11f3a61199148f045f08e8cdf0724c652b1f7916b2807", func := "bitepoint/bitepointlaw06.PaperRepeated", spec := "paperRepeated", unfollowed := true, recurses := true, plainKeys := false, apart := false }
def PaperRepeatedSaid : Prop := paperRepeatedRow.holds Try.pinned (OpenSpec.ofChange paperRepeatedSpec)

/-- ITS FALSE NEIGHBOUR: 'it returns false'. Refute it at one input. -/
def paperRepeatedWrong : ChangeSpec := { name := "paperRepeated", fn := fun _ => fun
  | [d1, d2, d3] => { results := [.lit (.bool false)], args := [d1, d2, d3] }
  | _ => none }
def PaperRepeatedWrongFalsely : Prop := paperRepeatedRow.holds Try.pinned (OpenSpec.ofChange paperRepeatedWrong)

/-- 'bitepointlaw06.PaperFair': WHATEVER THE INPUT: true; the input reads as it did. -/
def paperFairSpec : ChangeSpec := { name := "paperFair", fn := fun _ => fun
  | [d1, d2, d3] => { results := [.lit (.bool true)], args := [d1, d2, d3] }
  | _ => none }
def paperFairRow : OpenClaim := { program := "ytilnbgpogfabaaa", sum := "54e13efdd8d352eb15c11f3a61199148f045f08e8cdf0724c652b1f7916b2807", func := "bitepoint/bitepointlaw06.PaperFair", spec := "paperFair", unfollowed := true, recurses := true, plainKeys := false, apart := false }
def PaperFairSaid : Prop := paperFairRow.holds Try.pinned (OpenSpec.ofChange paperFairSpec)

/-- ITS FALSE NEIGHBOUR: 'it returns false'. Refute it at one input. -/
def paperFairWrong : ChangeSpec := { name := "paperFair", fn := fun _ => fun
  | [d1, d2, d3] => { results := [.lit (.bool false)], args := [d1, d2, d3] }
  | _ => none }
def PaperFairWrongFalsely : Prop := paperFairRow.holds Try.pinned (OpenSpec.ofChange paperFairWrong)

/-- 'bitepointlaw06.PaperMore': WHATEVER THE INPUT: true; the input reads as it did. -/
def paperMoreSpec : ChangeSpec := { name := "paperMore", fn := fun _ => fun
  | [d1, d2, d3] => { results := [.lit (.bool true)], args := [d1, d2, d3] }
  | _ => none }
def paperMoreRow : OpenClaim := { program := "ytilnbgpogfabaaa", sum := "54e13efdd8d352eb15c11f3a61199148f045f08e8cdf0724c652b1f7916b2807", func := "bitepoint/bitepointlaw06.PaperMore", spec := "paperMore", unfollowed := true, recurses := true, plainKeys := false, apart := false }
def PaperMoreSaid : Prop := paperMoreRow.holds Try.pinned (OpenSpec.ofChange paperMoreSpec)

/-- ITS FALSE NEIGHBOUR: 'it returns false'. Refute it at one input. -/
def paperMoreWrong : ChangeSpec := { name := "paperMore", fn := fun _ => fun
  | [d1, d2, d3] => { results := [.lit (.bool false)], args := [d1, d2, d3] }
  | _ => none }
def PaperMoreWrongFalsely : Prop := paperMoreRow.holds Try.pinned (OpenSpec.ofChange paperMoreWrong)

/-- 'bitepointlaw06.PaperHarder': WHATEVER THE INPUT: true; the input reads as it did. -/
def paperHarderSpec : ChangeSpec := { name := "paperHarder", fn := fun _ => fun
  | [d1, d2] => { results := [.lit (.bool true)], args := [d1, d2] }
  | _ => none }
def paperHarderRow : OpenClaim := { program := "ytilnbgpogfabaaa", sum := "54e13efdd8d352eb15c11f3a61199148f045f08e8cdf0724c652b1f7916b2807", func := "bitepoint/bitepointlaw06.PaperHarder", spec := "paperHarder", unfollowed := true, recurses := true, plainKeys := false, apart := false }
def PaperHarderSaid : Prop := paperHarderRow.holds Try.pinned (OpenSpec.ofChange paperHarderSpec)

/-- ITS FALSE NEIGHBOUR: 'it returns false'. Refute it at one input. -/
def paperHarderWrong : ChangeSpec := { name := "paperHarder", fn := fun _ => fun
  | [d1, d2] => { results := [.lit (.bool false)], args := [d1, d2] }
  | _ => none }
def PaperHarderWrongFalsely : Prop := paperHarderRow.holds Try.pinned (OpenSpec.ofChange paperHarderWrong)

/- THE SECOND FORM. 'bulk': how many values and letters a reading holds, each counted each time it is reached (what is shared counts as often as it is met; a slice's spare places count too). A statement '..UptoSaid' is the law's where the arguments, and the package variables that the reading takes, are together of bulk at most 1048576: NARROWER than '..Said'. Prove '..Said' where nothing that the law and all that it calls make is longer than what came in: it says more and counts as full. Else prove '..UptoSaid'. A law counts once. -/
mutual
def uptoBulk {H : Type} : DataW H → Nat
  | .lit (.string bytes) => bytes.length + 1
  | .lit _ => 1
  | .nil => 1
  | .ptr d => uptoBulk d + 1
  | .slice elems spare => uptoBulkAll elems + uptoBulkAll spare + 1
  | .agg parts => uptoBulkAll parts + 1
  | .iface _ d => uptoBulk d + 1
  | .map entries => uptoBulkEntries entries + 1
  | .held _ => 1
def uptoBulkAll {H : Type} : List (DataW H) → Nat
  | [] => 0
  | d :: r => uptoBulk d + uptoBulkAll r
def uptoBulkEntries {H : Type} : List (Lit × DataW H) → Nat
  | [] => 0
  | x :: r => uptoBulkEntry x + uptoBulkEntries r
def uptoBulkEntry {H : Type} : Lit × DataW H → Nat
  | (.string bytes, d) => bytes.length + uptoBulk d + 1
  | (_, d) => uptoBulk d + 1
 end
def uptoSmall : (H : Type) → List (DataW H) → Bool := fun _ ds => decide (uptoBulkAll ds ≤ 1048576)
def OpenSpec.upto (s : _root_.Go.ChangeSpec) : _root_.Go.OpenSpec := { _root_.Go.OpenSpec.ofChange s with cond := some uptoSmall }

/-- 'bitepointlaw06.PaperChecks', WHERE WHAT IT READS IS OF BULK AT MOST 1048576: true; the input reads as it did. -/
def paperChecksUptoRow : OpenClaim := { program := "ytilnbgpogfabaaa", sum := "54e13efdd8d352eb15c11f3a61199148f045f08e8cdf0724c652b1f7916b2807", func := "bitepoint/bitepointlaw06.PaperChecks", spec := "paperChecks", unfollowed := true, recurses := true, plainKeys := false, apart := false, narrowed := true }
def PaperChecksUptoSaid : Prop := paperChecksUptoRow.holds Try.pinned (OpenSpec.upto paperChecksSpec)

/-- 'bitepointlaw06.PaperNumbers', WHERE WHAT IT READS IS OF BULK AT MOST 1048576: true; the input reads as it did. -/
def paperNumbersUptoRow : OpenClaim := { program := "ytilnbgpogfabaaa", sum := "54e13efdd8d352eb15c11f3a61199148f045f08e8cdf0724c652b1f7916b2807", func := "bitepoint/bitepointlaw06.PaperNumbers", spec := "paperNumbers", unfollowed := true, recurses := true, plainKeys := false, apart := false, narrowed := true }
def PaperNumbersUptoSaid : Prop := paperNumbersUptoRow.holds Try.pinned (OpenSpec.upto paperNumbersSpec)

/-- 'bitepointlaw06.PaperDraws', WHERE WHAT IT READS IS OF BULK AT MOST 1048576: true; the input reads as it did. -/
def paperDrawsUptoRow : OpenClaim := { program := "ytilnbgpogfabaaa", sum := "54e13efdd8d352eb15c11f3a61199148f045f08e8cdf0724c652b1f7916b2807", func := "bitepoint/bitepointlaw06.PaperDraws", spec := "paperDraws", unfollowed := true, recurses := true, plainKeys := false, apart := false, narrowed := true }
def PaperDrawsUptoSaid : Prop := paperDrawsUptoRow.holds Try.pinned (OpenSpec.upto paperDrawsSpec)

/-- 'bitepointlaw06.PaperAccepts', WHERE WHAT IT READS IS OF BULK AT MOST 1048576: true; the input reads as it did. -/
def paperAcceptsUptoRow : OpenClaim := { program := "ytilnbgpogfabaaa", sum := "54e13efdd8d352eb15c11f3a61199148f045f08e8cdf0724c652b1f7916b2807", func := "bitepoint/bitepointlaw06.PaperAccepts", spec := "paperAccepts", unfollowed := true, recurses := true, plainKeys := false, apart := false, narrowed := true }
def PaperAcceptsUptoSaid : Prop := paperAcceptsUptoRow.holds Try.pinned (OpenSpec.upto paperAcceptsSpec)

/-- 'bitepointlaw06.PaperKnown', WHERE WHAT IT READS IS OF BULK AT MOST 1048576: true; the input reads as it did. -/
def paperKnownUptoRow : OpenClaim := { program := "ytilnbgpogfabaaa", sum := "54e13efdd8d352eb15c11f3a61199148f045f08e8cdf0724c652b1f7916b2807", func := "bitepoint/bitepointlaw06.PaperKnown", spec := "paperKnown", unfollowed := true, recurses := true, plainKeys := false, apart := false, narrowed := true }
def PaperKnownUptoSaid : Prop := paperKnownUptoRow.holds Try.pinned (OpenSpec.upto paperKnownSpec)

/-- 'bitepointlaw06.PaperCovered', WHERE WHAT IT READS IS OF BULK AT MOST 1048576: true; the input reads as it did. -/
def paperCoveredUptoRow : OpenClaim := { program := "ytilnbgpogfabaaa", sum := "54e13efdd8d352eb15c11f3a61199148f045f08e8cdf0724c652b1f7916b2807", func := "bitepoint/bitepointlaw06.PaperCovered", spec := "paperCovered", unfollowed := true, recurses := true, plainKeys := false, apart := false, narrowed := true }
def PaperCoveredUptoSaid : Prop := paperCoveredUptoRow.holds Try.pinned (OpenSpec.upto paperCoveredSpec)

/-- 'bitepointlaw06.PaperNumbered', WHERE WHAT IT READS IS OF BULK AT MOST 1048576: true; the input reads as it did. -/
def paperNumberedUptoRow : OpenClaim := { program := "ytilnbgpogfabaaa", sum := "54e13efdd8d352eb15c11f3a61199148f045f08e8cdf0724c652b1f7916b2807", func := "bitepoint/bitepointlaw06.PaperNumbered", spec := "paperNumbered", unfollowed := true, recurses := true, plainKeys := false, apart := false, narrowed := true }
def PaperNumberedUptoSaid : Prop := paperNumberedUptoRow.holds Try.pinned (OpenSpec.upto paperNumberedSpec)

/-- 'bitepointlaw06.PaperAny', WHERE WHAT IT READS IS OF BULK AT MOST 1048576: true; the input reads as it did. -/
def paperAnyUptoRow : OpenClaim := { program := "ytilnbgpogfabaaa", sum := "54e13efdd8d352eb15c11f3a61199148f045f08e8cdf0724c652b1f7916b2807", func := "bitepoint/bitepointlaw06.PaperAny", spec := "paperAny", unfollowed := true, recurses := true, plainKeys := false, apart := false, narrowed := true }
def PaperAnyUptoSaid : Prop := paperAnyUptoRow.holds Try.pinned (OpenSpec.upto paperAnySpec)

/-- 'bitepointlaw06.PaperNeighbours', WHERE WHAT IT READS IS OF BULK AT MOST 1048576: true; the input reads as it did. -/
def paperNeighboursUptoRow : OpenClaim := { program := "ytilnbgpogfabaaa", sum := "54e13efdd8d352eb15c11f3a61199148f045f08e8cdf0724c652b1f7916b2807", func := "bitepoint/bitepointlaw06.PaperNeighbours", spec := "paperNeighbours", unfollowed := true, recurses := true, plainKeys := false, apart := false, narrowed := true }
def PaperNeighboursUptoSaid : Prop := paperNeighboursUptoRow.holds Try.pinned (OpenSpec.upto paperNeighboursSpec)

/-- 'bitepointlaw06.PaperRepeated', WHERE WHAT IT READS IS OF BULK AT MOST 1048576: true; the input reads as it did. -/
def paperRepeatedUptoRow : OpenClaim := { program := "ytilnbgpogfabaaa", sum := "54e13efdd8d352eb15c11f3a61199148f045f08e8cdf0724c652b1f7916b2807", func := "bitepoint/bitepointlaw06.PaperRepeated", spec := "paperRepeated", unfollowed := true, recurses := true, plainKeys := false, apart := false, narrowed := true }
def PaperRepeatedUptoSaid : Prop := paperRepeatedUptoRow.holds Try.pinned (OpenSpec.upto paperRepeatedSpec)

/-- 'bitepointlaw06.PaperFair', WHERE WHAT IT READS IS OF BULK AT MOST 1048576: true; the input reads as it did. -/
def paperFairUptoRow : OpenClaim := { program := "ytilnbgpogfabaaa", sum := "54e13efdd8d352eb15c11f3a61199148f045f08e8cdf0724c652b1f7916b2807", func := "bitepoint/bitepointlaw06.PaperFair", spec := "paperFair", unfollowed := true, recurses := true, plainKeys := false, apart := false, narrowed := true }
def PaperFairUptoSaid : Prop := paperFairUptoRow.holds Try.pinned (OpenSpec.upto paperFairSpec)

/-- 'bitepointlaw06.PaperMore', WHERE WHAT IT READS IS OF BULK AT MOST 1048576: true; the input reads as it did. -/
def paperMoreUptoRow : OpenClaim := { program := "ytilnbgpogfabaaa", sum := "54e13efdd8d352eb15c11f3a61199148f045f08e8cdf0724c652b1f7916b2807", func := "bitepoint/bitepointlaw06.PaperMore", spec := "paperMore", unfollowed := true, recurses := true, plainKeys := false, apart := false, narrowed := true }
def PaperMoreUptoSaid : Prop := paperMoreUptoRow.holds Try.pinned (OpenSpec.upto paperMoreSpec)

/-- 'bitepointlaw06.PaperHarder', WHERE WHAT IT READS IS OF BULK AT MOST 1048576: true; the input reads as it did. -/
def paperHarderUptoRow : OpenClaim := { program := "ytilnbgpogfabaaa", sum := "54e13efdd8d352eb15c11f3a61199148f045f08e8cdf0724c652b1f7916b2807", func := "bitepoint/bitepointlaw06.PaperHarder", spec := "paperHarder", unfollowed := true, recurses := true, plainKeys := false, apart := false, narrowed := true }
def PaperHarderUptoSaid : Prop := paperHarderUptoRow.holds Try.pinned (OpenSpec.upto paperHarderSpec)

end Rows
end Go.Proofs.Ytilnbgpogfabaaa

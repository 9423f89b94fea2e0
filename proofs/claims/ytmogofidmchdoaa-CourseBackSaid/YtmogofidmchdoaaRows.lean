/-
  No cell of these rows narrows 'for every input' (looked for: loops, veiled, ifaces, maps, wideKeys, modest, calm, conditions, laid).
  DERIVED. THE GIVEN ROWS OF THIS SEAT. 11 by the template 'for every input the law returns true; each argument reads behind the call as it read before'; 0 by the template 'total and deterministic' (their statements: YtmogofidmchdoaaTotals.lean).
  GIVEN WITH THE SEED: the statements are not yours to turn. If you find one false, say at which input.
  Laid BY PROGRAM, IN A SANDBOX (cutbox-rows.mjs): the forced cells as the released guide's own fill.sh prints them over the translation 669d80a354f7cb61… (all of the seat's roots in one cut). By AI agents, Wed Nov 11 2026. No macro, syntax, notation, axiom, sorry.
-/
import Derived.Test.YtmogofidmchdoaaChecked
import GoSem.Claim
import GoSem.ClaimJoined
import GoSem.ClaimMapViews
import Derived.JoinedTies
import Derived.KernelRfl
namespace Go.Proofs.Ytmogofidmchdoaa
/- THE CELL 'sum', in the pinned program and in every row, IS THE sha256 OF THE DUMP (.gsa) THAT YtmogofidmchdoaaProg.lean LOADS. Nothing in Lean hashes anything: it is a label: what it is worth is what the hold of that sum in a sandbox is worth. -/
noncomputable def Try.pinned : Pinned := { name := "ytmogofidmchdoaa", sum := "669d80a354f7cb61dbaf2d9e499682dc36b5ef2a4ff8fd199d9d708377984ad4", checked := Try.checked }
namespace Rows
def none {H : Type} : Left H := { results := [], args := [] }

/-- 'bitepointlaw09.CourseAparts': WHATEVER THE INPUT: true; the input reads as it did. -/
def courseApartsSpec : ChangeSpec := { name := "courseAparts", fn := fun _ => fun
  | [d1, d2] => { results := [.lit (.bool true)], args := [d1, d2] }
  | _ => none }
def courseApartsRow : OpenClaim := { program := "ytmogofidmchdoaa", sum := "669d80a354f7cb61dbaf2d9e499682dc36b5ef2a4ff8fd199d9d708377984ad4", func := "bitepoint/bitepointlaw09.CourseAparts", spec := "courseAparts", unfollowed := true, recurses := true, apart := false }
def CourseApartsSaid : Prop := courseApartsRow.holds Try.pinned (OpenSpec.ofChange courseApartsSpec)

/-- ITS FALSE NEIGHBOUR: 'it returns false'. Refute it at one input. -/
def courseApartsWrong : ChangeSpec := { name := "courseAparts", fn := fun _ => fun
  | [d1, d2] => { results := [.lit (.bool false)], args := [d1, d2] }
  | _ => none }
def CourseApartsWrongFalsely : Prop := courseApartsRow.holds Try.pinned (OpenSpec.ofChange courseApartsWrong)

/-- 'bitepointlaw09.CoursePicks': WHATEVER THE INPUT: true; the input reads as it did. -/
def coursePicksSpec : ChangeSpec := { name := "coursePicks", fn := fun _ => fun
  | [d1, d2, d3] => { results := [.lit (.bool true)], args := [d1, d2, d3] }
  | _ => none }
def coursePicksRow : OpenClaim := { program := "ytmogofidmchdoaa", sum := "669d80a354f7cb61dbaf2d9e499682dc36b5ef2a4ff8fd199d9d708377984ad4", func := "bitepoint/bitepointlaw09.CoursePicks", spec := "coursePicks", unfollowed := true, recurses := true, apart := false }
def CoursePicksSaid : Prop := coursePicksRow.holds Try.pinned (OpenSpec.ofChange coursePicksSpec)

/-- ITS FALSE NEIGHBOUR: 'it returns false'. Refute it at one input. -/
def coursePicksWrong : ChangeSpec := { name := "coursePicks", fn := fun _ => fun
  | [d1, d2, d3] => { results := [.lit (.bool false)], args := [d1, d2, d3] }
  | _ => none }
def CoursePicksWrongFalsely : Prop := coursePicksRow.holds Try.pinned (OpenSpec.ofChange coursePicksWrong)

/-- 'bitepointlaw09.CourseKnown': WHATEVER THE INPUT: true; the input reads as it did. -/
def courseKnownSpec : ChangeSpec := { name := "courseKnown", fn := fun _ => fun
  | [] => { results := [.lit (.bool true)], args := [] }
  | _ => none }
def courseKnownRow : OpenClaim := { program := "ytmogofidmchdoaa", sum := "669d80a354f7cb61dbaf2d9e499682dc36b5ef2a4ff8fd199d9d708377984ad4", func := "bitepoint/bitepointlaw09.CourseKnown", spec := "courseKnown", unfollowed := true, recurses := true, apart := false }
def CourseKnownSaid : Prop := courseKnownRow.holds Try.pinned (OpenSpec.ofChange courseKnownSpec)

/-- ITS FALSE NEIGHBOUR: 'it returns false'. Refute it at one input. -/
def courseKnownWrong : ChangeSpec := { name := "courseKnown", fn := fun _ => fun
  | [] => { results := [.lit (.bool false)], args := [] }
  | _ => none }
def CourseKnownWrongFalsely : Prop := courseKnownRow.holds Try.pinned (OpenSpec.ofChange courseKnownWrong)

/-- 'bitepointlaw09.CourseEqual': WHATEVER THE INPUT: true; the input reads as it did. -/
def courseEqualSpec : ChangeSpec := { name := "courseEqual", fn := fun _ => fun
  | [d1, d2, d3] => { results := [.lit (.bool true)], args := [d1, d2, d3] }
  | _ => none }
def courseEqualRow : OpenClaim := { program := "ytmogofidmchdoaa", sum := "669d80a354f7cb61dbaf2d9e499682dc36b5ef2a4ff8fd199d9d708377984ad4", func := "bitepoint/bitepointlaw09.CourseEqual", spec := "courseEqual", unfollowed := true, recurses := true, apart := false }
def CourseEqualSaid : Prop := courseEqualRow.holds Try.pinned (OpenSpec.ofChange courseEqualSpec)

/-- ITS FALSE NEIGHBOUR: 'it returns false'. Refute it at one input. -/
def courseEqualWrong : ChangeSpec := { name := "courseEqual", fn := fun _ => fun
  | [d1, d2, d3] => { results := [.lit (.bool false)], args := [d1, d2, d3] }
  | _ => none }
def CourseEqualWrongFalsely : Prop := courseEqualRow.holds Try.pinned (OpenSpec.ofChange courseEqualWrong)

/-- 'bitepointlaw09.CourseLeast': WHATEVER THE INPUT: true; the input reads as it did. -/
def courseLeastSpec : ChangeSpec := { name := "courseLeast", fn := fun _ => fun
  | [d1, d2, d3] => { results := [.lit (.bool true)], args := [d1, d2, d3] }
  | _ => none }
def courseLeastRow : OpenClaim := { program := "ytmogofidmchdoaa", sum := "669d80a354f7cb61dbaf2d9e499682dc36b5ef2a4ff8fd199d9d708377984ad4", func := "bitepoint/bitepointlaw09.CourseLeast", spec := "courseLeast", unfollowed := true, recurses := true, apart := false }
def CourseLeastSaid : Prop := courseLeastRow.holds Try.pinned (OpenSpec.ofChange courseLeastSpec)

/-- ITS FALSE NEIGHBOUR: 'it returns false'. Refute it at one input. -/
def courseLeastWrong : ChangeSpec := { name := "courseLeast", fn := fun _ => fun
  | [d1, d2, d3] => { results := [.lit (.bool false)], args := [d1, d2, d3] }
  | _ => none }
def CourseLeastWrongFalsely : Prop := courseLeastRow.holds Try.pinned (OpenSpec.ofChange courseLeastWrong)

/-- 'bitepointlaw09.CourseSpans': WHATEVER THE INPUT: true; the input reads as it did. -/
def courseSpansSpec : ChangeSpec := { name := "courseSpans", fn := fun _ => fun
  | [d1, d2, d3] => { results := [.lit (.bool true)], args := [d1, d2, d3] }
  | _ => none }
def courseSpansRow : OpenClaim := { program := "ytmogofidmchdoaa", sum := "669d80a354f7cb61dbaf2d9e499682dc36b5ef2a4ff8fd199d9d708377984ad4", func := "bitepoint/bitepointlaw09.CourseSpans", spec := "courseSpans", unfollowed := true, recurses := true, apart := false }
def CourseSpansSaid : Prop := courseSpansRow.holds Try.pinned (OpenSpec.ofChange courseSpansSpec)

/-- ITS FALSE NEIGHBOUR: 'it returns false'. Refute it at one input. -/
def courseSpansWrong : ChangeSpec := { name := "courseSpans", fn := fun _ => fun
  | [d1, d2, d3] => { results := [.lit (.bool false)], args := [d1, d2, d3] }
  | _ => none }
def CourseSpansWrongFalsely : Prop := courseSpansRow.holds Try.pinned (OpenSpec.ofChange courseSpansWrong)

/-- 'bitepointlaw09.CourseDoubts': WHATEVER THE INPUT: true; the input reads as it did. -/
def courseDoubtsSpec : ChangeSpec := { name := "courseDoubts", fn := fun _ => fun
  | [d1, d2, d3] => { results := [.lit (.bool true)], args := [d1, d2, d3] }
  | _ => none }
def courseDoubtsRow : OpenClaim := { program := "ytmogofidmchdoaa", sum := "669d80a354f7cb61dbaf2d9e499682dc36b5ef2a4ff8fd199d9d708377984ad4", func := "bitepoint/bitepointlaw09.CourseDoubts", spec := "courseDoubts", unfollowed := true, recurses := true, apart := false }
def CourseDoubtsSaid : Prop := courseDoubtsRow.holds Try.pinned (OpenSpec.ofChange courseDoubtsSpec)

/-- ITS FALSE NEIGHBOUR: 'it returns false'. Refute it at one input. -/
def courseDoubtsWrong : ChangeSpec := { name := "courseDoubts", fn := fun _ => fun
  | [d1, d2, d3] => { results := [.lit (.bool false)], args := [d1, d2, d3] }
  | _ => none }
def CourseDoubtsWrongFalsely : Prop := courseDoubtsRow.holds Try.pinned (OpenSpec.ofChange courseDoubtsWrong)

/-- 'bitepointlaw09.CourseShared': WHATEVER THE INPUT: true; the input reads as it did. -/
def courseSharedSpec : ChangeSpec := { name := "courseShared", fn := fun _ => fun
  | [d1, d2, d3] => { results := [.lit (.bool true)], args := [d1, d2, d3] }
  | _ => none }
def courseSharedRow : OpenClaim := { program := "ytmogofidmchdoaa", sum := "669d80a354f7cb61dbaf2d9e499682dc36b5ef2a4ff8fd199d9d708377984ad4", func := "bitepoint/bitepointlaw09.CourseShared", spec := "courseShared", unfollowed := true, recurses := true, apart := false }
def CourseSharedSaid : Prop := courseSharedRow.holds Try.pinned (OpenSpec.ofChange courseSharedSpec)

/-- ITS FALSE NEIGHBOUR: 'it returns false'. Refute it at one input. -/
def courseSharedWrong : ChangeSpec := { name := "courseShared", fn := fun _ => fun
  | [d1, d2, d3] => { results := [.lit (.bool false)], args := [d1, d2, d3] }
  | _ => none }
def CourseSharedWrongFalsely : Prop := courseSharedRow.holds Try.pinned (OpenSpec.ofChange courseSharedWrong)

/-- 'bitepointlaw09.CourseLess': WHATEVER THE INPUT: true; the input reads as it did. -/
def courseLessSpec : ChangeSpec := { name := "courseLess", fn := fun _ => fun
  | [d1, d2, d3] => { results := [.lit (.bool true)], args := [d1, d2, d3] }
  | _ => none }
def courseLessRow : OpenClaim := { program := "ytmogofidmchdoaa", sum := "669d80a354f7cb61dbaf2d9e499682dc36b5ef2a4ff8fd199d9d708377984ad4", func := "bitepoint/bitepointlaw09.CourseLess", spec := "courseLess", unfollowed := true, recurses := true, apart := false }
def CourseLessSaid : Prop := courseLessRow.holds Try.pinned (OpenSpec.ofChange courseLessSpec)

/-- ITS FALSE NEIGHBOUR: 'it returns false'. Refute it at one input. -/
def courseLessWrong : ChangeSpec := { name := "courseLess", fn := fun _ => fun
  | [d1, d2, d3] => { results := [.lit (.bool false)], args := [d1, d2, d3] }
  | _ => none }
def CourseLessWrongFalsely : Prop := courseLessRow.holds Try.pinned (OpenSpec.ofChange courseLessWrong)

/-- 'bitepointlaw09.CourseBack': WHATEVER THE INPUT: true; the input reads as it did. -/
def courseBackSpec : ChangeSpec := { name := "courseBack", fn := fun _ => fun
  | [d1, d2] => { results := [.lit (.bool true)], args := [d1, d2] }
  | _ => none }
def courseBackRow : OpenClaim := { program := "ytmogofidmchdoaa", sum := "669d80a354f7cb61dbaf2d9e499682dc36b5ef2a4ff8fd199d9d708377984ad4", func := "bitepoint/bitepointlaw09.CourseBack", spec := "courseBack", unfollowed := true, recurses := true, apart := false }
def CourseBackSaid : Prop := courseBackRow.holds Try.pinned (OpenSpec.ofChange courseBackSpec)

/-- ITS FALSE NEIGHBOUR: 'it returns false'. Refute it at one input. -/
def courseBackWrong : ChangeSpec := { name := "courseBack", fn := fun _ => fun
  | [d1, d2] => { results := [.lit (.bool false)], args := [d1, d2] }
  | _ => none }
def CourseBackWrongFalsely : Prop := courseBackRow.holds Try.pinned (OpenSpec.ofChange courseBackWrong)

/-- 'bitepointlaw09.CourseHard': WHATEVER THE INPUT: true; the input reads as it did. -/
def courseHardSpec : ChangeSpec := { name := "courseHard", fn := fun _ => fun
  | [d1, d2, d3] => { results := [.lit (.bool true)], args := [d1, d2, d3] }
  | _ => none }
def courseHardRow : OpenClaim := { program := "ytmogofidmchdoaa", sum := "669d80a354f7cb61dbaf2d9e499682dc36b5ef2a4ff8fd199d9d708377984ad4", func := "bitepoint/bitepointlaw09.CourseHard", spec := "courseHard", unfollowed := true, recurses := true, apart := false }
def CourseHardSaid : Prop := courseHardRow.holds Try.pinned (OpenSpec.ofChange courseHardSpec)

/-- ITS FALSE NEIGHBOUR: 'it returns false'. Refute it at one input. -/
def courseHardWrong : ChangeSpec := { name := "courseHard", fn := fun _ => fun
  | [d1, d2, d3] => { results := [.lit (.bool false)], args := [d1, d2, d3] }
  | _ => none }
def CourseHardWrongFalsely : Prop := courseHardRow.holds Try.pinned (OpenSpec.ofChange courseHardWrong)

/- THE SECOND FORM. 'bulk': how many values and letters a reading holds, each counted each time it is reached (what is shared counts as often as it is met; a slice's spare places count too). A statement '..UptoSaid' is the law's where the arguments, and the package variables that the reading takes, are together of bulk at most 1048576: NARROWER than '..Said'. Prove '..Said' where nothing that the law and all that it calls make is longer than what came in: it says more and counts as full. Else prove '..UptoSaid'. A law counts once. -/
mutual
def uptoBulk {H : Type} : DataW H → Nat
  | .lit (.string bytes) => bytes.length + 1
  | .lit _ => 1
  | .nil => 1
  | .ptr d => uptoBulk d + 1
  | .slice elems spare => uptoBulkAll elems + uptoBulkAll spare + 1
  | .agg parts => uptoBulkAll parts + 1
  | .iface _ d => uptoBulk d + 1
  | .map entries => uptoBulkEntries entries + 1
  | .held _ => 1
def uptoBulkAll {H : Type} : List (DataW H) → Nat
  | [] => 0
  | d :: r => uptoBulk d + uptoBulkAll r
def uptoBulkEntries {H : Type} : List (Lit × DataW H) → Nat
  | [] => 0
  | x :: r => uptoBulkEntry x + uptoBulkEntries r
def uptoBulkEntry {H : Type} : Lit × DataW H → Nat
  | (.string bytes, d) => bytes.length + uptoBulk d + 1
  | (_, d) => uptoBulk d + 1
 end
def uptoSmall : (H : Type) → List (DataW H) → Bool := fun _ ds => decide (uptoBulkAll ds ≤ 1048576)
def OpenSpec.upto (s : _root_.Go.ChangeSpec) : _root_.Go.OpenSpec := { _root_.Go.OpenSpec.ofChange s with cond := some uptoSmall }

/-- 'bitepointlaw09.CourseAparts', WHERE WHAT IT READS IS OF BULK AT MOST 1048576: true; the input reads as it did. -/
def courseApartsUptoRow : OpenClaim := { program := "ytmogofidmchdoaa", sum := "669d80a354f7cb61dbaf2d9e499682dc36b5ef2a4ff8fd199d9d708377984ad4", func := "bitepoint/bitepointlaw09.CourseAparts", spec := "courseAparts", unfollowed := true, recurses := true, apart := false, narrowed := true }
def CourseApartsUptoSaid : Prop := courseApartsUptoRow.holds Try.pinned (OpenSpec.upto courseApartsSpec)

/-- 'bitepointlaw09.CoursePicks', WHERE WHAT IT READS IS OF BULK AT MOST 1048576: true; the input reads as it did. -/
def coursePicksUptoRow : OpenClaim := { program := "ytmogofidmchdoaa", sum := "669d80a354f7cb61dbaf2d9e499682dc36b5ef2a4ff8fd199d9d708377984ad4", func := "bitepoint/bitepointlaw09.CoursePicks", spec := "coursePicks", unfollowed := true, recurses := true, apart := false, narrowed := true }
def CoursePicksUptoSaid : Prop := coursePicksUptoRow.holds Try.pinned (OpenSpec.upto coursePicksSpec)

/-- 'bitepointlaw09.CourseKnown', WHERE WHAT IT READS IS OF BULK AT MOST 1048576: true; the input reads as it did. -/
def courseKnownUptoRow : OpenClaim := { program := "ytmogofidmchdoaa", sum := "669d80a354f7cb61dbaf2d9e499682dc36b5ef2a4ff8fd199d9d708377984ad4", func := "bitepoint/bitepointlaw09.CourseKnown", spec := "courseKnown", unfollowed := true, recurses := true, apart := false, narrowed := true }
def CourseKnownUptoSaid : Prop := courseKnownUptoRow.holds Try.pinned (OpenSpec.upto courseKnownSpec)

/-- 'bitepointlaw09.CourseEqual', WHERE WHAT IT READS IS OF BULK AT MOST 1048576: true; the input reads as it did. -/
def courseEqualUptoRow : OpenClaim := { program := "ytmogofidmchdoaa", sum := "669d80a354f7cb61dbaf2d9e499682dc36b5ef2a4ff8fd199d9d708377984ad4", func := "bitepoint/bitepointlaw09.CourseEqual", spec := "courseEqual", unfollowed := true, recurses := true, apart := false, narrowed := true }
def CourseEqualUptoSaid : Prop := courseEqualUptoRow.holds Try.pinned (OpenSpec.upto courseEqualSpec)

/-- 'bitepointlaw09.CourseLeast', WHERE WHAT IT READS IS OF BULK AT MOST 1048576: true; the input reads as it did. -/
def courseLeastUptoRow : OpenClaim := { program := "ytmogofidmchdoaa", sum := "669d80a354f7cb61dbaf2d9e499682dc36b5ef2a4ff8fd199d9d708377984ad4", func := "bitepoint/bitepointlaw09.CourseLeast", spec := "courseLeast", unfollowed := true, recurses := true, apart := false, narrowed := true }
def CourseLeastUptoSaid : Prop := courseLeastUptoRow.holds Try.pinned (OpenSpec.upto courseLeastSpec)

/-- 'bitepointlaw09.CourseSpans', WHERE WHAT IT READS IS OF BULK AT MOST 1048576: true; the input reads as it did. -/
def courseSpansUptoRow : OpenClaim := { program := "ytmogofidmchdoaa", sum := "669d80a354f7cb61dbaf2d9e499682dc36b5ef2a4ff8fd199d9d708377984ad4", func := "bitepoint/bitepointlaw09.CourseSpans", spec := "courseSpans", unfollowed := true, recurses := true, apart := false, narrowed := true }
def CourseSpansUptoSaid : Prop := courseSpansUptoRow.holds Try.pinned (OpenSpec.upto courseSpansSpec)

/-- 'bitepointlaw09.CourseDoubts', WHERE WHAT IT READS IS OF BULK AT MOST 1048576: true; the input reads as it did. -/
def courseDoubtsUptoRow : OpenClaim := { program := "ytmogofidmchdoaa", sum := "669d80a354f7cb61dbaf2d9e499682dc36b5ef2a4ff8fd199d9d708377984ad4", func := "bitepoint/bitepointlaw09.CourseDoubts", spec := "courseDoubts", unfollowed := true, recurses := true, apart := false, narrowed := true }
def CourseDoubtsUptoSaid : Prop := courseDoubtsUptoRow.holds Try.pinned (OpenSpec.upto courseDoubtsSpec)

/-- 'bitepointlaw09.CourseShared', WHERE WHAT IT READS IS OF BULK AT MOST 1048576: true; the input reads as it did. -/
def courseSharedUptoRow : OpenClaim := { program := "ytmogofidmchdoaa", sum := "669d80a354f7cb61dbaf2d9e499682dc36b5ef2a4ff8fd199d9d708377984ad4", func := "bitepoint/bitepointlaw09.CourseShared", spec := "courseShared", unfollowed := true, recurses := true, apart := false, narrowed := true }
def CourseSharedUptoSaid : Prop := courseSharedUptoRow.holds Try.pinned (OpenSpec.upto courseSharedSpec)

/-- 'bitepointlaw09.CourseLess', WHERE WHAT IT READS IS OF BULK AT MOST 1048576: true; the input reads as it did. -/
def courseLessUptoRow : OpenClaim := { program := "ytmogofidmchdoaa", sum := "669d80a354f7cb61dbaf2d9e499682dc36b5ef2a4ff8fd199d9d708377984ad4", func := "bitepoint/bitepointlaw09.CourseLess", spec := "courseLess", unfollowed := true, recurses := true, apart := false, narrowed := true }
def CourseLessUptoSaid : Prop := courseLessUptoRow.holds Try.pinned (OpenSpec.upto courseLessSpec)

/-- 'bitepointlaw09.CourseBack', WHERE WHAT IT READS IS OF BULK AT MOST 1048576: true; the input reads as it did. -/
def courseBackUptoRow : OpenClaim := { program := "ytmogofidmchdoaa", sum := "669d80a354f7cb61dbaf2d9e499682dc36b5ef2a4ff8fd199d9d708377984ad4", func := "bitepoint/bitepointlaw09.CourseBack", spec := "courseBack", unfollowed := true, recurses := true, apart := false, narrowed := true }
def CourseBackUptoSaid : Prop := courseBackUptoRow.holds Try.pinned (OpenSpec.upto courseBackSpec)

/-- 'bitepointlaw09.CourseHard', WHERE WHAT IT READS IS OF BULK AT MOST 1048576: true; the input reads as it did. -/
def courseHardUptoRow : OpenClaim := { program := "ytmogofidmchdoaa", sum := "669d80a354f7cb61dbaf2d9e499682dc36b5ef2a4ff8fd199d9d708377984ad4", func := "bitepoint/bitepointlaw09.CourseHard", spec := "courseHard", unfollowed := true, recurses := true, apart := false, narrowed := true }
def CourseHardUptoSaid : Prop := courseHardUptoRow.holds Try.pinned (OpenSpec.upto courseHardSpec)

end Rows
end Go.Proofs.Ytmogofidmchdoaa

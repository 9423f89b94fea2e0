/-
  No cell of these rows narrows 'for every input' (looked for: loops, veiled, ifaces, maps, wideKeys, modest, calm, conditions, laid).
  DERIVED. THE GIVEN ROWS OF THIS SEAT. 13 by the template 'for every input the law returns true; each argument reads behind the call as it read before'; 0 by the template 'total and deterministic' (their statements: YtiiicnhjjfmpkaaTotals.lean).
  GIVEN WITH THE SEED: the statements are not yours to turn. If you find one false, say at which input.
  Laid BY PROGRAM, IN A SANDBOX (cutbox-rows.mjs): the forced cells as the released guide's own fill.sh prints them over the translation 5cc2d48b6579f73e… (all of the seat's roots in one cut). By AI agents, Wed Nov 11 2026. No macro, syntax, notation, axiom, sorry.
-/
import Derived.Test.YtiiicnhjjfmpkaaChecked
import GoSem.Claim
import GoSem.ClaimJoined
import GoSem.ClaimMapViews
import Derived.JoinedTies
import Derived.KernelRfl
namespace Go.Proofs.Ytiiicnhjjfmpkaa
/- THE CELL 'sum', in the pinned program and in every row, IS THE sha256 OF THE DUMP (.gsa) THAT YtiiicnhjjfmpkaaProg.lean LOADS. Nothing in Lean hashes anything: it is a label: what it is worth is what the hold of that sum in a sandbox is worth. -/
noncomputable def Try.pinned : Pinned := { name := "ytiiicnhjjfmpkaa", sum := "5cc2d48b6579f73eaf40c842c4d9e5c911e10bd7503a8f1cdc6d48dedb80d1bd", checked := Try.checked }
namespace Rows
def none {H : Type} : Left H := { results := [], args := [] }

/-- 'bitepointlaw05.BookChecks': WHATEVER THE INPUT: true; the input reads as it did. -/
def bookChecksSpec : ChangeSpec := { name := "bookChecks", fn := fun _ => fun
  | [d1, d2] => { results := [.lit (.bool true)], args := [d1, d2] }
  | _ => none }
def bookChecksRow : OpenClaim := { program := "ytiiicnhjjfmpkaa", sum := "5cc2d48b6579f73eaf40c842c4d9e5c911e10bd7503a8f1cdc6d48dedb80d1bd", func := "bitepoint/bitepointlaw05.BookChecks", spec := "bookChecks", unfollowed := true, recurses := true, apart := false }
def BookChecksSaid : Prop := bookChecksRow.holds Try.pinned (OpenSpec.ofChange bookChecksSpec)

/-- ITS FALSE NEIGHBOUR: 'it returns false'. Refute it at one input. -/
def bookChecksWrong : ChangeSpec := { name := "bookChecks", fn := fun _ => fun
  | [d1, d2] => { results := [.lit (.bool false)], args := [d1, d2] }
  | _ => none }
def BookChecksWrongFalsely : Prop := bookChecksRow.holds Try.pinned (OpenSpec.ofChange bookChecksWrong)

/-- 'bitepointlaw05.BookRuns': WHATEVER THE INPUT: true; the input reads as it did. -/
def bookRunsSpec : ChangeSpec := { name := "bookRuns", fn := fun _ => fun
  | [d1, d2] => { results := [.lit (.bool true)], args := [d1, d2] }
  | _ => none }
def bookRunsRow : OpenClaim := { program := "ytiiicnhjjfmpkaa", sum := "5cc2d48b6579f73eaf40c842c4d9e5c911e10bd7503a8f1cdc6d48dedb80d1bd", func := "bitepoint/bitepointlaw05.BookRuns", spec := "bookRuns", unfollowed := true, recurses := true, apart := false }
def BookRunsSaid : Prop := bookRunsRow.holds Try.pinned (OpenSpec.ofChange bookRunsSpec)

/-- ITS FALSE NEIGHBOUR: 'it returns false'. Refute it at one input. -/
def bookRunsWrong : ChangeSpec := { name := "bookRuns", fn := fun _ => fun
  | [d1, d2] => { results := [.lit (.bool false)], args := [d1, d2] }
  | _ => none }
def BookRunsWrongFalsely : Prop := bookRunsRow.holds Try.pinned (OpenSpec.ofChange bookRunsWrong)

/-- 'bitepointlaw05.BookFirsts': WHATEVER THE INPUT: true; the input reads as it did. -/
def bookFirstsSpec : ChangeSpec := { name := "bookFirsts", fn := fun _ => fun
  | [d1, d2, d3] => { results := [.lit (.bool true)], args := [d1, d2, d3] }
  | _ => none }
def bookFirstsRow : OpenClaim := { program := "ytiiicnhjjfmpkaa", sum := "5cc2d48b6579f73eaf40c842c4d9e5c911e10bd7503a8f1cdc6d48dedb80d1bd", func := "bitepoint/bitepointlaw05.BookFirsts", spec := "bookFirsts", unfollowed := true, recurses := true, apart := false }
def BookFirstsSaid : Prop := bookFirstsRow.holds Try.pinned (OpenSpec.ofChange bookFirstsSpec)

/-- ITS FALSE NEIGHBOUR: 'it returns false'. Refute it at one input. -/
def bookFirstsWrong : ChangeSpec := { name := "bookFirsts", fn := fun _ => fun
  | [d1, d2, d3] => { results := [.lit (.bool false)], args := [d1, d2, d3] }
  | _ => none }
def BookFirstsWrongFalsely : Prop := bookFirstsRow.holds Try.pinned (OpenSpec.ofChange bookFirstsWrong)

/-- 'bitepointlaw05.BookKnown': WHATEVER THE INPUT: true; the input reads as it did. -/
def bookKnownSpec : ChangeSpec := { name := "bookKnown", fn := fun _ => fun
  | [] => { results := [.lit (.bool true)], args := [] }
  | _ => none }
def bookKnownRow : OpenClaim := { program := "ytiiicnhjjfmpkaa", sum := "5cc2d48b6579f73eaf40c842c4d9e5c911e10bd7503a8f1cdc6d48dedb80d1bd", func := "bitepoint/bitepointlaw05.BookKnown", spec := "bookKnown", unfollowed := true, recurses := true, apart := false }
def BookKnownSaid : Prop := bookKnownRow.holds Try.pinned (OpenSpec.ofChange bookKnownSpec)

/-- ITS FALSE NEIGHBOUR: 'it returns false'. Refute it at one input. -/
def bookKnownWrong : ChangeSpec := { name := "bookKnown", fn := fun _ => fun
  | [] => { results := [.lit (.bool false)], args := [] }
  | _ => none }
def BookKnownWrongFalsely : Prop := bookKnownRow.holds Try.pinned (OpenSpec.ofChange bookKnownWrong)

/-- 'bitepointlaw05.BookEven': WHATEVER THE INPUT: true; the input reads as it did. -/
def bookEvenSpec : ChangeSpec := { name := "bookEven", fn := fun _ => fun
  | [d1, d2] => { results := [.lit (.bool true)], args := [d1, d2] }
  | _ => none }
def bookEvenRow : OpenClaim := { program := "ytiiicnhjjfmpkaa", sum := "5cc2d48b6579f73eaf40c842c4d9e5c911e10bd7503a8f1cdc6d48dedb80d1bd", func := "bitepoint/bitepointlaw05.BookEven", spec := "bookEven", unfollowed := true, recurses := true, apart := false }
def BookEvenSaid : Prop := bookEvenRow.holds Try.pinned (OpenSpec.ofChange bookEvenSpec)

/-- ITS FALSE NEIGHBOUR: 'it returns false'. Refute it at one input. -/
def bookEvenWrong : ChangeSpec := { name := "bookEven", fn := fun _ => fun
  | [d1, d2] => { results := [.lit (.bool false)], args := [d1, d2] }
  | _ => none }
def BookEvenWrongFalsely : Prop := bookEvenRow.holds Try.pinned (OpenSpec.ofChange bookEvenWrong)

/-- 'bitepointlaw05.BookHours': WHATEVER THE INPUT: true; the input reads as it did. -/
def bookHoursSpec : ChangeSpec := { name := "bookHours", fn := fun _ => fun
  | [d1, d2] => { results := [.lit (.bool true)], args := [d1, d2] }
  | _ => none }
def bookHoursRow : OpenClaim := { program := "ytiiicnhjjfmpkaa", sum := "5cc2d48b6579f73eaf40c842c4d9e5c911e10bd7503a8f1cdc6d48dedb80d1bd", func := "bitepoint/bitepointlaw05.BookHours", spec := "bookHours", unfollowed := true, recurses := true, apart := false }
def BookHoursSaid : Prop := bookHoursRow.holds Try.pinned (OpenSpec.ofChange bookHoursSpec)

/-- ITS FALSE NEIGHBOUR: 'it returns false'. Refute it at one input. -/
def bookHoursWrong : ChangeSpec := { name := "bookHours", fn := fun _ => fun
  | [d1, d2] => { results := [.lit (.bool false)], args := [d1, d2] }
  | _ => none }
def BookHoursWrongFalsely : Prop := bookHoursRow.holds Try.pinned (OpenSpec.ofChange bookHoursWrong)

/-- 'bitepointlaw05.BookKm': WHATEVER THE INPUT: true; the input reads as it did. -/
def bookKmSpec : ChangeSpec := { name := "bookKm", fn := fun _ => fun
  | [d1, d2] => { results := [.lit (.bool true)], args := [d1, d2] }
  | _ => none }
def bookKmRow : OpenClaim := { program := "ytiiicnhjjfmpkaa", sum := "5cc2d48b6579f73eaf40c842c4d9e5c911e10bd7503a8f1cdc6d48dedb80d1bd", func := "bitepoint/bitepointlaw05.BookKm", spec := "bookKm", unfollowed := true, recurses := true, apart := false }
def BookKmSaid : Prop := bookKmRow.holds Try.pinned (OpenSpec.ofChange bookKmSpec)

/-- ITS FALSE NEIGHBOUR: 'it returns false'. Refute it at one input. -/
def bookKmWrong : ChangeSpec := { name := "bookKm", fn := fun _ => fun
  | [d1, d2] => { results := [.lit (.bool false)], args := [d1, d2] }
  | _ => none }
def BookKmWrongFalsely : Prop := bookKmRow.holds Try.pinned (OpenSpec.ofChange bookKmWrong)

/-- 'bitepointlaw05.BookOnce': WHATEVER THE INPUT: true; the input reads as it did. -/
def bookOnceSpec : ChangeSpec := { name := "bookOnce", fn := fun _ => fun
  | [d1, d2] => { results := [.lit (.bool true)], args := [d1, d2] }
  | _ => none }
def bookOnceRow : OpenClaim := { program := "ytiiicnhjjfmpkaa", sum := "5cc2d48b6579f73eaf40c842c4d9e5c911e10bd7503a8f1cdc6d48dedb80d1bd", func := "bitepoint/bitepointlaw05.BookOnce", spec := "bookOnce", unfollowed := true, recurses := true, apart := false }
def BookOnceSaid : Prop := bookOnceRow.holds Try.pinned (OpenSpec.ofChange bookOnceSpec)

/-- ITS FALSE NEIGHBOUR: 'it returns false'. Refute it at one input. -/
def bookOnceWrong : ChangeSpec := { name := "bookOnce", fn := fun _ => fun
  | [d1, d2] => { results := [.lit (.bool false)], args := [d1, d2] }
  | _ => none }
def BookOnceWrongFalsely : Prop := bookOnceRow.holds Try.pinned (OpenSpec.ofChange bookOnceWrong)

/-- 'bitepointlaw05.BookMoved': WHATEVER THE INPUT: true; the input reads as it did. -/
def bookMovedSpec : ChangeSpec := { name := "bookMoved", fn := fun _ => fun
  | [d1, d2, d3] => { results := [.lit (.bool true)], args := [d1, d2, d3] }
  | _ => none }
def bookMovedRow : OpenClaim := { program := "ytiiicnhjjfmpkaa", sum := "5cc2d48b6579f73eaf40c842c4d9e5c911e10bd7503a8f1cdc6d48dedb80d1bd", func := "bitepoint/bitepointlaw05.BookMoved", spec := "bookMoved", unfollowed := true, recurses := true, apart := false }
def BookMovedSaid : Prop := bookMovedRow.holds Try.pinned (OpenSpec.ofChange bookMovedSpec)

/-- ITS FALSE NEIGHBOUR: 'it returns false'. Refute it at one input. -/
def bookMovedWrong : ChangeSpec := { name := "bookMoved", fn := fun _ => fun
  | [d1, d2, d3] => { results := [.lit (.bool false)], args := [d1, d2, d3] }
  | _ => none }
def BookMovedWrongFalsely : Prop := bookMovedRow.holds Try.pinned (OpenSpec.ofChange bookMovedWrong)

/-- 'bitepointlaw05.BookEarlier': WHATEVER THE INPUT: true; the input reads as it did. -/
def bookEarlierSpec : ChangeSpec := { name := "bookEarlier", fn := fun _ => fun
  | [d1, d2] => { results := [.lit (.bool true)], args := [d1, d2] }
  | _ => none }
def bookEarlierRow : OpenClaim := { program := "ytiiicnhjjfmpkaa", sum := "5cc2d48b6579f73eaf40c842c4d9e5c911e10bd7503a8f1cdc6d48dedb80d1bd", func := "bitepoint/bitepointlaw05.BookEarlier", spec := "bookEarlier", unfollowed := true, recurses := true, apart := false }
def BookEarlierSaid : Prop := bookEarlierRow.holds Try.pinned (OpenSpec.ofChange bookEarlierSpec)

/-- ITS FALSE NEIGHBOUR: 'it returns false'. Refute it at one input. -/
def bookEarlierWrong : ChangeSpec := { name := "bookEarlier", fn := fun _ => fun
  | [d1, d2] => { results := [.lit (.bool false)], args := [d1, d2] }
  | _ => none }
def BookEarlierWrongFalsely : Prop := bookEarlierRow.holds Try.pinned (OpenSpec.ofChange bookEarlierWrong)

/-- 'bitepointlaw05.BookInsured': WHATEVER THE INPUT: true; the input reads as it did. -/
def bookInsuredSpec : ChangeSpec := { name := "bookInsured", fn := fun _ => fun
  | [d1, d2] => { results := [.lit (.bool true)], args := [d1, d2] }
  | _ => none }
def bookInsuredRow : OpenClaim := { program := "ytiiicnhjjfmpkaa", sum := "5cc2d48b6579f73eaf40c842c4d9e5c911e10bd7503a8f1cdc6d48dedb80d1bd", func := "bitepoint/bitepointlaw05.BookInsured", spec := "bookInsured", unfollowed := true, recurses := true, apart := false }
def BookInsuredSaid : Prop := bookInsuredRow.holds Try.pinned (OpenSpec.ofChange bookInsuredSpec)

/-- ITS FALSE NEIGHBOUR: 'it returns false'. Refute it at one input. -/
def bookInsuredWrong : ChangeSpec := { name := "bookInsured", fn := fun _ => fun
  | [d1, d2] => { results := [.lit (.bool false)], args := [d1, d2] }
  | _ => none }
def BookInsuredWrongFalsely : Prop := bookInsuredRow.holds Try.pinned (OpenSpec.ofChange bookInsuredWrong)

/-- 'bitepointlaw05.BookRefused': WHATEVER THE INPUT: true; the input reads as it did. -/
def bookRefusedSpec : ChangeSpec := { name := "bookRefused", fn := fun _ => fun
  | [d1, d2, d3] => { results := [.lit (.bool true)], args := [d1, d2, d3] }
  | _ => none }
def bookRefusedRow : OpenClaim := { program := "ytiiicnhjjfmpkaa", sum := "5cc2d48b6579f73eaf40c842c4d9e5c911e10bd7503a8f1cdc6d48dedb80d1bd", func := "bitepoint/bitepointlaw05.BookRefused", spec := "bookRefused", unfollowed := true, recurses := true, apart := false }
def BookRefusedSaid : Prop := bookRefusedRow.holds Try.pinned (OpenSpec.ofChange bookRefusedSpec)

/-- ITS FALSE NEIGHBOUR: 'it returns false'. Refute it at one input. -/
def bookRefusedWrong : ChangeSpec := { name := "bookRefused", fn := fun _ => fun
  | [d1, d2, d3] => { results := [.lit (.bool false)], args := [d1, d2, d3] }
  | _ => none }
def BookRefusedWrongFalsely : Prop := bookRefusedRow.holds Try.pinned (OpenSpec.ofChange bookRefusedWrong)

/-- 'bitepointlaw05.BookSoonest': WHATEVER THE INPUT: true; the input reads as it did. -/
def bookSoonestSpec : ChangeSpec := { name := "bookSoonest", fn := fun _ => fun
  | [d1, d2, d3] => { results := [.lit (.bool true)], args := [d1, d2, d3] }
  | _ => none }
def bookSoonestRow : OpenClaim := { program := "ytiiicnhjjfmpkaa", sum := "5cc2d48b6579f73eaf40c842c4d9e5c911e10bd7503a8f1cdc6d48dedb80d1bd", func := "bitepoint/bitepointlaw05.BookSoonest", spec := "bookSoonest", unfollowed := true, recurses := true, apart := false }
def BookSoonestSaid : Prop := bookSoonestRow.holds Try.pinned (OpenSpec.ofChange bookSoonestSpec)

/-- ITS FALSE NEIGHBOUR: 'it returns false'. Refute it at one input. -/
def bookSoonestWrong : ChangeSpec := { name := "bookSoonest", fn := fun _ => fun
  | [d1, d2, d3] => { results := [.lit (.bool false)], args := [d1, d2, d3] }
  | _ => none }
def BookSoonestWrongFalsely : Prop := bookSoonestRow.holds Try.pinned (OpenSpec.ofChange bookSoonestWrong)

/- THE SECOND FORM. 'bulk': how many values and letters a reading holds, each counted each time it is reached (what is shared counts as often as it is met; a slice's spare places count too). A statement '..UptoSaid' is the law's where the arguments, and the package variables that the reading takes, are together of bulk at most 1048576: NARROWER than '..Said'. Prove '..Said' where nothing that the law and all that it calls make is longer than what came in: it says more and counts as full. Else prove '..UptoSaid'. A law counts once. -/
mutual
def uptoBulk {H : Type} : DataW H → Nat
  | .lit (.string bytes) => bytes.length + 1
  | .lit _ => 1
  | .nil => 1
  | .ptr d => uptoBulk d + 1
  | .slice elems spare => uptoBulkAll elems + uptoBulkAll spare + 1
  | .agg parts => uptoBulkAll parts + 1
  | .iface _ d => uptoBulk d + 1
  | .map entries => uptoBulkEntries entries + 1
  | .held _ => 1
def uptoBulkAll {H : Type} : List (DataW H) → Nat
  | [] => 0
  | d :: r => uptoBulk d + uptoBulkAll r
def uptoBulkEntries {H : Type} : List (Lit × DataW H) → Nat
  | [] => 0
  | x :: r => uptoBulkEntry x + uptoBulkEntries r
def uptoBulkEntry {H : Type} : Lit × DataW H → Nat
  | (.string bytes, d) => bytes.length + uptoBulk d + 1
  | (_, d) => uptoBulk d + 1
 end
def uptoSmall : (H : Type) → List (DataW H) → Bool := fun _ ds => decide (uptoBulkAll ds ≤ 1048576)
def OpenSpec.upto (s : _root_.Go.ChangeSpec) : _root_.Go.OpenSpec := { _root_.Go.OpenSpec.ofChange s with cond := some uptoSmall }

/-- 'bitepointlaw05.BookChecks', WHERE WHAT IT READS IS OF BULK AT MOST 1048576: true; the input reads as it did. -/
def bookChecksUptoRow : OpenClaim := { program := "ytiiicnhjjfmpkaa", sum := "5cc2d48b6579f73eaf40c842c4d9e5c911e10bd7503a8f1cdc6d48dedb80d1bd", func := "bitepoint/bitepointlaw05.BookChecks", spec := "bookChecks", unfollowed := true, recurses := true, apart := false, narrowed := true }
def BookChecksUptoSaid : Prop := bookChecksUptoRow.holds Try.pinned (OpenSpec.upto bookChecksSpec)

/-- 'bitepointlaw05.BookRuns', WHERE WHAT IT READS IS OF BULK AT MOST 1048576: true; the input reads as it did. -/
def bookRunsUptoRow : OpenClaim := { program := "ytiiicnhjjfmpkaa", sum := "5cc2d48b6579f73eaf40c842c4d9e5c911e10bd7503a8f1cdc6d48dedb80d1bd", func := "bitepoint/bitepointlaw05.BookRuns", spec := "bookRuns", unfollowed := true, recurses := true, apart := false, narrowed := true }
def BookRunsUptoSaid : Prop := bookRunsUptoRow.holds Try.pinned (OpenSpec.upto bookRunsSpec)

/-- 'bitepointlaw05.BookFirsts', WHERE WHAT IT READS IS OF BULK AT MOST 1048576: true; the input reads as it did. -/
def bookFirstsUptoRow : OpenClaim := { program := "ytiiicnhjjfmpkaa", sum := "5cc2d48b6579f73eaf40c842c4d9e5c911e10bd7503a8f1cdc6d48dedb80d1bd", func := "bitepoint/bitepointlaw05.BookFirsts", spec := "bookFirsts", unfollowed := true, recurses := true, apart := false, narrowed := true }
def BookFirstsUptoSaid : Prop := bookFirstsUptoRow.holds Try.pinned (OpenSpec.upto bookFirstsSpec)

/-- 'bitepointlaw05.BookKnown', WHERE WHAT IT READS IS OF BULK AT MOST 1048576: true; the input reads as it did. -/
def bookKnownUptoRow : OpenClaim := { program := "ytiiicnhjjfmpkaa", sum := "5cc2d48b6579f73eaf40c842c4d9e5c911e10bd7503a8f1cdc6d48dedb80d1bd", func := "bitepoint/bitepointlaw05.BookKnown", spec := "bookKnown", unfollowed := true, recurses := true, apart := false, narrowed := true }
def BookKnownUptoSaid : Prop := bookKnownUptoRow.holds Try.pinned (OpenSpec.upto bookKnownSpec)

/-- 'bitepointlaw05.BookEven', WHERE WHAT IT READS IS OF BULK AT MOST 1048576: true; the input reads as it did. -/
def bookEvenUptoRow : OpenClaim := { program := "ytiiicnhjjfmpkaa", sum := "5cc2d48b6579f73eaf40c842c4d9e5c911e10bd7503a8f1cdc6d48dedb80d1bd", func := "bitepoint/bitepointlaw05.BookEven", spec := "bookEven", unfollowed := true, recurses := true, apart := false, narrowed := true }
def BookEvenUptoSaid : Prop := bookEvenUptoRow.holds Try.pinned (OpenSpec.upto bookEvenSpec)

/-- 'bitepointlaw05.BookHours', WHERE WHAT IT READS IS OF BULK AT MOST 1048576: true; the input reads as it did. -/
def bookHoursUptoRow : OpenClaim := { program := "ytiiicnhjjfmpkaa", sum := "5cc2d48b6579f73eaf40c842c4d9e5c911e10bd7503a8f1cdc6d48dedb80d1bd", func := "bitepoint/bitepointlaw05.BookHours", spec := "bookHours", unfollowed := true, recurses := true, apart := false, narrowed := true }
def BookHoursUptoSaid : Prop := bookHoursUptoRow.holds Try.pinned (OpenSpec.upto bookHoursSpec)

/-- 'bitepointlaw05.BookKm', WHERE WHAT IT READS IS OF BULK AT MOST 1048576: true; the input reads as it did. -/
def bookKmUptoRow : OpenClaim := { program := "ytiiicnhjjfmpkaa", sum := "5cc2d48b6579f73eaf40c842c4d9e5c911e10bd7503a8f1cdc6d48dedb80d1bd", func := "bitepoint/bitepointlaw05.BookKm", spec := "bookKm", unfollowed := true, recurses := true, apart := false, narrowed := true }
def BookKmUptoSaid : Prop := bookKmUptoRow.holds Try.pinned (OpenSpec.upto bookKmSpec)

/-- 'bitepointlaw05.BookOnce', WHERE WHAT IT READS IS OF BULK AT MOST 1048576: true; the input reads as it did. -/
def bookOnceUptoRow : OpenClaim := { program := "ytiiicnhjjfmpkaa", sum := "5cc2d48b6579f73eaf40c842c4d9e5c911e10bd7503a8f1cdc6d48dedb80d1bd", func := "bitepoint/bitepointlaw05.BookOnce", spec := "bookOnce", unfollowed := true, recurses := true, apart := false, narrowed := true }
def BookOnceUptoSaid : Prop := bookOnceUptoRow.holds Try.pinned (OpenSpec.upto bookOnceSpec)

/-- 'bitepointlaw05.BookMoved', WHERE WHAT IT READS IS OF BULK AT MOST 1048576: true; the input reads as it did. -/
def bookMovedUptoRow : OpenClaim := { program := "ytiiicnhjjfmpkaa", sum := "5cc2d48b6579f73eaf40c842c4d9e5c911e10bd7503a8f1cdc6d48dedb80d1bd", func := "bitepoint/bitepointlaw05.BookMoved", spec := "bookMoved", unfollowed := true, recurses := true, apart := false, narrowed := true }
def BookMovedUptoSaid : Prop := bookMovedUptoRow.holds Try.pinned (OpenSpec.upto bookMovedSpec)

/-- 'bitepointlaw05.BookEarlier', WHERE WHAT IT READS IS OF BULK AT MOST 1048576: true; the input reads as it did. -/
def bookEarlierUptoRow : OpenClaim := { program := "ytiiicnhjjfmpkaa", sum := "5cc2d48b6579f73eaf40c842c4d9e5c911e10bd7503a8f1cdc6d48dedb80d1bd", func := "bitepoint/bitepointlaw05.BookEarlier", spec := "bookEarlier", unfollowed := true, recurses := true, apart := false, narrowed := true }
def BookEarlierUptoSaid : Prop := bookEarlierUptoRow.holds Try.pinned (OpenSpec.upto bookEarlierSpec)

/-- 'bitepointlaw05.BookInsured', WHERE WHAT IT READS IS OF BULK AT MOST 1048576: true; the input reads as it did. -/
def bookInsuredUptoRow : OpenClaim := { program := "ytiiicnhjjfmpkaa", sum := "5cc2d48b6579f73eaf40c842c4d9e5c911e10bd7503a8f1cdc6d48dedb80d1bd", func := "bitepoint/bitepointlaw05.BookInsured", spec := "bookInsured", unfollowed := true, recurses := true, apart := false, narrowed := true }
def BookInsuredUptoSaid : Prop := bookInsuredUptoRow.holds Try.pinned (OpenSpec.upto bookInsuredSpec)

/-- 'bitepointlaw05.BookRefused', WHERE WHAT IT READS IS OF BULK AT MOST 1048576: true; the input reads as it did. -/
def bookRefusedUptoRow : OpenClaim := { program := "ytiiicnhjjfmpkaa", sum := "5cc2d48b6579f73eaf40c842c4d9e5c911e10bd7503a8f1cdc6d48dedb80d1bd", func := "bitepoint/bitepointlaw05.BookRefused", spec := "bookRefused", unfollowed := true, recurses := true, apart := false, narrowed := true }
def BookRefusedUptoSaid : Prop := bookRefusedUptoRow.holds Try.pinned (OpenSpec.upto bookRefusedSpec)

/-- 'bitepointlaw05.BookSoonest', WHERE WHAT IT READS IS OF BULK AT MOST 1048576: true; the input reads as it did. -/
def bookSoonestUptoRow : OpenClaim := { program := "ytiiicnhjjfmpkaa", sum := "5cc2d48b6579f73eaf40c842c4d9e5c911e10bd7503a8f1cdc6d48dedb80d1bd", func := "bitepoint/bitepointlaw05.BookSoonest", spec := "bookSoonest", unfollowed := true, recurses := true, apart := false, narrowed := true }
def BookSoonestUptoSaid : Prop := bookSoonestUptoRow.holds Try.pinned (OpenSpec.upto bookSoonestSpec)

end Rows
end Go.Proofs.Ytiiicnhjjfmpkaa

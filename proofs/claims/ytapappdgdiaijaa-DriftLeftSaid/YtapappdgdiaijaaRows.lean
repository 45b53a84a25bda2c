/-
  No cell of these rows narrows 'for every input' (looked for: loops, veiled, ifaces, maps, wideKeys, modest, calm, conditions, laid).
  DERIVED. THE GIVEN ROWS OF THIS SEAT. 14 by the template 'for every input the law returns true; each argument reads behind the call as it read before'; 0 by the template 'total and deterministic' (their statements: YtapappdgdiaijaaTotals.lean).
  GIVEN WITH THE SEED: the statements are not yours to turn. If you find one false, say at which input.
  Laid BY PROGRAM, IN A SANDBOX (cutbox-rows.mjs): the forced cells as the released guide's own fill.sh prints them over the translation 3552b26ed3c9bd51… (all of the seat's roots in one cut). By AI agents, Wed Nov 11 2026. No macro, syntax, notation, axiom, sorry.
-/
import Derived.Test.YtapappdgdiaijaaChecked
import GoSem.Claim
import GoSem.ClaimJoined
import GoSem.ClaimMapViews
import Derived.JoinedTies
import Derived.KernelRfl
namespace Go.Proofs.Ytapappdgdiaijaa
/- THE CELL 'sum', in the pinned program and in every row, IS THE sha256 OF THE DUMP (.gsa) THAT YtapappdgdiaijaaProg.lean LOADS. Nothing in Lean hashes anything: it is a label: what it is worth is what the hold of that sum in a sandbox is worth. -/
noncomputable def Try.pinned : Pinned := { name := "ytapappdgdiaijaa", sum := "3552b26ed3c9bd51b692aacdb93b4cb778077ac209214c86c19105e39e67f8ca", checked := Try.checked }
namespace Rows
def none {H : Type} : Left H := { results := [], args := [] }

/-- 'burinlaw01.DriftStars': WHATEVER THE INPUT: true; the input reads as it did. -/
def driftStarsSpec : ChangeSpec := { name := "driftStars", fn := fun _ => fun
  | [d1, d2] => { results := [.lit (.bool true)], args := [d1, d2] }
  | _ => none }
def driftStarsRow : OpenClaim := { program := "ytapappdgdiaijaa", sum := "3552b26ed3c9bd51b692aacdb93b4cb778077ac209214c86c19105e39e67f8ca", func := "burin/burinlaw01.DriftStars", spec := "driftStars", unfollowed := true, recurses := true, plainKeys := false, apart := false }
def DriftStarsSaid : Prop := driftStarsRow.holds Try.pinned (OpenSpec.ofChange driftStarsSpec)

/-- ITS FALSE NEIGHBOUR: 'it returns false'. Refute it at one input. -/
def driftStarsWrong : ChangeSpec := { name := "driftStars", fn := fun _ => fun
  | [d1, d2] => { results := [.lit (.bool false)], args := [d1, d2] }
  | _ => none }
def DriftStarsWrongFalsely : Prop := driftStarsRow.holds Try.pinned (OpenSpec.ofChange driftStarsWrong)

/-- 'burinlaw01.DriftBounds': WHATEVER THE INPUT: true; the input reads as it did. -/
def driftBoundsSpec : ChangeSpec := { name := "driftBounds", fn := fun _ => fun
  | [d1, d2, d3, d4] => { results := [.lit (.bool true)], args := [d1, d2, d3, d4] }
  | _ => none }
def driftBoundsRow : OpenClaim := { program := "ytapappdgdiaijaa", sum := "3552b26ed3c9bd51b692aacdb93b4cb778077ac209214c86c19105e39e67f8ca", func := "burin/burinlaw01.DriftBounds", spec := "driftBounds", unfollowed := true, recurses := true, plainKeys := false, apart := false }
def DriftBoundsSaid : Prop := driftBoundsRow.holds Try.pinned (OpenSpec.ofChange driftBoundsSpec)

/-- ITS FALSE NEIGHBOUR: 'it returns false'. Refute it at one input. -/
def driftBoundsWrong : ChangeSpec := { name := "driftBounds", fn := fun _ => fun
  | [d1, d2, d3, d4] => { results := [.lit (.bool false)], args := [d1, d2, d3, d4] }
  | _ => none }
def DriftBoundsWrongFalsely : Prop := driftBoundsRow.holds Try.pinned (OpenSpec.ofChange driftBoundsWrong)

/-- 'burinlaw01.DriftClashes': WHATEVER THE INPUT: true; the input reads as it did. -/
def driftClashesSpec : ChangeSpec := { name := "driftClashes", fn := fun _ => fun
  | [d1, d2, d3] => { results := [.lit (.bool true)], args := [d1, d2, d3] }
  | _ => none }
def driftClashesRow : OpenClaim := { program := "ytapappdgdiaijaa", sum := "3552b26ed3c9bd51b692aacdb93b4cb778077ac209214c86c19105e39e67f8ca", func := "burin/burinlaw01.DriftClashes", spec := "driftClashes", unfollowed := true, recurses := true, plainKeys := false, apart := false }
def DriftClashesSaid : Prop := driftClashesRow.holds Try.pinned (OpenSpec.ofChange driftClashesSpec)

/-- ITS FALSE NEIGHBOUR: 'it returns false'. Refute it at one input. -/
def driftClashesWrong : ChangeSpec := { name := "driftClashes", fn := fun _ => fun
  | [d1, d2, d3] => { results := [.lit (.bool false)], args := [d1, d2, d3] }
  | _ => none }
def DriftClashesWrongFalsely : Prop := driftClashesRow.holds Try.pinned (OpenSpec.ofChange driftClashesWrong)

/-- 'burinlaw01.DriftRates': WHATEVER THE INPUT: true; the input reads as it did. -/
def driftRatesSpec : ChangeSpec := { name := "driftRates", fn := fun _ => fun
  | [d1, d2, d3] => { results := [.lit (.bool true)], args := [d1, d2, d3] }
  | _ => none }
def driftRatesRow : OpenClaim := { program := "ytapappdgdiaijaa", sum := "3552b26ed3c9bd51b692aacdb93b4cb778077ac209214c86c19105e39e67f8ca", func := "burin/burinlaw01.DriftRates", spec := "driftRates", unfollowed := true, recurses := true, plainKeys := false, apart := false }
def DriftRatesSaid : Prop := driftRatesRow.holds Try.pinned (OpenSpec.ofChange driftRatesSpec)

/-- ITS FALSE NEIGHBOUR: 'it returns false'. Refute it at one input. -/
def driftRatesWrong : ChangeSpec := { name := "driftRates", fn := fun _ => fun
  | [d1, d2, d3] => { results := [.lit (.bool false)], args := [d1, d2, d3] }
  | _ => none }
def DriftRatesWrongFalsely : Prop := driftRatesRow.holds Try.pinned (OpenSpec.ofChange driftRatesWrong)

/-- 'burinlaw01.DriftLefts': WHATEVER THE INPUT: true; the input reads as it did. -/
def driftLeftsSpec : ChangeSpec := { name := "driftLefts", fn := fun _ => fun
  | [d1, d2, d3] => { results := [.lit (.bool true)], args := [d1, d2, d3] }
  | _ => none }
def driftLeftsRow : OpenClaim := { program := "ytapappdgdiaijaa", sum := "3552b26ed3c9bd51b692aacdb93b4cb778077ac209214c86c19105e39e67f8ca", func := "burin/burinlaw01.DriftLefts", spec := "driftLefts", unfollowed := true, recurses := true, plainKeys := false, apart := false }
def DriftLeftsSaid : Prop := driftLeftsRow.holds Try.pinned (OpenSpec.ofChange driftLeftsSpec)

/-- ITS FALSE NEIGHBOUR: 'it returns false'. Refute it at one input. -/
def driftLeftsWrong : ChangeSpec := { name := "driftLefts", fn := fun _ => fun
  | [d1, d2, d3] => { results := [.lit (.bool false)], args := [d1, d2, d3] }
  | _ => none }
def DriftLeftsWrongFalsely : Prop := driftLeftsRow.holds Try.pinned (OpenSpec.ofChange driftLeftsWrong)

/-- 'burinlaw01.DriftEither': WHATEVER THE INPUT: true; the input reads as it did. -/
def driftEitherSpec : ChangeSpec := { name := "driftEither", fn := fun _ => fun
  | [d1, d2, d3] => { results := [.lit (.bool true)], args := [d1, d2, d3] }
  | _ => none }
def driftEitherRow : OpenClaim := { program := "ytapappdgdiaijaa", sum := "3552b26ed3c9bd51b692aacdb93b4cb778077ac209214c86c19105e39e67f8ca", func := "burin/burinlaw01.DriftEither", spec := "driftEither", unfollowed := true, recurses := true, plainKeys := false, apart := false }
def DriftEitherSaid : Prop := driftEitherRow.holds Try.pinned (OpenSpec.ofChange driftEitherSpec)

/-- ITS FALSE NEIGHBOUR: 'it returns false'. Refute it at one input. -/
def driftEitherWrong : ChangeSpec := { name := "driftEither", fn := fun _ => fun
  | [d1, d2, d3] => { results := [.lit (.bool false)], args := [d1, d2, d3] }
  | _ => none }
def DriftEitherWrongFalsely : Prop := driftEitherRow.holds Try.pinned (OpenSpec.ofChange driftEitherWrong)

/-- 'burinlaw01.DriftReached': WHATEVER THE INPUT: true; the input reads as it did. -/
def driftReachedSpec : ChangeSpec := { name := "driftReached", fn := fun _ => fun
  | [d1, d2, d3, d4, d5, d6, d7] => { results := [.lit (.bool true)], args := [d1, d2, d3, d4, d5, d6, d7] }
  | _ => none }
def driftReachedRow : OpenClaim := { program := "ytapappdgdiaijaa", sum := "3552b26ed3c9bd51b692aacdb93b4cb778077ac209214c86c19105e39e67f8ca", func := "burin/burinlaw01.DriftReached", spec := "driftReached", unfollowed := true, recurses := true, plainKeys := false, apart := false }
def DriftReachedSaid : Prop := driftReachedRow.holds Try.pinned (OpenSpec.ofChange driftReachedSpec)

/-- ITS FALSE NEIGHBOUR: 'it returns false'. Refute it at one input. -/
def driftReachedWrong : ChangeSpec := { name := "driftReached", fn := fun _ => fun
  | [d1, d2, d3, d4, d5, d6, d7] => { results := [.lit (.bool false)], args := [d1, d2, d3, d4, d5, d6, d7] }
  | _ => none }
def DriftReachedWrongFalsely : Prop := driftReachedRow.holds Try.pinned (OpenSpec.ofChange driftReachedWrong)

/-- 'burinlaw01.DriftMore': WHATEVER THE INPUT: true; the input reads as it did. -/
def driftMoreSpec : ChangeSpec := { name := "driftMore", fn := fun _ => fun
  | [d1, d2, d3, d4] => { results := [.lit (.bool true)], args := [d1, d2, d3, d4] }
  | _ => none }
def driftMoreRow : OpenClaim := { program := "ytapappdgdiaijaa", sum := "3552b26ed3c9bd51b692aacdb93b4cb778077ac209214c86c19105e39e67f8ca", func := "burin/burinlaw01.DriftMore", spec := "driftMore", unfollowed := true, recurses := true, plainKeys := false, apart := false }
def DriftMoreSaid : Prop := driftMoreRow.holds Try.pinned (OpenSpec.ofChange driftMoreSpec)

/-- ITS FALSE NEIGHBOUR: 'it returns false'. Refute it at one input. -/
def driftMoreWrong : ChangeSpec := { name := "driftMore", fn := fun _ => fun
  | [d1, d2, d3, d4] => { results := [.lit (.bool false)], args := [d1, d2, d3, d4] }
  | _ => none }
def DriftMoreWrongFalsely : Prop := driftMoreRow.holds Try.pinned (OpenSpec.ofChange driftMoreWrong)

/-- 'burinlaw01.DriftTurned': WHATEVER THE INPUT: true; the input reads as it did. -/
def driftTurnedSpec : ChangeSpec := { name := "driftTurned", fn := fun _ => fun
  | [d1, d2] => { results := [.lit (.bool true)], args := [d1, d2] }
  | _ => none }
def driftTurnedRow : OpenClaim := { program := "ytapappdgdiaijaa", sum := "3552b26ed3c9bd51b692aacdb93b4cb778077ac209214c86c19105e39e67f8ca", func := "burin/burinlaw01.DriftTurned", spec := "driftTurned", unfollowed := true, recurses := true, plainKeys := false, apart := false }
def DriftTurnedSaid : Prop := driftTurnedRow.holds Try.pinned (OpenSpec.ofChange driftTurnedSpec)

/-- ITS FALSE NEIGHBOUR: 'it returns false'. Refute it at one input. -/
def driftTurnedWrong : ChangeSpec := { name := "driftTurned", fn := fun _ => fun
  | [d1, d2] => { results := [.lit (.bool false)], args := [d1, d2] }
  | _ => none }
def DriftTurnedWrongFalsely : Prop := driftTurnedRow.holds Try.pinned (OpenSpec.ofChange driftTurnedWrong)

/-- 'burinlaw01.DriftCarried': WHATEVER THE INPUT: true; the input reads as it did. -/
def driftCarriedSpec : ChangeSpec := { name := "driftCarried", fn := fun _ => fun
  | [d1, d2, d3, d4, d5] => { results := [.lit (.bool true)], args := [d1, d2, d3, d4, d5] }
  | _ => none }
def driftCarriedRow : OpenClaim := { program := "ytapappdgdiaijaa", sum := "3552b26ed3c9bd51b692aacdb93b4cb778077ac209214c86c19105e39e67f8ca", func := "burin/burinlaw01.DriftCarried", spec := "driftCarried", unfollowed := true, recurses := true, plainKeys := false, apart := false }
def DriftCarriedSaid : Prop := driftCarriedRow.holds Try.pinned (OpenSpec.ofChange driftCarriedSpec)

/-- ITS FALSE NEIGHBOUR: 'it returns false'. Refute it at one input. -/
def driftCarriedWrong : ChangeSpec := { name := "driftCarried", fn := fun _ => fun
  | [d1, d2, d3, d4, d5] => { results := [.lit (.bool false)], args := [d1, d2, d3, d4, d5] }
  | _ => none }
def DriftCarriedWrongFalsely : Prop := driftCarriedRow.holds Try.pinned (OpenSpec.ofChange driftCarriedWrong)

/-- 'burinlaw01.DriftTimes': WHATEVER THE INPUT: true; the input reads as it did. -/
def driftTimesSpec : ChangeSpec := { name := "driftTimes", fn := fun _ => fun
  | [d1, d2, d3] => { results := [.lit (.bool true)], args := [d1, d2, d3] }
  | _ => none }
def driftTimesRow : OpenClaim := { program := "ytapappdgdiaijaa", sum := "3552b26ed3c9bd51b692aacdb93b4cb778077ac209214c86c19105e39e67f8ca", func := "burin/burinlaw01.DriftTimes", spec := "driftTimes", unfollowed := true, recurses := true, plainKeys := false, apart := false }
def DriftTimesSaid : Prop := driftTimesRow.holds Try.pinned (OpenSpec.ofChange driftTimesSpec)

/-- ITS FALSE NEIGHBOUR: 'it returns false'. Refute it at one input. -/
def driftTimesWrong : ChangeSpec := { name := "driftTimes", fn := fun _ => fun
  | [d1, d2, d3] => { results := [.lit (.bool false)], args := [d1, d2, d3] }
  | _ => none }
def DriftTimesWrongFalsely : Prop := driftTimesRow.holds Try.pinned (OpenSpec.ofChange driftTimesWrong)

/-- 'burinlaw01.DriftBetween': WHATEVER THE INPUT: true; the input reads as it did. -/
def driftBetweenSpec : ChangeSpec := { name := "driftBetween", fn := fun _ => fun
  | [d1, d2, d3] => { results := [.lit (.bool true)], args := [d1, d2, d3] }
  | _ => none }
def driftBetweenRow : OpenClaim := { program := "ytapappdgdiaijaa", sum := "3552b26ed3c9bd51b692aacdb93b4cb778077ac209214c86c19105e39e67f8ca", func := "burin/burinlaw01.DriftBetween", spec := "driftBetween", unfollowed := true, recurses := true, plainKeys := false, apart := false }
def DriftBetweenSaid : Prop := driftBetweenRow.holds Try.pinned (OpenSpec.ofChange driftBetweenSpec)

/-- ITS FALSE NEIGHBOUR: 'it returns false'. Refute it at one input. -/
def driftBetweenWrong : ChangeSpec := { name := "driftBetween", fn := fun _ => fun
  | [d1, d2, d3] => { results := [.lit (.bool false)], args := [d1, d2, d3] }
  | _ => none }
def DriftBetweenWrongFalsely : Prop := driftBetweenRow.holds Try.pinned (OpenSpec.ofChange driftBetweenWrong)

/-- 'burinlaw01.DriftLeft': WHATEVER THE INPUT: true; the input reads as it did. -/
def driftLeftSpec : ChangeSpec := { name := "driftLeft", fn := fun _ => fun
  | [d1, d2, d3] => { results := [.lit (.bool true)], args := [d1, d2, d3] }
  | _ => none }
def driftLeftRow : OpenClaim := { program := "ytapappdgdiaijaa", sum := "3552b26ed3c9bd51b692aacdb93b4cb778077ac209214c86c19105e39e67f8ca", func := "burin/burinlaw01.DriftLeft", spec := "driftLeft", unfollowed := true, recurses := true, plainKeys := false, apart := false }
def DriftLeftSaid : Prop := driftLeftRow.holds Try.pinned (OpenSpec.ofChange driftLeftSpec)

/-- ITS FALSE NEIGHBOUR: 'it returns false'. Refute it at one input. -/
def driftLeftWrong : ChangeSpec := { name := "driftLeft", fn := fun _ => fun
  | [d1, d2, d3] => { results := [.lit (.bool false)], args := [d1, d2, d3] }
  | _ => none }
def DriftLeftWrongFalsely : Prop := driftLeftRow.holds Try.pinned (OpenSpec.ofChange driftLeftWrong)

/-- 'burinlaw01.DriftKnown': WHATEVER THE INPUT: true; the input reads as it did. -/
def driftKnownSpec : ChangeSpec := { name := "driftKnown", fn := fun _ => fun
  | [] => { results := [.lit (.bool true)], args := [] }
  | _ => none }
def driftKnownRow : OpenClaim := { program := "ytapappdgdiaijaa", sum := "3552b26ed3c9bd51b692aacdb93b4cb778077ac209214c86c19105e39e67f8ca", func := "burin/burinlaw01.DriftKnown", spec := "driftKnown", unfollowed := true, recurses := true, plainKeys := false, apart := false }
def DriftKnownSaid : Prop := driftKnownRow.holds Try.pinned (OpenSpec.ofChange driftKnownSpec)

/-- ITS FALSE NEIGHBOUR: 'it returns false'. Refute it at one input. -/
def driftKnownWrong : ChangeSpec := { name := "driftKnown", fn := fun _ => fun
  | [] => { results := [.lit (.bool false)], args := [] }
  | _ => none }
def DriftKnownWrongFalsely : Prop := driftKnownRow.holds Try.pinned (OpenSpec.ofChange driftKnownWrong)

/- THE SECOND FORM. 'bulk': how many values and letters a reading holds, each counted each time it is reached (what is shared counts as often as it is met; a slice's spare places count too). A statement '..UptoSaid' is the law's where the arguments, and the package variables that the reading takes, are together of bulk at most 1048576: NARROWER than '..Said'. Prove '..Said' where nothing that the law and all that it calls make is longer than what came in: it says more and counts as full. Else prove '..UptoSaid'. A law counts once. -/
mutual
def uptoBulk {H : Type} : DataW H → Nat
  | .lit (.string bytes) => bytes.length + 1
  | .lit _ => 1
  | .nil => 1
  | .ptr d => uptoBulk d + 1
  | .slice elems spare => uptoBulkAll elems + uptoBulkAll spare + 1
  | .agg parts => uptoBulkAll parts + 1
  | .iface _ d => uptoBulk d + 1
  | .map entries => uptoBulkEntries entries + 1
  | .held _ => 1
def uptoBulkAll {H : Type} : List (DataW H) → Nat
  | [] => 0
  | d :: r => uptoBulk d + uptoBulkAll r
def uptoBulkEntries {H : Type} : List (Lit × DataW H) → Nat
  | [] => 0
  | x :: r => uptoBulkEntry x + uptoBulkEntries r
def uptoBulkEntry {H : Type} : Lit × DataW H → Nat
  | (.string bytes, d) => bytes.length + uptoBulk d + 1
  | (_, d) => uptoBulk d + 1
 end
def uptoSmall : (H : Type) → List (DataW H) → Bool := fun _ ds => decide (uptoBulkAll ds ≤ 1048576)
def OpenSpec.upto (s : _root_.Go.ChangeSpec) : _root_.Go.OpenSpec := { _root_.Go.OpenSpec.ofChange s with cond := some uptoSmall }

/-- 'burinlaw01.DriftStars', WHERE WHAT IT READS IS OF BULK AT MOST 1048576: true; the input reads as it did. -/
def driftStarsUptoRow : OpenClaim := { program := "ytapappdgdiaijaa", sum := "3552b26ed3c9bd51b692aacdb93b4cb778077ac209214c86c19105e39e67f8ca", func := "burin/burinlaw01.DriftStars", spec := "driftStars", unfollowed := true, recurses := true, plainKeys := false, apart := false, narrowed := true }
def DriftStarsUptoSaid : Prop := driftStarsUptoRow.holds Try.pinned (OpenSpec.upto driftStarsSpec)

/-- 'burinlaw01.DriftBounds', WHERE WHAT IT READS IS OF BULK AT MOST 1048576: true; the input reads as it did. -/
def driftBoundsUptoRow : OpenClaim := { program := "ytapappdgdiaijaa", sum := "3552b26ed3c9bd51b692aacdb93b4cb778077ac209214c86c19105e39e67f8ca", func := "burin/burinlaw01.DriftBounds", spec := "driftBounds", unfollowed := true, recurses := true, plainKeys := false, apart := false, narrowed := true }
def DriftBoundsUptoSaid : Prop := driftBoundsUptoRow.holds Try.pinned (OpenSpec.upto driftBoundsSpec)

/-- 'burinlaw01.DriftClashes', WHERE WHAT IT READS IS OF BULK AT MOST 1048576: true; the input reads as it did. -/
def driftClashesUptoRow : OpenClaim := { program := "ytapappdgdiaijaa", sum := "3552b26ed3c9bd51b692aacdb93b4cb778077ac209214c86c19105e39e67f8ca", func := "burin/burinlaw01.DriftClashes", spec := "driftClashes", unfollowed := true, recurses := true, plainKeys := false, apart := false, narrowed := true }
def DriftClashesUptoSaid : Prop := driftClashesUptoRow.holds Try.pinned (OpenSpec.upto driftClashesSpec)

/-- 'burinlaw01.DriftRates', WHERE WHAT IT READS IS OF BULK AT MOST 1048576: true; the input reads as it did. -/
def driftRatesUptoRow : OpenClaim := { program := "ytapappdgdiaijaa", sum := "3552b26ed3c9bd51b692aacdb93b4cb778077ac209214c86c19105e39e67f8ca", func := "burin/burinlaw01.DriftRates", spec := "driftRates", unfollowed := true, recurses := true, plainKeys := false, apart := false, narrowed := true }
def DriftRatesUptoSaid : Prop := driftRatesUptoRow.holds Try.pinned (OpenSpec.upto driftRatesSpec)

/-- 'burinlaw01.DriftLefts', WHERE WHAT IT READS IS OF BULK AT MOST 1048576: true; the input reads as it did. -/
def driftLeftsUptoRow : OpenClaim := { program := "ytapappdgdiaijaa", sum := "3552b26ed3c9bd51b692aacdb93b4cb778077ac209214c86c19105e39e67f8ca", func := "burin/burinlaw01.DriftLefts", spec := "driftLefts", unfollowed := true, recurses := true, plainKeys := false, apart := false, narrowed := true }
def DriftLeftsUptoSaid : Prop := driftLeftsUptoRow.holds Try.pinned (OpenSpec.upto driftLeftsSpec)

/-- 'burinlaw01.DriftEither', WHERE WHAT IT READS IS OF BULK AT MOST 1048576: true; the input reads as it did. -/
def driftEitherUptoRow : OpenClaim := { program := "ytapappdgdiaijaa", sum := "3552b26ed3c9bd51b692aacdb93b4cb778077ac209214c86c19105e39e67f8ca", func := "burin/burinlaw01.DriftEither", spec := "driftEither", unfollowed := true, recurses := true, plainKeys := false, apart := false, narrowed := true }
def DriftEitherUptoSaid : Prop := driftEitherUptoRow.holds Try.pinned (OpenSpec.upto driftEitherSpec)

/-- 'burinlaw01.DriftReached', WHERE WHAT IT READS IS OF BULK AT MOST 1048576: true; the input reads as it did. -/
def driftReachedUptoRow : OpenClaim := { program := "ytapappdgdiaijaa", sum := "3552b26ed3c9bd51b692aacdb93b4cb778077ac209214c86c19105e39e67f8ca", func := "burin/burinlaw01.DriftReached", spec := "driftReached", unfollowed := true, recurses := true, plainKeys := false, apart := false, narrowed := true }
def DriftReachedUptoSaid : Prop := driftReachedUptoRow.holds Try.pinned (OpenSpec.upto driftReachedSpec)

/-- 'burinlaw01.DriftMore', WHERE WHAT IT READS IS OF BULK AT MOST 1048576: true; the input reads as it did. -/
def driftMoreUptoRow : OpenClaim := { program := "ytapappdgdiaijaa", sum := "3552b26ed3c9bd51b692aacdb93b4cb778077ac209214c86c19105e39e67f8ca", func := "burin/burinlaw01.DriftMore", spec := "driftMore", unfollowed := true, recurses := true, plainKeys := false, apart := false, narrowed := true }
def DriftMoreUptoSaid : Prop := driftMoreUptoRow.holds Try.pinned (OpenSpec.upto driftMoreSpec)

/-- 'burinlaw01.DriftTurned', WHERE WHAT IT READS IS OF BULK AT MOST 1048576: true; the input reads as it did. -/
def driftTurnedUptoRow : OpenClaim := { program := "ytapappdgdiaijaa", sum := "3552b26ed3c9bd51b692aacdb93b4cb778077ac209214c86c19105e39e67f8ca", func := "burin/burinlaw01.DriftTurned", spec := "driftTurned", unfollowed := true, recurses := true, plainKeys := false, apart := false, narrowed := true }
def DriftTurnedUptoSaid : Prop := driftTurnedUptoRow.holds Try.pinned (OpenSpec.upto driftTurnedSpec)

/-- 'burinlaw01.DriftCarried', WHERE WHAT IT READS IS OF BULK AT MOST 1048576: true; the input reads as it did. -/
def driftCarriedUptoRow : OpenClaim := { program := "ytapappdgdiaijaa", sum := "3552b26ed3c9bd51b692aacdb93b4cb778077ac209214c86c19105e39e67f8ca", func := "burin/burinlaw01.DriftCarried", spec := "driftCarried", unfollowed := true, recurses := true, plainKeys := false, apart := false, narrowed := true }
def DriftCarriedUptoSaid : Prop := driftCarriedUptoRow.holds Try.pinned (OpenSpec.upto driftCarriedSpec)

/-- 'burinlaw01.DriftTimes', WHERE WHAT IT READS IS OF BULK AT MOST 1048576: true; the input reads as it did. -/
def driftTimesUptoRow : OpenClaim := { program := "ytapappdgdiaijaa", sum := "3552b26ed3c9bd51b692aacdb93b4cb778077ac209214c86c19105e39e67f8ca", func := "burin/burinlaw01.DriftTimes", spec := "driftTimes", unfollowed := true, recurses := true, plainKeys := false, apart := false, narrowed := true }
def DriftTimesUptoSaid : Prop := driftTimesUptoRow.holds Try.pinned (OpenSpec.upto driftTimesSpec)

/-- 'burinlaw01.DriftBetween', WHERE WHAT IT READS IS OF BULK AT MOST 1048576: true; the input reads as it did. -/
def driftBetweenUptoRow : OpenClaim := { program := "ytapappdgdiaijaa", sum := "3552b26ed3c9bd51b692aacdb93b4cb778077ac209214c86c19105e39e67f8ca", func := "burin/burinlaw01.DriftBetween", spec := "driftBetween", unfollowed := true, recurses := true, plainKeys := false, apart := false, narrowed := true }
def DriftBetweenUptoSaid : Prop := driftBetweenUptoRow.holds Try.pinned (OpenSpec.upto driftBetweenSpec)

/-- 'burinlaw01.DriftLeft', WHERE WHAT IT READS IS OF BULK AT MOST 1048576: true; the input reads as it did. -/
def driftLeftUptoRow : OpenClaim := { program := "ytapappdgdiaijaa", sum := "3552b26ed3c9bd51b692aacdb93b4cb778077ac209214c86c19105e39e67f8ca", func := "burin/burinlaw01.DriftLeft", spec := "driftLeft", unfollowed := true, recurses := true, plainKeys := false, apart := false, narrowed := true }
def DriftLeftUptoSaid : Prop := driftLeftUptoRow.holds Try.pinned (OpenSpec.upto driftLeftSpec)

/-- 'burinlaw01.DriftKnown', WHERE WHAT IT READS IS OF BULK AT MOST 1048576: true; the input reads as it did. -/
def driftKnownUptoRow : OpenClaim := { program := "ytapappdgdiaijaa", sum := "3552b26ed3c9bd51b692aacdb93b4cb778077ac209214c86c19105e39e67f8ca", func := "burin/burinlaw01.DriftKnown", spec := "driftKnown", unfollowed := true, recurses := true, plainKeys := false, apart := false, narrowed := true }
def DriftKnownUptoSaid : Prop := driftKnownUptoRow.holds Try.pinned (OpenSpec.upto driftKnownSpec)

end Rows
end Go.Proofs.Ytapappdgdiaijaa

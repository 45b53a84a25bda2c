/-
  No cell of these rows narrows 'for every input' (looked for: loops, veiled, ifaces, maps, wideKeys, modest, calm, conditions, laid).
  DERIVED. THE GIVEN ROWS OF THIS SEAT. 13 by the template 'for every input the law returns true; each argument reads behind the call as it read before'; 0 by the template 'total and deterministic' (their statements: YthlolelbmhfdbaaTotals.lean).
  GIVEN WITH THE SEED: the statements are not yours to turn. If you find one false, say at which input.
  Laid BY PROGRAM, IN A SANDBOX (cutbox-rows.mjs): the forced cells as the released guide's own fill.sh prints them over the translation 8364cec2188875cf… (all of the seat's roots in one cut). By AI agents, Wed Nov 11 2026. No macro, syntax, notation, axiom, sorry.
-/
import Derived.Test.YthlolelbmhfdbaaChecked
import GoSem.Claim
import GoSem.ClaimJoined
import GoSem.ClaimMapViews
import Derived.JoinedTies
import Derived.KernelRfl
namespace Go.Proofs.Ythlolelbmhfdbaa
/- THE CELL 'sum', in the pinned program and in every row, IS THE sha256 OF THE DUMP (.gsa) THAT YthlolelbmhfdbaaProg.lean LOADS. Nothing in Lean hashes anything: it is a label: what it is worth is what the hold of that sum in a sandbox is worth. -/
noncomputable def Try.pinned : Pinned := { name := "ythlolelbmhfdbaa", sum := "8364cec2188875cfc425bb73f1fba016f8b350f0990cca515c699f24a0386474", checked := Try.checked }
namespace Rows
def none {H : Type} : Left H := { results := [], args := [] }

/-- 'burinlaw03.BorderSkies': WHATEVER THE INPUT: true; the input reads as it did. -/
def borderSkiesSpec : ChangeSpec := { name := "borderSkies", fn := fun _ => fun
  | [d1, d2, d3] => { results := [.lit (.bool true)], args := [d1, d2, d3] }
  | _ => none }
def borderSkiesRow : OpenClaim := { program := "ythlolelbmhfdbaa", sum := "8364cec2188875cfc425bb73f1fba016f8b350f0990cca515c699f24a0386474", func := "burin/burinlaw03.BorderSkies", spec := "borderSkies", unfollowed := true, recurses := true, plainKeys := false, apart := false }
def BorderSkiesSaid : Prop := borderSkiesRow.holds Try.pinned (OpenSpec.ofChange borderSkiesSpec)

/-- ITS FALSE NEIGHBOUR: 'it returns false'. Refute it at one input. -/
def borderSkiesWrong : ChangeSpec := { name := "borderSkies", fn := fun _ => fun
  | [d1, d2, d3] => { results := [.lit (.bool false)], args := [d1, d2, d3] }
  | _ => none }
def BorderSkiesWrongFalsely : Prop := borderSkiesRow.holds Try.pinned (OpenSpec.ofChange borderSkiesWrong)

/-- 'burinlaw03.BorderSizes': WHATEVER THE INPUT: true; the input reads as it did. -/
def borderSizesSpec : ChangeSpec := { name := "borderSizes", fn := fun _ => fun
  | [d1, d2, d3] => { results := [.lit (.bool true)], args := [d1, d2, d3] }
  | _ => none }
def borderSizesRow : OpenClaim := { program := "ythlolelbmhfdbaa", sum := "8364cec2188875cfc425bb73f1fba016f8b350f0990cca515c699f24a0386474", func := "burin/burinlaw03.BorderSizes", spec := "borderSizes", unfollowed := true, recurses := true, plainKeys := false, apart := false }
def BorderSizesSaid : Prop := borderSizesRow.holds Try.pinned (OpenSpec.ofChange borderSizesSpec)

/-- ITS FALSE NEIGHBOUR: 'it returns false'. Refute it at one input. -/
def borderSizesWrong : ChangeSpec := { name := "borderSizes", fn := fun _ => fun
  | [d1, d2, d3] => { results := [.lit (.bool false)], args := [d1, d2, d3] }
  | _ => none }
def BorderSizesWrongFalsely : Prop := borderSizesRow.holds Try.pinned (OpenSpec.ofChange borderSizesWrong)

/-- 'burinlaw03.BorderTints': WHATEVER THE INPUT: true; the input reads as it did. -/
def borderTintsSpec : ChangeSpec := { name := "borderTints", fn := fun _ => fun
  | [d1, d2] => { results := [.lit (.bool true)], args := [d1, d2] }
  | _ => none }
def borderTintsRow : OpenClaim := { program := "ythlolelbmhfdbaa", sum := "8364cec2188875cfc425bb73f1fba016f8b350f0990cca515c699f24a0386474", func := "burin/burinlaw03.BorderTints", spec := "borderTints", unfollowed := true, recurses := true, plainKeys := false, apart := false }
def BorderTintsSaid : Prop := borderTintsRow.holds Try.pinned (OpenSpec.ofChange borderTintsSpec)

/-- ITS FALSE NEIGHBOUR: 'it returns false'. Refute it at one input. -/
def borderTintsWrong : ChangeSpec := { name := "borderTints", fn := fun _ => fun
  | [d1, d2] => { results := [.lit (.bool false)], args := [d1, d2] }
  | _ => none }
def BorderTintsWrongFalsely : Prop := borderTintsRow.holds Try.pinned (OpenSpec.ofChange borderTintsWrong)

/-- 'burinlaw03.BorderKinds': WHATEVER THE INPUT: true; the input reads as it did. -/
def borderKindsSpec : ChangeSpec := { name := "borderKinds", fn := fun _ => fun
  | [d1, d2, d3] => { results := [.lit (.bool true)], args := [d1, d2, d3] }
  | _ => none }
def borderKindsRow : OpenClaim := { program := "ythlolelbmhfdbaa", sum := "8364cec2188875cfc425bb73f1fba016f8b350f0990cca515c699f24a0386474", func := "burin/burinlaw03.BorderKinds", spec := "borderKinds", unfollowed := true, recurses := true, plainKeys := false, apart := false }
def BorderKindsSaid : Prop := borderKindsRow.holds Try.pinned (OpenSpec.ofChange borderKindsSpec)

/-- ITS FALSE NEIGHBOUR: 'it returns false'. Refute it at one input. -/
def borderKindsWrong : ChangeSpec := { name := "borderKinds", fn := fun _ => fun
  | [d1, d2, d3] => { results := [.lit (.bool false)], args := [d1, d2, d3] }
  | _ => none }
def BorderKindsWrongFalsely : Prop := borderKindsRow.holds Try.pinned (OpenSpec.ofChange borderKindsWrong)

/-- 'burinlaw03.BorderOnce': WHATEVER THE INPUT: true; the input reads as it did. -/
def borderOnceSpec : ChangeSpec := { name := "borderOnce", fn := fun _ => fun
  | [d] => { results := [.lit (.bool true)], args := [d] }
  | _ => none }
def borderOnceRow : OpenClaim := { program := "ythlolelbmhfdbaa", sum := "8364cec2188875cfc425bb73f1fba016f8b350f0990cca515c699f24a0386474", func := "burin/burinlaw03.BorderOnce", spec := "borderOnce", unfollowed := true, recurses := true, plainKeys := false, apart := false }
def BorderOnceSaid : Prop := borderOnceRow.holds Try.pinned (OpenSpec.ofChange borderOnceSpec)

/-- ITS FALSE NEIGHBOUR: 'it returns false'. Refute it at one input. -/
def borderOnceWrong : ChangeSpec := { name := "borderOnce", fn := fun _ => fun
  | [d] => { results := [.lit (.bool false)], args := [d] }
  | _ => none }
def BorderOnceWrongFalsely : Prop := borderOnceRow.holds Try.pinned (OpenSpec.ofChange borderOnceWrong)

/-- 'burinlaw03.BorderTurned': WHATEVER THE INPUT: true; the input reads as it did. -/
def borderTurnedSpec : ChangeSpec := { name := "borderTurned", fn := fun _ => fun
  | [d1, d2, d3, d4, d5, d6] => { results := [.lit (.bool true)], args := [d1, d2, d3, d4, d5, d6] }
  | _ => none }
def borderTurnedRow : OpenClaim := { program := "ythlolelbmhfdbaa", sum := "8364cec2188875cfc425bb73f1fba016f8b350f0990cca515c699f24a0386474", func := "burin/burinlaw03.BorderTurned", spec := "borderTurned", unfollowed := true, recurses := true, plainKeys := false, apart := false }
def BorderTurnedSaid : Prop := borderTurnedRow.holds Try.pinned (OpenSpec.ofChange borderTurnedSpec)

/-- ITS FALSE NEIGHBOUR: 'it returns false'. Refute it at one input. -/
def borderTurnedWrong : ChangeSpec := { name := "borderTurned", fn := fun _ => fun
  | [d1, d2, d3, d4, d5, d6] => { results := [.lit (.bool false)], args := [d1, d2, d3, d4, d5, d6] }
  | _ => none }
def BorderTurnedWrongFalsely : Prop := borderTurnedRow.holds Try.pinned (OpenSpec.ofChange borderTurnedWrong)

/-- 'burinlaw03.BorderFour': WHATEVER THE INPUT: true; the input reads as it did. -/
def borderFourSpec : ChangeSpec := { name := "borderFour", fn := fun _ => fun
  | [d1, d2] => { results := [.lit (.bool true)], args := [d1, d2] }
  | _ => none }
def borderFourRow : OpenClaim := { program := "ythlolelbmhfdbaa", sum := "8364cec2188875cfc425bb73f1fba016f8b350f0990cca515c699f24a0386474", func := "burin/burinlaw03.BorderFour", spec := "borderFour", unfollowed := true, recurses := true, plainKeys := false, apart := false }
def BorderFourSaid : Prop := borderFourRow.holds Try.pinned (OpenSpec.ofChange borderFourSpec)

/-- ITS FALSE NEIGHBOUR: 'it returns false'. Refute it at one input. -/
def borderFourWrong : ChangeSpec := { name := "borderFour", fn := fun _ => fun
  | [d1, d2] => { results := [.lit (.bool false)], args := [d1, d2] }
  | _ => none }
def BorderFourWrongFalsely : Prop := borderFourRow.holds Try.pinned (OpenSpec.ofChange borderFourWrong)

/-- 'burinlaw03.BorderGiven': WHATEVER THE INPUT: true; the input reads as it did. -/
def borderGivenSpec : ChangeSpec := { name := "borderGiven", fn := fun _ => fun
  | [d1, d2, d3] => { results := [.lit (.bool true)], args := [d1, d2, d3] }
  | _ => none }
def borderGivenRow : OpenClaim := { program := "ythlolelbmhfdbaa", sum := "8364cec2188875cfc425bb73f1fba016f8b350f0990cca515c699f24a0386474", func := "burin/burinlaw03.BorderGiven", spec := "borderGiven", unfollowed := true, recurses := true, plainKeys := false, apart := false }
def BorderGivenSaid : Prop := borderGivenRow.holds Try.pinned (OpenSpec.ofChange borderGivenSpec)

/-- ITS FALSE NEIGHBOUR: 'it returns false'. Refute it at one input. -/
def borderGivenWrong : ChangeSpec := { name := "borderGiven", fn := fun _ => fun
  | [d1, d2, d3] => { results := [.lit (.bool false)], args := [d1, d2, d3] }
  | _ => none }
def BorderGivenWrongFalsely : Prop := borderGivenRow.holds Try.pinned (OpenSpec.ofChange borderGivenWrong)

/-- 'burinlaw03.BorderRuns': WHATEVER THE INPUT: true; the input reads as it did. -/
def borderRunsSpec : ChangeSpec := { name := "borderRuns", fn := fun _ => fun
  | [d] => { results := [.lit (.bool true)], args := [d] }
  | _ => none }
def borderRunsRow : OpenClaim := { program := "ythlolelbmhfdbaa", sum := "8364cec2188875cfc425bb73f1fba016f8b350f0990cca515c699f24a0386474", func := "burin/burinlaw03.BorderRuns", spec := "borderRuns", unfollowed := true, recurses := true, plainKeys := false, apart := false }
def BorderRunsSaid : Prop := borderRunsRow.holds Try.pinned (OpenSpec.ofChange borderRunsSpec)

/-- ITS FALSE NEIGHBOUR: 'it returns false'. Refute it at one input. -/
def borderRunsWrong : ChangeSpec := { name := "borderRuns", fn := fun _ => fun
  | [d] => { results := [.lit (.bool false)], args := [d] }
  | _ => none }
def BorderRunsWrongFalsely : Prop := borderRunsRow.holds Try.pinned (OpenSpec.ofChange borderRunsWrong)

/-- 'burinlaw03.BorderNearer': WHATEVER THE INPUT: true; the input reads as it did. -/
def borderNearerSpec : ChangeSpec := { name := "borderNearer", fn := fun _ => fun
  | [d1, d2, d3] => { results := [.lit (.bool true)], args := [d1, d2, d3] }
  | _ => none }
def borderNearerRow : OpenClaim := { program := "ythlolelbmhfdbaa", sum := "8364cec2188875cfc425bb73f1fba016f8b350f0990cca515c699f24a0386474", func := "burin/burinlaw03.BorderNearer", spec := "borderNearer", unfollowed := true, recurses := true, plainKeys := false, apart := false }
def BorderNearerSaid : Prop := borderNearerRow.holds Try.pinned (OpenSpec.ofChange borderNearerSpec)

/-- ITS FALSE NEIGHBOUR: 'it returns false'. Refute it at one input. -/
def borderNearerWrong : ChangeSpec := { name := "borderNearer", fn := fun _ => fun
  | [d1, d2, d3] => { results := [.lit (.bool false)], args := [d1, d2, d3] }
  | _ => none }
def BorderNearerWrongFalsely : Prop := borderNearerRow.holds Try.pinned (OpenSpec.ofChange borderNearerWrong)

/-- 'burinlaw03.BorderRound': WHATEVER THE INPUT: true; the input reads as it did. -/
def borderRoundSpec : ChangeSpec := { name := "borderRound", fn := fun _ => fun
  | [d1, d2, d3] => { results := [.lit (.bool true)], args := [d1, d2, d3] }
  | _ => none }
def borderRoundRow : OpenClaim := { program := "ythlolelbmhfdbaa", sum := "8364cec2188875cfc425bb73f1fba016f8b350f0990cca515c699f24a0386474", func := "burin/burinlaw03.BorderRound", spec := "borderRound", unfollowed := true, recurses := true, plainKeys := false, apart := false }
def BorderRoundSaid : Prop := borderRoundRow.holds Try.pinned (OpenSpec.ofChange borderRoundSpec)

/-- ITS FALSE NEIGHBOUR: 'it returns false'. Refute it at one input. -/
def borderRoundWrong : ChangeSpec := { name := "borderRound", fn := fun _ => fun
  | [d1, d2, d3] => { results := [.lit (.bool false)], args := [d1, d2, d3] }
  | _ => none }
def BorderRoundWrongFalsely : Prop := borderRoundRow.holds Try.pinned (OpenSpec.ofChange borderRoundWrong)

/-- 'burinlaw03.BorderJoined': WHATEVER THE INPUT: true; the input reads as it did. -/
def borderJoinedSpec : ChangeSpec := { name := "borderJoined", fn := fun _ => fun
  | [d1, d2, d3, d4] => { results := [.lit (.bool true)], args := [d1, d2, d3, d4] }
  | _ => none }
def borderJoinedRow : OpenClaim := { program := "ythlolelbmhfdbaa", sum := "8364cec2188875cfc425bb73f1fba016f8b350f0990cca515c699f24a0386474", func := "burin/burinlaw03.BorderJoined", spec := "borderJoined", unfollowed := true, recurses := true, plainKeys := false, apart := false }
def BorderJoinedSaid : Prop := borderJoinedRow.holds Try.pinned (OpenSpec.ofChange borderJoinedSpec)

/-- ITS FALSE NEIGHBOUR: 'it returns false'. Refute it at one input. -/
def borderJoinedWrong : ChangeSpec := { name := "borderJoined", fn := fun _ => fun
  | [d1, d2, d3, d4] => { results := [.lit (.bool false)], args := [d1, d2, d3, d4] }
  | _ => none }
def BorderJoinedWrongFalsely : Prop := borderJoinedRow.holds Try.pinned (OpenSpec.ofChange borderJoinedWrong)

/-- 'burinlaw03.BorderKnown': WHATEVER THE INPUT: true; the input reads as it did. -/
def borderKnownSpec : ChangeSpec := { name := "borderKnown", fn := fun _ => fun
  | [] => { results := [.lit (.bool true)], args := [] }
  | _ => none }
def borderKnownRow : OpenClaim := { program := "ythlolelbmhfdbaa", sum := "8364cec2188875cfc425bb73f1fba016f8b350f0990cca515c699f24a0386474", func := "burin/burinlaw03.BorderKnown", spec := "borderKnown", unfollowed := true, recurses := true, plainKeys := false, apart := false }
def BorderKnownSaid : Prop := borderKnownRow.holds Try.pinned (OpenSpec.ofChange borderKnownSpec)

/-- ITS FALSE NEIGHBOUR: 'it returns false'. Refute it at one input. -/
def borderKnownWrong : ChangeSpec := { name := "borderKnown", fn := fun _ => fun
  | [] => { results := [.lit (.bool false)], args := [] }
  | _ => none }
def BorderKnownWrongFalsely : Prop := borderKnownRow.holds Try.pinned (OpenSpec.ofChange borderKnownWrong)

/- THE SECOND FORM. 'bulk': how many values and letters a reading holds, each counted each time it is reached (what is shared counts as often as it is met; a slice's spare places count too). A statement '..UptoSaid' is the law's where the arguments, and the package variables that the reading takes, are together of bulk at most 1048576: NARROWER than '..Said'. Prove '..Said' where nothing that the law and all that it calls make is longer than what came in: it says more and counts as full. Else prove '..UptoSaid'. A law counts once. -/
mutual
def uptoBulk {H : Type} : DataW H → Nat
  | .lit (.string bytes) => bytes.length + 1
  | .lit _ => 1
  | .nil => 1
  | .ptr d => uptoBulk d + 1
  | .slice elems spare => uptoBulkAll elems + uptoBulkAll spare + 1
  | .agg parts => uptoBulkAll parts + 1
  | .iface _ d => uptoBulk d + 1
  | .map entries => uptoBulkEntries entries + 1
  | .held _ => 1
def uptoBulkAll {H : Type} : List (DataW H) → Nat
  | [] => 0
  | d :: r => uptoBulk d + uptoBulkAll r
def uptoBulkEntries {H : Type} : List (Lit × DataW H) → Nat
  | [] => 0
  | x :: r => uptoBulkEntry x + uptoBulkEntries r
def uptoBulkEntry {H : Type} : Lit × DataW H → Nat
  | (.string bytes, d) => bytes.length + uptoBulk d + 1
  | (_, d) => uptoBulk d + 1
 end
def uptoSmall : (H : Type) → List (DataW H) → Bool := fun _ ds => decide (uptoBulkAll ds ≤ 1048576)
def OpenSpec.upto (s : _root_.Go.ChangeSpec) : _root_.Go.OpenSpec := { _root_.Go.OpenSpec.ofChange s with cond := some uptoSmall }

/-- 'burinlaw03.BorderSkies', WHERE WHAT IT READS IS OF BULK AT MOST 1048576: true; the input reads as it did. -/
def borderSkiesUptoRow : OpenClaim := { program := "ythlolelbmhfdbaa", sum := "8364cec2188875cfc425bb73f1fba016f8b350f0990cca515c699f24a0386474", func := "burin/burinlaw03.BorderSkies", spec := "borderSkies", unfollowed := true, recurses := true, plainKeys := false, apart := false, narrowed := true }
def BorderSkiesUptoSaid : Prop := borderSkiesUptoRow.holds Try.pinned (OpenSpec.upto borderSkiesSpec)

/-- 'burinlaw03.BorderSizes', WHERE WHAT IT READS IS OF BULK AT MOST 1048576: true; the input reads as it did. -/
def borderSizesUptoRow : OpenClaim := { program := "ythlolelbmhfdbaa", sum := "8364cec2188875cfc425bb73f1fba016f8b350f0990cca515c699f24a0386474", func := "burin/burinlaw03.BorderSizes", spec := "borderSizes", unfollowed := true, recurses := true, plainKeys := false, apart := false, narrowed := true }
def BorderSizesUptoSaid : Prop := borderSizesUptoRow.holds Try.pinned (OpenSpec.upto borderSizesSpec)

/-- 'burinlaw03.BorderTints', WHERE WHAT IT READS IS OF BULK AT MOST 1048576: true; the input reads as it did. -/
def borderTintsUptoRow : OpenClaim := { program := "ythlolelbmhfdbaa", sum := "8364cec2188875cfc425bb73f1fba016f8b350f0990cca515c699f24a0386474", func := "burin/burinlaw03.BorderTints", spec := "borderTints", unfollowed := true, recurses := true, plainKeys := false, apart := false, narrowed := true }
def BorderTintsUptoSaid : Prop := borderTintsUptoRow.holds Try.pinned (OpenSpec.upto borderTintsSpec)

/-- 'burinlaw03.BorderKinds', WHERE WHAT IT READS IS OF BULK AT MOST 1048576: true; the input reads as it did. -/
def borderKindsUptoRow : OpenClaim := { program := "ythlolelbmhfdbaa", sum := "8364cec2188875cfc425bb73f1fba016f8b350f0990cca515c699f24a0386474", func := "burin/burinlaw03.BorderKinds", spec := "borderKinds", unfollowed := true, recurses := true, plainKeys := false, apart := false, narrowed := true }
def BorderKindsUptoSaid : Prop := borderKindsUptoRow.holds Try.pinned (OpenSpec.upto borderKindsSpec)

/-- 'burinlaw03.BorderOnce', WHERE WHAT IT READS IS OF BULK AT MOST 1048576: true; the input reads as it did. -/
def borderOnceUptoRow : OpenClaim := { program := "ythlolelbmhfdbaa", sum := "8364cec2188875cfc425bb73f1fba016f8b350f0990cca515c699f24a0386474", func := "burin/burinlaw03.BorderOnce", spec := "borderOnce", unfollowed := true, recurses := true, plainKeys := false, apart := false, narrowed := true }
def BorderOnceUptoSaid : Prop := borderOnceUptoRow.holds Try.pinned (OpenSpec.upto borderOnceSpec)

/-- 'burinlaw03.BorderTurned', WHERE WHAT IT READS IS OF BULK AT MOST 1048576: true; the input reads as it did. -/
def borderTurnedUptoRow : OpenClaim := { program := "ythlolelbmhfdbaa", sum := "8364cec2188875cfc425bb73f1fba016f8b350f0990cca515c699f24a0386474", func := "burin/burinlaw03.BorderTurned", spec := "borderTurned", unfollowed := true, recurses := true, plainKeys := false, apart := false, narrowed := true }
def BorderTurnedUptoSaid : Prop := borderTurnedUptoRow.holds Try.pinned (OpenSpec.upto borderTurnedSpec)

/-- 'burinlaw03.BorderFour', WHERE WHAT IT READS IS OF BULK AT MOST 1048576: true; the input reads as it did. -/
def borderFourUptoRow : OpenClaim := { program := "ythlolelbmhfdbaa", sum := "8364cec2188875cfc425bb73f1fba016f8b350f0990cca515c699f24a0386474", func := "burin/burinlaw03.BorderFour", spec := "borderFour", unfollowed := true, recurses := true, plainKeys := false, apart := false, narrowed := true }
def BorderFourUptoSaid : Prop := borderFourUptoRow.holds Try.pinned (OpenSpec.upto borderFourSpec)

/-- 'burinlaw03.BorderGiven', WHERE WHAT IT READS IS OF BULK AT MOST 1048576: true; the input reads as it did. -/
def borderGivenUptoRow : OpenClaim := { program := "ythlolelbmhfdbaa", sum := "8364cec2188875cfc425bb73f1fba016f8b350f0990cca515c699f24a0386474", func := "burin/burinlaw03.BorderGiven", spec := "borderGiven", unfollowed := true, recurses := true, plainKeys := false, apart := false, narrowed := true }
def BorderGivenUptoSaid : Prop := borderGivenUptoRow.holds Try.pinned (OpenSpec.upto borderGivenSpec)

/-- 'burinlaw03.BorderRuns', WHERE WHAT IT READS IS OF BULK AT MOST 1048576: true; the input reads as it did. -/
def borderRunsUptoRow : OpenClaim := { program := "ythlolelbmhfdbaa", sum := "8364cec2188875cfc425bb73f1fba016f8b350f0990cca515c699f24a0386474", func := "burin/burinlaw03.BorderRuns", spec := "borderRuns", unfollowed := true, recurses := true, plainKeys := false, apart := false, narrowed := true }
def BorderRunsUptoSaid : Prop := borderRunsUptoRow.holds Try.pinned (OpenSpec.upto borderRunsSpec)

/-- 'burinlaw03.BorderNearer', WHERE WHAT IT READS IS OF BULK AT MOST 1048576: true; the input reads as it did. -/
def borderNearerUptoRow : OpenClaim := { program := "ythlolelbmhfdbaa", sum := "8364cec2188875cfc425bb73f1fba016f8b350f0990cca515c699f24a0386474", func := "burin/burinlaw03.BorderNearer", spec := "borderNearer", unfollowed := true, recurses := true, plainKeys := false, apart := false, narrowed := true }
def BorderNearerUptoSaid : Prop := borderNearerUptoRow.holds Try.pinned (OpenSpec.upto borderNearerSpec)

/-- 'burinlaw03.BorderRound', WHERE WHAT IT READS IS OF BULK AT MOST 1048576: true; the input reads as it did. -/
def borderRoundUptoRow : OpenClaim := { program := "ythlolelbmhfdbaa", sum := "8364cec2188875cfc425bb73f1fba016f8b350f0990cca515c699f24a0386474", func := "burin/burinlaw03.BorderRound", spec := "borderRound", unfollowed := true, recurses := true, plainKeys := false, apart := false, narrowed := true }
def BorderRoundUptoSaid : Prop := borderRoundUptoRow.holds Try.pinned (OpenSpec.upto borderRoundSpec)

/-- 'burinlaw03.BorderJoined', WHERE WHAT IT READS IS OF BULK AT MOST 1048576: true; the input reads as it did. -/
def borderJoinedUptoRow : OpenClaim := { program := "ythlolelbmhfdbaa", sum := "8364cec2188875cfc425bb73f1fba016f8b350f0990cca515c699f24a0386474", func := "burin/burinlaw03.BorderJoined", spec := "borderJoined", unfollowed := true, recurses := true, plainKeys := false, apart := false, narrowed := true }
def BorderJoinedUptoSaid : Prop := borderJoinedUptoRow.holds Try.pinned (OpenSpec.upto borderJoinedSpec)

/-- 'burinlaw03.BorderKnown', WHERE WHAT IT READS IS OF BULK AT MOST 1048576: true; the input reads as it did. -/
def borderKnownUptoRow : OpenClaim := { program := "ythlolelbmhfdbaa", sum := "8364cec2188875cfc425bb73f1fba016f8b350f0990cca515c699f24a0386474", func := "burin/burinlaw03.BorderKnown", spec := "borderKnown", unfollowed := true, recurses := true, plainKeys := false, apart := false, narrowed := true }
def BorderKnownUptoSaid : Prop := borderKnownUptoRow.holds Try.pinned (OpenSpec.upto borderKnownSpec)

end Rows
end Go.Proofs.Ythlolelbmhfdbaa

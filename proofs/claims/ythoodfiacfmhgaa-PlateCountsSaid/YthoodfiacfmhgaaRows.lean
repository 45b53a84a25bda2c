/-
  No cell of these rows narrows 'for every input' (looked for: loops, veiled, ifaces, maps, wideKeys, modest, calm, conditions, laid).
  DERIVED. THE GIVEN ROWS OF THIS SEAT. 14 by the template 'for every input the law returns true; each argument reads behind the call as it read before'; 0 by the template 'total and deterministic' (their statements: YthoodfiacfmhgaaTotals.lean).
  GIVEN WITH THE SEED: the statements are not yours to turn. If you find one false, say at which input.
  Laid BY PROGRAM, IN A SANDBOX (cutbox-rows.mjs): the forced cells as the released guide's own fill.sh prints them over the translation 650ec8fb0e99bfb8… (all of the seat's roots in one cut). By AI agents, Wed Nov 11 2026. No macro, syntax, notation, axiom, sorry.
-/
import Derived.Test.YthoodfiacfmhgaaChecked
import GoSem.Claim
import GoSem.ClaimJoined
import GoSem.ClaimMapViews
import Derived.JoinedTies
import Derived.KernelRfl
namespace Go.Proofs.Ythoodfiacfmhgaa
/- THE CELL 'sum', in the pinned program and in every row, IS THE sha256 OF THE DUMP (.gsa) THAT YthoodfiacfmhgaaProg.lean LOADS. Nothing in Lean hashes anything: it is a label: what it is worth is what the hold of that sum in a sandbox is worth. -/
noncomputable def Try.pinned : Pinned := { name := "ythoodfiacfmhgaa", sum := "650ec8fb0e99bfb8784dc7320fad45b0eab4dc0d757e18dd7c5ba567d99a4498", checked := Try.checked }
namespace Rows
def none {H : Type} : Left H := { results := [], args := [] }

/-- 'burinlaw04.PlateMoves': WHATEVER THE INPUT: true; the input reads as it did. -/
def plateMovesSpec : ChangeSpec := { name := "plateMoves", fn := fun _ => fun
  | [d1, d2] => { results := [.lit (.bool true)], args := [d1, d2] }
  | _ => none }
def plateMovesRow : OpenClaim := { program := "ythoodfiacfmhgaa", sum := "650ec8fb0e99bfb8784dc7320fad45b0eab4dc0d757e18dd7c5ba567d99a4498", func := "burin/burinlaw04.PlateMoves", spec := "plateMoves", unfollowed := true, recurses := true, plainKeys := false, apart := false }
def PlateMovesSaid : Prop := plateMovesRow.holds Try.pinned (OpenSpec.ofChange plateMovesSpec)

/-- ITS FALSE NEIGHBOUR: 'it returns false'. Refute it at one input. -/
def plateMovesWrong : ChangeSpec := { name := "plateMoves", fn := fun _ => fun
  | [d1, d2] => { results := [.lit (.bool false)], args := [d1, d2] }
  | _ => none }
def PlateMovesWrongFalsely : Prop := plateMovesRow.holds Try.pinned (OpenSpec.ofChange plateMovesWrong)

/-- 'burinlaw04.PlateMotions': WHATEVER THE INPUT: true; the input reads as it did. -/
def plateMotionsSpec : ChangeSpec := { name := "plateMotions", fn := fun _ => fun
  | [d1, d2, d3] => { results := [.lit (.bool true)], args := [d1, d2, d3] }
  | _ => none }
def plateMotionsRow : OpenClaim := { program := "ythoodfiacfmhgaa", sum := "650ec8fb0e99bfb8784dc7320fad45b0eab4dc0d757e18dd7c5ba567d99a4498", func := "burin/burinlaw04.PlateMotions", spec := "plateMotions", unfollowed := true, recurses := true, plainKeys := false, apart := false }
def PlateMotionsSaid : Prop := plateMotionsRow.holds Try.pinned (OpenSpec.ofChange plateMotionsSpec)

/-- ITS FALSE NEIGHBOUR: 'it returns false'. Refute it at one input. -/
def plateMotionsWrong : ChangeSpec := { name := "plateMotions", fn := fun _ => fun
  | [d1, d2, d3] => { results := [.lit (.bool false)], args := [d1, d2, d3] }
  | _ => none }
def PlateMotionsWrongFalsely : Prop := plateMotionsRow.holds Try.pinned (OpenSpec.ofChange plateMotionsWrong)

/-- 'burinlaw04.PlatePlans': WHATEVER THE INPUT: true; the input reads as it did. -/
def platePlansSpec : ChangeSpec := { name := "platePlans", fn := fun _ => fun
  | [d1, d2, d3] => { results := [.lit (.bool true)], args := [d1, d2, d3] }
  | _ => none }
def platePlansRow : OpenClaim := { program := "ythoodfiacfmhgaa", sum := "650ec8fb0e99bfb8784dc7320fad45b0eab4dc0d757e18dd7c5ba567d99a4498", func := "burin/burinlaw04.PlatePlans", spec := "platePlans", unfollowed := true, recurses := true, plainKeys := false, apart := false }
def PlatePlansSaid : Prop := platePlansRow.holds Try.pinned (OpenSpec.ofChange platePlansSpec)

/-- ITS FALSE NEIGHBOUR: 'it returns false'. Refute it at one input. -/
def platePlansWrong : ChangeSpec := { name := "platePlans", fn := fun _ => fun
  | [d1, d2, d3] => { results := [.lit (.bool false)], args := [d1, d2, d3] }
  | _ => none }
def PlatePlansWrongFalsely : Prop := platePlansRow.holds Try.pinned (OpenSpec.ofChange platePlansWrong)

/-- 'burinlaw04.PlateHeights': WHATEVER THE INPUT: true; the input reads as it did. -/
def plateHeightsSpec : ChangeSpec := { name := "plateHeights", fn := fun _ => fun
  | [d1, d2] => { results := [.lit (.bool true)], args := [d1, d2] }
  | _ => none }
def plateHeightsRow : OpenClaim := { program := "ythoodfiacfmhgaa", sum := "650ec8fb0e99bfb8784dc7320fad45b0eab4dc0d757e18dd7c5ba567d99a4498", func := "burin/burinlaw04.PlateHeights", spec := "plateHeights", unfollowed := true, recurses := true, plainKeys := false, apart := false }
def PlateHeightsSaid : Prop := plateHeightsRow.holds Try.pinned (OpenSpec.ofChange plateHeightsSpec)

/-- ITS FALSE NEIGHBOUR: 'it returns false'. Refute it at one input. -/
def plateHeightsWrong : ChangeSpec := { name := "plateHeights", fn := fun _ => fun
  | [d1, d2] => { results := [.lit (.bool false)], args := [d1, d2] }
  | _ => none }
def PlateHeightsWrongFalsely : Prop := plateHeightsRow.holds Try.pinned (OpenSpec.ofChange plateHeightsWrong)

/-- 'burinlaw04.PlateForms': WHATEVER THE INPUT: true; the input reads as it did. -/
def plateFormsSpec : ChangeSpec := { name := "plateForms", fn := fun _ => fun
  | [d1, d2, d3] => { results := [.lit (.bool true)], args := [d1, d2, d3] }
  | _ => none }
def plateFormsRow : OpenClaim := { program := "ythoodfiacfmhgaa", sum := "650ec8fb0e99bfb8784dc7320fad45b0eab4dc0d757e18dd7c5ba567d99a4498", func := "burin/burinlaw04.PlateForms", spec := "plateForms", unfollowed := true, recurses := true, plainKeys := false, apart := false }
def PlateFormsSaid : Prop := plateFormsRow.holds Try.pinned (OpenSpec.ofChange plateFormsSpec)

/-- ITS FALSE NEIGHBOUR: 'it returns false'. Refute it at one input. -/
def plateFormsWrong : ChangeSpec := { name := "plateForms", fn := fun _ => fun
  | [d1, d2, d3] => { results := [.lit (.bool false)], args := [d1, d2, d3] }
  | _ => none }
def PlateFormsWrongFalsely : Prop := plateFormsRow.holds Try.pinned (OpenSpec.ofChange plateFormsWrong)

/-- 'burinlaw04.PlateCounts': WHATEVER THE INPUT: true; the input reads as it did. -/
def plateCountsSpec : ChangeSpec := { name := "plateCounts", fn := fun _ => fun
  | [d1, d2, d3] => { results := [.lit (.bool true)], args := [d1, d2, d3] }
  | _ => none }
def plateCountsRow : OpenClaim := { program := "ythoodfiacfmhgaa", sum := "650ec8fb0e99bfb8784dc7320fad45b0eab4dc0d757e18dd7c5ba567d99a4498", func := "burin/burinlaw04.PlateCounts", spec := "plateCounts", unfollowed := true, recurses := true, plainKeys := false, apart := false }
def PlateCountsSaid : Prop := plateCountsRow.holds Try.pinned (OpenSpec.ofChange plateCountsSpec)

/-- ITS FALSE NEIGHBOUR: 'it returns false'. Refute it at one input. -/
def plateCountsWrong : ChangeSpec := { name := "plateCounts", fn := fun _ => fun
  | [d1, d2, d3] => { results := [.lit (.bool false)], args := [d1, d2, d3] }
  | _ => none }
def PlateCountsWrongFalsely : Prop := plateCountsRow.holds Try.pinned (OpenSpec.ofChange plateCountsWrong)

/-- 'burinlaw04.PlateProved': WHATEVER THE INPUT: true; the input reads as it did. -/
def plateProvedSpec : ChangeSpec := { name := "plateProved", fn := fun _ => fun
  | [d1, d2, d3, d4] => { results := [.lit (.bool true)], args := [d1, d2, d3, d4] }
  | _ => none }
def plateProvedRow : OpenClaim := { program := "ythoodfiacfmhgaa", sum := "650ec8fb0e99bfb8784dc7320fad45b0eab4dc0d757e18dd7c5ba567d99a4498", func := "burin/burinlaw04.PlateProved", spec := "plateProved", unfollowed := true, recurses := true, plainKeys := false, apart := false }
def PlateProvedSaid : Prop := plateProvedRow.holds Try.pinned (OpenSpec.ofChange plateProvedSpec)

/-- ITS FALSE NEIGHBOUR: 'it returns false'. Refute it at one input. -/
def plateProvedWrong : ChangeSpec := { name := "plateProved", fn := fun _ => fun
  | [d1, d2, d3, d4] => { results := [.lit (.bool false)], args := [d1, d2, d3, d4] }
  | _ => none }
def PlateProvedWrongFalsely : Prop := plateProvedRow.holds Try.pinned (OpenSpec.ofChange plateProvedWrong)

/-- 'burinlaw04.PlateMoved': WHATEVER THE INPUT: true; the input reads as it did. -/
def plateMovedSpec : ChangeSpec := { name := "plateMoved", fn := fun _ => fun
  | [d1, d2, d3, d4] => { results := [.lit (.bool true)], args := [d1, d2, d3, d4] }
  | _ => none }
def plateMovedRow : OpenClaim := { program := "ythoodfiacfmhgaa", sum := "650ec8fb0e99bfb8784dc7320fad45b0eab4dc0d757e18dd7c5ba567d99a4498", func := "burin/burinlaw04.PlateMoved", spec := "plateMoved", unfollowed := true, recurses := true, plainKeys := false, apart := false }
def PlateMovedSaid : Prop := plateMovedRow.holds Try.pinned (OpenSpec.ofChange plateMovedSpec)

/-- ITS FALSE NEIGHBOUR: 'it returns false'. Refute it at one input. -/
def plateMovedWrong : ChangeSpec := { name := "plateMoved", fn := fun _ => fun
  | [d1, d2, d3, d4] => { results := [.lit (.bool false)], args := [d1, d2, d3, d4] }
  | _ => none }
def PlateMovedWrongFalsely : Prop := plateMovedRow.holds Try.pinned (OpenSpec.ofChange plateMovedWrong)

/-- 'burinlaw04.PlateAlike': WHATEVER THE INPUT: true; the input reads as it did. -/
def plateAlikeSpec : ChangeSpec := { name := "plateAlike", fn := fun _ => fun
  | [d1, d2, d3, d4] => { results := [.lit (.bool true)], args := [d1, d2, d3, d4] }
  | _ => none }
def plateAlikeRow : OpenClaim := { program := "ythoodfiacfmhgaa", sum := "650ec8fb0e99bfb8784dc7320fad45b0eab4dc0d757e18dd7c5ba567d99a4498", func := "burin/burinlaw04.PlateAlike", spec := "plateAlike", unfollowed := true, recurses := true, plainKeys := false, apart := false }
def PlateAlikeSaid : Prop := plateAlikeRow.holds Try.pinned (OpenSpec.ofChange plateAlikeSpec)

/-- ITS FALSE NEIGHBOUR: 'it returns false'. Refute it at one input. -/
def plateAlikeWrong : ChangeSpec := { name := "plateAlike", fn := fun _ => fun
  | [d1, d2, d3, d4] => { results := [.lit (.bool false)], args := [d1, d2, d3, d4] }
  | _ => none }
def PlateAlikeWrongFalsely : Prop := plateAlikeRow.holds Try.pinned (OpenSpec.ofChange plateAlikeWrong)

/-- 'burinlaw04.PlateShared': WHATEVER THE INPUT: true; the input reads as it did. -/
def plateSharedSpec : ChangeSpec := { name := "plateShared", fn := fun _ => fun
  | [d1, d2] => { results := [.lit (.bool true)], args := [d1, d2] }
  | _ => none }
def plateSharedRow : OpenClaim := { program := "ythoodfiacfmhgaa", sum := "650ec8fb0e99bfb8784dc7320fad45b0eab4dc0d757e18dd7c5ba567d99a4498", func := "burin/burinlaw04.PlateShared", spec := "plateShared", unfollowed := true, recurses := true, plainKeys := false, apart := false }
def PlateSharedSaid : Prop := plateSharedRow.holds Try.pinned (OpenSpec.ofChange plateSharedSpec)

/-- ITS FALSE NEIGHBOUR: 'it returns false'. Refute it at one input. -/
def plateSharedWrong : ChangeSpec := { name := "plateShared", fn := fun _ => fun
  | [d1, d2] => { results := [.lit (.bool false)], args := [d1, d2] }
  | _ => none }
def PlateSharedWrongFalsely : Prop := plateSharedRow.holds Try.pinned (OpenSpec.ofChange plateSharedWrong)

/-- 'burinlaw04.PlateCounted': WHATEVER THE INPUT: true; the input reads as it did. -/
def plateCountedSpec : ChangeSpec := { name := "plateCounted", fn := fun _ => fun
  | [d1, d2, d3] => { results := [.lit (.bool true)], args := [d1, d2, d3] }
  | _ => none }
def plateCountedRow : OpenClaim := { program := "ythoodfiacfmhgaa", sum := "650ec8fb0e99bfb8784dc7320fad45b0eab4dc0d757e18dd7c5ba567d99a4498", func := "burin/burinlaw04.PlateCounted", spec := "plateCounted", unfollowed := true, recurses := true, plainKeys := false, apart := false }
def PlateCountedSaid : Prop := plateCountedRow.holds Try.pinned (OpenSpec.ofChange plateCountedSpec)

/-- ITS FALSE NEIGHBOUR: 'it returns false'. Refute it at one input. -/
def plateCountedWrong : ChangeSpec := { name := "plateCounted", fn := fun _ => fun
  | [d1, d2, d3] => { results := [.lit (.bool false)], args := [d1, d2, d3] }
  | _ => none }
def PlateCountedWrongFalsely : Prop := plateCountedRow.holds Try.pinned (OpenSpec.ofChange plateCountedWrong)

/-- 'burinlaw04.PlateKept': WHATEVER THE INPUT: true; the input reads as it did. -/
def plateKeptSpec : ChangeSpec := { name := "plateKept", fn := fun _ => fun
  | [d1, d2] => { results := [.lit (.bool true)], args := [d1, d2] }
  | _ => none }
def plateKeptRow : OpenClaim := { program := "ythoodfiacfmhgaa", sum := "650ec8fb0e99bfb8784dc7320fad45b0eab4dc0d757e18dd7c5ba567d99a4498", func := "burin/burinlaw04.PlateKept", spec := "plateKept", unfollowed := true, recurses := true, plainKeys := false, apart := false }
def PlateKeptSaid : Prop := plateKeptRow.holds Try.pinned (OpenSpec.ofChange plateKeptSpec)

/-- ITS FALSE NEIGHBOUR: 'it returns false'. Refute it at one input. -/
def plateKeptWrong : ChangeSpec := { name := "plateKept", fn := fun _ => fun
  | [d1, d2] => { results := [.lit (.bool false)], args := [d1, d2] }
  | _ => none }
def PlateKeptWrongFalsely : Prop := plateKeptRow.holds Try.pinned (OpenSpec.ofChange plateKeptWrong)

/-- 'burinlaw04.PlateMore': WHATEVER THE INPUT: true; the input reads as it did. -/
def plateMoreSpec : ChangeSpec := { name := "plateMore", fn := fun _ => fun
  | [d1, d2, d3, d4, d5, d6] => { results := [.lit (.bool true)], args := [d1, d2, d3, d4, d5, d6] }
  | _ => none }
def plateMoreRow : OpenClaim := { program := "ythoodfiacfmhgaa", sum := "650ec8fb0e99bfb8784dc7320fad45b0eab4dc0d757e18dd7c5ba567d99a4498", func := "burin/burinlaw04.PlateMore", spec := "plateMore", unfollowed := true, recurses := true, plainKeys := false, apart := false }
def PlateMoreSaid : Prop := plateMoreRow.holds Try.pinned (OpenSpec.ofChange plateMoreSpec)

/-- ITS FALSE NEIGHBOUR: 'it returns false'. Refute it at one input. -/
def plateMoreWrong : ChangeSpec := { name := "plateMore", fn := fun _ => fun
  | [d1, d2, d3, d4, d5, d6] => { results := [.lit (.bool false)], args := [d1, d2, d3, d4, d5, d6] }
  | _ => none }
def PlateMoreWrongFalsely : Prop := plateMoreRow.holds Try.pinned (OpenSpec.ofChange plateMoreWrong)

/-- 'burinlaw04.PlateKnown': WHATEVER THE INPUT: true; the input reads as it did. -/
def plateKnownSpec : ChangeSpec := { name := "plateKnown", fn := fun _ => fun
  | [] => { results := [.lit (.bool true)], args := [] }
  | _ => none }
def plateKnownRow : OpenClaim := { program := "ythoodfiacfmhgaa", sum := "650ec8fb0e99bfb8784dc7320fad45b0eab4dc0d757e18dd7c5ba567d99a4498", func := "burin/burinlaw04.PlateKnown", spec := "plateKnown", unfollowed := true, recurses := true, plainKeys := false, apart := false }
def PlateKnownSaid : Prop := plateKnownRow.holds Try.pinned (OpenSpec.ofChange plateKnownSpec)

/-- ITS FALSE NEIGHBOUR: 'it returns false'. Refute it at one input. -/
def plateKnownWrong : ChangeSpec := { name := "plateKnown", fn := fun _ => fun
  | [] => { results := [.lit (.bool false)], args := [] }
  | _ => none }
def PlateKnownWrongFalsely : Prop := plateKnownRow.holds Try.pinned (OpenSpec.ofChange plateKnownWrong)

/- THE SECOND FORM. 'bulk': how many values and letters a reading holds, each counted each time it is reached (what is shared counts as often as it is met; a slice's spare places count too). A statement '..UptoSaid' is the law's where the arguments, and the package variables that the reading takes, are together of bulk at most 1048576: NARROWER than '..Said'. Prove '..Said' where nothing that the law and all that it calls make is longer than what came in: it says more and counts as full. Else prove '..UptoSaid'. A law counts once. -/
mutual
def uptoBulk {H : Type} : DataW H → Nat
  | .lit (.string bytes) => bytes.length + 1
  | .lit _ => 1
  | .nil => 1
  | .ptr d => uptoBulk d + 1
  | .slice elems spare => uptoBulkAll elems + uptoBulkAll spare + 1
  | .agg parts => uptoBulkAll parts + 1
  | .iface _ d => uptoBulk d + 1
  | .map entries => uptoBulkEntries entries + 1
  | .held _ => 1
def uptoBulkAll {H : Type} : List (DataW H) → Nat
  | [] => 0
  | d :: r => uptoBulk d + uptoBulkAll r
def uptoBulkEntries {H : Type} : List (Lit × DataW H) → Nat
  | [] => 0
  | x :: r => uptoBulkEntry x + uptoBulkEntries r
def uptoBulkEntry {H : Type} : Lit × DataW H → Nat
  | (.string bytes, d) => bytes.length + uptoBulk d + 1
  | (_, d) => uptoBulk d + 1
 end
def uptoSmall : (H : Type) → List (DataW H) → Bool := fun _ ds => decide (uptoBulkAll ds ≤ 1048576)
def OpenSpec.upto (s : _root_.Go.ChangeSpec) : _root_.Go.OpenSpec := { _root_.Go.OpenSpec.ofChange s with cond := some uptoSmall }

/-- 'burinlaw04.PlateMoves', WHERE WHAT IT READS IS OF BULK AT MOST 1048576: true; the input reads as it did. -/
def plateMovesUptoRow : OpenClaim := { program := "ythoodfiacfmhgaa", sum := "650ec8fb0e99bfb8784dc7320fad45b0eab4dc0d757e18dd7c5ba567d99a4498", func := "burin/burinlaw04.PlateMoves", spec := "plateMoves", unfollowed := true, recurses := true, plainKeys := false, apart := false, narrowed := true }
def PlateMovesUptoSaid : Prop := plateMovesUptoRow.holds Try.pinned (OpenSpec.upto plateMovesSpec)

/-- 'burinlaw04.PlateMotions', WHERE WHAT IT READS IS OF BULK AT MOST 1048576: true; the input reads as it did. -/
def plateMotionsUptoRow : OpenClaim := { program := "ythoodfiacfmhgaa", sum := "650ec8fb0e99bfb8784dc7320fad45b0eab4dc0d757e18dd7c5ba567d99a4498", func := "burin/burinlaw04.PlateMotions", spec := "plateMotions", unfollowed := true, recurses := true, plainKeys := false, apart := false, narrowed := true }
def PlateMotionsUptoSaid : Prop := plateMotionsUptoRow.holds Try.pinned (OpenSpec.upto plateMotionsSpec)

/-- 'burinlaw04.PlatePlans', WHERE WHAT IT READS IS OF BULK AT MOST 1048576: true; the input reads as it did. -/
def platePlansUptoRow : OpenClaim := { program := "ythoodfiacfmhgaa", sum := "650ec8fb0e99bfb8784dc7320fad45b0eab4dc0d757e18dd7c5ba567d99a4498", func := "burin/burinlaw04.PlatePlans", spec := "platePlans", unfollowed := true, recurses := true, plainKeys := false, apart := false, narrowed := true }
def PlatePlansUptoSaid : Prop := platePlansUptoRow.holds Try.pinned (OpenSpec.upto platePlansSpec)

/-- 'burinlaw04.PlateHeights', WHERE WHAT IT READS IS OF BULK AT MOST 1048576: true; the input reads as it did. -/
def plateHeightsUptoRow : OpenClaim := { program := "ythoodfiacfmhgaa", sum := "650ec8fb0e99bfb8784dc7320fad45b0eab4dc0d757e18dd7c5ba567d99a4498", func := "burin/burinlaw04.PlateHeights", spec := "plateHeights", unfollowed := true, recurses := true, plainKeys := false, apart := false, narrowed := true }
def PlateHeightsUptoSaid : Prop := plateHeightsUptoRow.holds Try.pinned (OpenSpec.upto plateHeightsSpec)

/-- 'burinlaw04.PlateForms', WHERE WHAT IT READS IS OF BULK AT MOST 1048576: true; the input reads as it did. -/
def plateFormsUptoRow : OpenClaim := { program := "ythoodfiacfmhgaa", sum := "650ec8fb0e99bfb8784dc7320fad45b0eab4dc0d757e18dd7c5ba567d99a4498", func := "burin/burinlaw04.PlateForms", spec := "plateForms", unfollowed := true, recurses := true, plainKeys := false, apart := false, narrowed := true }
def PlateFormsUptoSaid : Prop := plateFormsUptoRow.holds Try.pinned (OpenSpec.upto plateFormsSpec)

/-- 'burinlaw04.PlateCounts', WHERE WHAT IT READS IS OF BULK AT MOST 1048576: true; the input reads as it did. -/
def plateCountsUptoRow : OpenClaim := { program := "ythoodfiacfmhgaa", sum := "650ec8fb0e99bfb8784dc7320fad45b0eab4dc0d757e18dd7c5ba567d99a4498", func := "burin/burinlaw04.PlateCounts", spec := "plateCounts", unfollowed := true, recurses := true, plainKeys := false, apart := false, narrowed := true }
def PlateCountsUptoSaid : Prop := plateCountsUptoRow.holds Try.pinned (OpenSpec.upto plateCountsSpec)

/-- 'burinlaw04.PlateProved', WHERE WHAT IT READS IS OF BULK AT MOST 1048576: true; the input reads as it did. -/
def plateProvedUptoRow : OpenClaim := { program := "ythoodfiacfmhgaa", sum := "650ec8fb0e99bfb8784dc7320fad45b0eab4dc0d757e18dd7c5ba567d99a4498", func := "burin/burinlaw04.PlateProved", spec := "plateProved", unfollowed := true, recurses := true, plainKeys := false, apart := false, narrowed := true }
def PlateProvedUptoSaid : Prop := plateProvedUptoRow.holds Try.pinned (OpenSpec.upto plateProvedSpec)

/-- 'burinlaw04.PlateMoved', WHERE WHAT IT READS IS OF BULK AT MOST 1048576: true; the input reads as it did. -/
def plateMovedUptoRow : OpenClaim := { program := "ythoodfiacfmhgaa", sum := "650ec8fb0e99bfb8784dc7320fad45b0eab4dc0d757e18dd7c5ba567d99a4498", func := "burin/burinlaw04.PlateMoved", spec := "plateMoved", unfollowed := true, recurses := true, plainKeys := false, apart := false, narrowed := true }
def PlateMovedUptoSaid : Prop := plateMovedUptoRow.holds Try.pinned (OpenSpec.upto plateMovedSpec)

/-- 'burinlaw04.PlateAlike', WHERE WHAT IT READS IS OF BULK AT MOST 1048576: true; the input reads as it did. -/
def plateAlikeUptoRow : OpenClaim := { program := "ythoodfiacfmhgaa", sum := "650ec8fb0e99bfb8784dc7320fad45b0eab4dc0d757e18dd7c5ba567d99a4498", func := "burin/burinlaw04.PlateAlike", spec := "plateAlike", unfollowed := true, recurses := true, plainKeys := false, apart := false, narrowed := true }
def PlateAlikeUptoSaid : Prop := plateAlikeUptoRow.holds Try.pinned (OpenSpec.upto plateAlikeSpec)

/-- 'burinlaw04.PlateShared', WHERE WHAT IT READS IS OF BULK AT MOST 1048576: true; the input reads as it did. -/
def plateSharedUptoRow : OpenClaim := { program := "ythoodfiacfmhgaa", sum := "650ec8fb0e99bfb8784dc7320fad45b0eab4dc0d757e18dd7c5ba567d99a4498", func := "burin/burinlaw04.PlateShared", spec := "plateShared", unfollowed := true, recurses := true, plainKeys := false, apart := false, narrowed := true }
def PlateSharedUptoSaid : Prop := plateSharedUptoRow.holds Try.pinned (OpenSpec.upto plateSharedSpec)

/-- 'burinlaw04.PlateCounted', WHERE WHAT IT READS IS OF BULK AT MOST 1048576: true; the input reads as it did. -/
def plateCountedUptoRow : OpenClaim := { program := "ythoodfiacfmhgaa", sum := "650ec8fb0e99bfb8784dc7320fad45b0eab4dc0d757e18dd7c5ba567d99a4498", func := "burin/burinlaw04.PlateCounted", spec := "plateCounted", unfollowed := true, recurses := true, plainKeys := false, apart := false, narrowed := true }
def PlateCountedUptoSaid : Prop := plateCountedUptoRow.holds Try.pinned (OpenSpec.upto plateCountedSpec)

/-- 'burinlaw04.PlateKept', WHERE WHAT IT READS IS OF BULK AT MOST 1048576: true; the input reads as it did. -/
def plateKeptUptoRow : OpenClaim := { program := "ythoodfiacfmhgaa", sum := "650ec8fb0e99bfb8784dc7320fad45b0eab4dc0d757e18dd7c5ba567d99a4498", func := "burin/burinlaw04.PlateKept", spec := "plateKept", unfollowed := true, recurses := true, plainKeys := false, apart := false, narrowed := true }
def PlateKeptUptoSaid : Prop := plateKeptUptoRow.holds Try.pinned (OpenSpec.upto plateKeptSpec)

/-- 'burinlaw04.PlateMore', WHERE WHAT IT READS IS OF BULK AT MOST 1048576: true; the input reads as it did. -/
def plateMoreUptoRow : OpenClaim := { program := "ythoodfiacfmhgaa", sum := "650ec8fb0e99bfb8784dc7320fad45b0eab4dc0d757e18dd7c5ba567d99a4498", func := "burin/burinlaw04.PlateMore", spec := "plateMore", unfollowed := true, recurses := true, plainKeys := false, apart := false, narrowed := true }
def PlateMoreUptoSaid : Prop := plateMoreUptoRow.holds Try.pinned (OpenSpec.upto plateMoreSpec)

/-- 'burinlaw04.PlateKnown', WHERE WHAT IT READS IS OF BULK AT MOST 1048576: true; the input reads as it did. -/
def plateKnownUptoRow : OpenClaim := { program := "ythoodfiacfmhgaa", sum := "650ec8fb0e99bfb8784dc7320fad45b0eab4dc0d757e18dd7c5ba567d99a4498", func := "burin/burinlaw04.PlateKnown", spec := "plateKnown", unfollowed := true, recurses := true, plainKeys := false, apart := false, narrowed := true }
def PlateKnownUptoSaid : Prop := plateKnownUptoRow.holds Try.pinned (OpenSpec.upto plateKnownSpec)

end Rows
end Go.Proofs.Ythoodfiacfmhgaa

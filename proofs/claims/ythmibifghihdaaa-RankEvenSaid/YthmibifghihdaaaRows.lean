/-
  No cell of these rows narrows 'for every input' (looked for: loops, veiled, ifaces, maps, wideKeys, modest, calm, conditions, laid).
  DERIVED. THE GIVEN ROWS OF THIS SEAT. 15 by the template 'for every input the law returns true; each argument reads behind the call as it read before'; 0 by the template 'total and deterministic' (their statements: YthmibifghihdaaaTotals.lean).
  GIVEN WITH THE SEED: the statements are not yours to turn. If you find one false, say at which input.
  Laid BY PROGRAM, IN A SANDBOX (cutbox-rows.mjs): the forced cells as the released guide's own fill.sh prints them over the translation a01b01fad8b6c836… (all of the seat's roots in one cut). By AI agents, Wed Nov 11 2026. No macro, syntax, notation, axiom, sorry.
-/
import Derived.Test.YthmibifghihdaaaChecked
import GoSem.Claim
import GoSem.ClaimJoined
import GoSem.ClaimMapViews
import Derived.JoinedTies
import Derived.KernelRfl
namespace Go.Proofs.Ythmibifghihdaaa
/- THE CELL 'sum', in the pinned program and in every row, IS THE sha256 OF THE DUMP (.gsa) THAT YthmibifghihdaaaProg.lean LOADS. Nothing in Lean hashes anything: it is a label: what it is worth is what the hold of that sum in a sandbox is worth. -/
noncomputable def Try.pinned : Pinned := { name := "ythmibifghihdaaa", sum := "a01b01fad8b6c8368b046259e511a64bc902015016a9514868421974da2bd3c7", checked := Try.checked }
namespace Rows
def none {H : Type} : Left H := { results := [], args := [] }

/-- 'burinlaw08.RankBooks': WHATEVER THE INPUT: true; the input reads as it did. -/
def rankBooksSpec : ChangeSpec := { name := "rankBooks", fn := fun _ => fun
  | [d1, d2] => { results := [.lit (.bool true)], args := [d1, d2] }
  | _ => none }
def rankBooksRow : OpenClaim := { program := "ythmibifghihdaaa", sum := "a01b01fad8b6c8368b046259e511a64bc902015016a9514868421974da2bd3c7", func := "burin/burinlaw08.RankBooks", spec := "rankBooks", unfollowed := true, recurses := true, plainKeys := false, apart := false }
def RankBooksSaid : Prop := rankBooksRow.holds Try.pinned (OpenSpec.ofChange rankBooksSpec)

/-- ITS FALSE NEIGHBOUR: 'it returns false'. Refute it at one input. -/
def rankBooksWrong : ChangeSpec := { name := "rankBooks", fn := fun _ => fun
  | [d1, d2] => { results := [.lit (.bool false)], args := [d1, d2] }
  | _ => none }
def RankBooksWrongFalsely : Prop := rankBooksRow.holds Try.pinned (OpenSpec.ofChange rankBooksWrong)

/-- 'burinlaw08.RankOrders': WHATEVER THE INPUT: true; the input reads as it did. -/
def rankOrdersSpec : ChangeSpec := { name := "rankOrders", fn := fun _ => fun
  | [d] => { results := [.lit (.bool true)], args := [d] }
  | _ => none }
def rankOrdersRow : OpenClaim := { program := "ythmibifghihdaaa", sum := "a01b01fad8b6c8368b046259e511a64bc902015016a9514868421974da2bd3c7", func := "burin/burinlaw08.RankOrders", spec := "rankOrders", unfollowed := true, recurses := true, plainKeys := false, apart := false }
def RankOrdersSaid : Prop := rankOrdersRow.holds Try.pinned (OpenSpec.ofChange rankOrdersSpec)

/-- ITS FALSE NEIGHBOUR: 'it returns false'. Refute it at one input. -/
def rankOrdersWrong : ChangeSpec := { name := "rankOrders", fn := fun _ => fun
  | [d] => { results := [.lit (.bool false)], args := [d] }
  | _ => none }
def RankOrdersWrongFalsely : Prop := rankOrdersRow.holds Try.pinned (OpenSpec.ofChange rankOrdersWrong)

/-- 'burinlaw08.RankKinds': WHATEVER THE INPUT: true; the input reads as it did. -/
def rankKindsSpec : ChangeSpec := { name := "rankKinds", fn := fun _ => fun
  | [d1, d2, d3] => { results := [.lit (.bool true)], args := [d1, d2, d3] }
  | _ => none }
def rankKindsRow : OpenClaim := { program := "ythmibifghihdaaa", sum := "a01b01fad8b6c8368b046259e511a64bc902015016a9514868421974da2bd3c7", func := "burin/burinlaw08.RankKinds", spec := "rankKinds", unfollowed := true, recurses := true, plainKeys := false, apart := false }
def RankKindsSaid : Prop := rankKindsRow.holds Try.pinned (OpenSpec.ofChange rankKindsSpec)

/-- ITS FALSE NEIGHBOUR: 'it returns false'. Refute it at one input. -/
def rankKindsWrong : ChangeSpec := { name := "rankKinds", fn := fun _ => fun
  | [d1, d2, d3] => { results := [.lit (.bool false)], args := [d1, d2, d3] }
  | _ => none }
def RankKindsWrongFalsely : Prop := rankKindsRow.holds Try.pinned (OpenSpec.ofChange rankKindsWrong)

/-- 'burinlaw08.RankRanks': WHATEVER THE INPUT: true; the input reads as it did. -/
def rankRanksSpec : ChangeSpec := { name := "rankRanks", fn := fun _ => fun
  | [d1, d2] => { results := [.lit (.bool true)], args := [d1, d2] }
  | _ => none }
def rankRanksRow : OpenClaim := { program := "ythmibifghihdaaa", sum := "a01b01fad8b6c8368b046259e511a64bc902015016a9514868421974da2bd3c7", func := "burin/burinlaw08.RankRanks", spec := "rankRanks", unfollowed := true, recurses := true, plainKeys := false, apart := false }
def RankRanksSaid : Prop := rankRanksRow.holds Try.pinned (OpenSpec.ofChange rankRanksSpec)

/-- ITS FALSE NEIGHBOUR: 'it returns false'. Refute it at one input. -/
def rankRanksWrong : ChangeSpec := { name := "rankRanks", fn := fun _ => fun
  | [d1, d2] => { results := [.lit (.bool false)], args := [d1, d2] }
  | _ => none }
def RankRanksWrongFalsely : Prop := rankRanksRow.holds Try.pinned (OpenSpec.ofChange rankRanksWrong)

/-- 'burinlaw08.RankDepths': WHATEVER THE INPUT: true; the input reads as it did. -/
def rankDepthsSpec : ChangeSpec := { name := "rankDepths", fn := fun _ => fun
  | [d] => { results := [.lit (.bool true)], args := [d] }
  | _ => none }
def rankDepthsRow : OpenClaim := { program := "ythmibifghihdaaa", sum := "a01b01fad8b6c8368b046259e511a64bc902015016a9514868421974da2bd3c7", func := "burin/burinlaw08.RankDepths", spec := "rankDepths", unfollowed := true, recurses := true, plainKeys := false, apart := false }
def RankDepthsSaid : Prop := rankDepthsRow.holds Try.pinned (OpenSpec.ofChange rankDepthsSpec)

/-- ITS FALSE NEIGHBOUR: 'it returns false'. Refute it at one input. -/
def rankDepthsWrong : ChangeSpec := { name := "rankDepths", fn := fun _ => fun
  | [d] => { results := [.lit (.bool false)], args := [d] }
  | _ => none }
def RankDepthsWrongFalsely : Prop := rankDepthsRow.holds Try.pinned (OpenSpec.ofChange rankDepthsWrong)

/-- 'burinlaw08.RankEither': WHATEVER THE INPUT: true; the input reads as it did. -/
def rankEitherSpec : ChangeSpec := { name := "rankEither", fn := fun _ => fun
  | [d1, d2] => { results := [.lit (.bool true)], args := [d1, d2] }
  | _ => none }
def rankEitherRow : OpenClaim := { program := "ythmibifghihdaaa", sum := "a01b01fad8b6c8368b046259e511a64bc902015016a9514868421974da2bd3c7", func := "burin/burinlaw08.RankEither", spec := "rankEither", unfollowed := true, recurses := true, plainKeys := false, apart := false }
def RankEitherSaid : Prop := rankEitherRow.holds Try.pinned (OpenSpec.ofChange rankEitherSpec)

/-- ITS FALSE NEIGHBOUR: 'it returns false'. Refute it at one input. -/
def rankEitherWrong : ChangeSpec := { name := "rankEither", fn := fun _ => fun
  | [d1, d2] => { results := [.lit (.bool false)], args := [d1, d2] }
  | _ => none }
def RankEitherWrongFalsely : Prop := rankEitherRow.holds Try.pinned (OpenSpec.ofChange rankEitherWrong)

/-- 'burinlaw08.RankSpanned': WHATEVER THE INPUT: true; the input reads as it did. -/
def rankSpannedSpec : ChangeSpec := { name := "rankSpanned", fn := fun _ => fun
  | [d1, d2, d3] => { results := [.lit (.bool true)], args := [d1, d2, d3] }
  | _ => none }
def rankSpannedRow : OpenClaim := { program := "ythmibifghihdaaa", sum := "a01b01fad8b6c8368b046259e511a64bc902015016a9514868421974da2bd3c7", func := "burin/burinlaw08.RankSpanned", spec := "rankSpanned", unfollowed := true, recurses := true, plainKeys := false, apart := false }
def RankSpannedSaid : Prop := rankSpannedRow.holds Try.pinned (OpenSpec.ofChange rankSpannedSpec)

/-- ITS FALSE NEIGHBOUR: 'it returns false'. Refute it at one input. -/
def rankSpannedWrong : ChangeSpec := { name := "rankSpanned", fn := fun _ => fun
  | [d1, d2, d3] => { results := [.lit (.bool false)], args := [d1, d2, d3] }
  | _ => none }
def RankSpannedWrongFalsely : Prop := rankSpannedRow.holds Try.pinned (OpenSpec.ofChange rankSpannedWrong)

/-- 'burinlaw08.RankSummed': WHATEVER THE INPUT: true; the input reads as it did. -/
def rankSummedSpec : ChangeSpec := { name := "rankSummed", fn := fun _ => fun
  | [d1, d2, d3] => { results := [.lit (.bool true)], args := [d1, d2, d3] }
  | _ => none }
def rankSummedRow : OpenClaim := { program := "ythmibifghihdaaa", sum := "a01b01fad8b6c8368b046259e511a64bc902015016a9514868421974da2bd3c7", func := "burin/burinlaw08.RankSummed", spec := "rankSummed", unfollowed := true, recurses := true, plainKeys := false, apart := false }
def RankSummedSaid : Prop := rankSummedRow.holds Try.pinned (OpenSpec.ofChange rankSummedSpec)

/-- ITS FALSE NEIGHBOUR: 'it returns false'. Refute it at one input. -/
def rankSummedWrong : ChangeSpec := { name := "rankSummed", fn := fun _ => fun
  | [d1, d2, d3] => { results := [.lit (.bool false)], args := [d1, d2, d3] }
  | _ => none }
def RankSummedWrongFalsely : Prop := rankSummedRow.holds Try.pinned (OpenSpec.ofChange rankSummedWrong)

/-- 'burinlaw08.RankEven': WHATEVER THE INPUT: true; the input reads as it did. -/
def rankEvenSpec : ChangeSpec := { name := "rankEven", fn := fun _ => fun
  | [d] => { results := [.lit (.bool true)], args := [d] }
  | _ => none }
def rankEvenRow : OpenClaim := { program := "ythmibifghihdaaa", sum := "a01b01fad8b6c8368b046259e511a64bc902015016a9514868421974da2bd3c7", func := "burin/burinlaw08.RankEven", spec := "rankEven", unfollowed := true, recurses := true, plainKeys := false, apart := false }
def RankEvenSaid : Prop := rankEvenRow.holds Try.pinned (OpenSpec.ofChange rankEvenSpec)

/-- ITS FALSE NEIGHBOUR: 'it returns false'. Refute it at one input. -/
def rankEvenWrong : ChangeSpec := { name := "rankEven", fn := fun _ => fun
  | [d] => { results := [.lit (.bool false)], args := [d] }
  | _ => none }
def RankEvenWrongFalsely : Prop := rankEvenRow.holds Try.pinned (OpenSpec.ofChange rankEvenWrong)

/-- 'burinlaw08.RankHelped': WHATEVER THE INPUT: true; the input reads as it did. -/
def rankHelpedSpec : ChangeSpec := { name := "rankHelped", fn := fun _ => fun
  | [d1, d2, d3, d4] => { results := [.lit (.bool true)], args := [d1, d2, d3, d4] }
  | _ => none }
def rankHelpedRow : OpenClaim := { program := "ythmibifghihdaaa", sum := "a01b01fad8b6c8368b046259e511a64bc902015016a9514868421974da2bd3c7", func := "burin/burinlaw08.RankHelped", spec := "rankHelped", unfollowed := true, recurses := true, plainKeys := false, apart := false }
def RankHelpedSaid : Prop := rankHelpedRow.holds Try.pinned (OpenSpec.ofChange rankHelpedSpec)

/-- ITS FALSE NEIGHBOUR: 'it returns false'. Refute it at one input. -/
def rankHelpedWrong : ChangeSpec := { name := "rankHelped", fn := fun _ => fun
  | [d1, d2, d3, d4] => { results := [.lit (.bool false)], args := [d1, d2, d3, d4] }
  | _ => none }
def RankHelpedWrongFalsely : Prop := rankHelpedRow.holds Try.pinned (OpenSpec.ofChange rankHelpedWrong)

/-- 'burinlaw08.RankThird': WHATEVER THE INPUT: true; the input reads as it did. -/
def rankThirdSpec : ChangeSpec := { name := "rankThird", fn := fun _ => fun
  | [d] => { results := [.lit (.bool true)], args := [d] }
  | _ => none }
def rankThirdRow : OpenClaim := { program := "ythmibifghihdaaa", sum := "a01b01fad8b6c8368b046259e511a64bc902015016a9514868421974da2bd3c7", func := "burin/burinlaw08.RankThird", spec := "rankThird", unfollowed := true, recurses := true, plainKeys := false, apart := false }
def RankThirdSaid : Prop := rankThirdRow.holds Try.pinned (OpenSpec.ofChange rankThirdSpec)

/-- ITS FALSE NEIGHBOUR: 'it returns false'. Refute it at one input. -/
def rankThirdWrong : ChangeSpec := { name := "rankThird", fn := fun _ => fun
  | [d] => { results := [.lit (.bool false)], args := [d] }
  | _ => none }
def RankThirdWrongFalsely : Prop := rankThirdRow.holds Try.pinned (OpenSpec.ofChange rankThirdWrong)

/-- 'burinlaw08.RankTurned': WHATEVER THE INPUT: true; the input reads as it did. -/
def rankTurnedSpec : ChangeSpec := { name := "rankTurned", fn := fun _ => fun
  | [d1, d2] => { results := [.lit (.bool true)], args := [d1, d2] }
  | _ => none }
def rankTurnedRow : OpenClaim := { program := "ythmibifghihdaaa", sum := "a01b01fad8b6c8368b046259e511a64bc902015016a9514868421974da2bd3c7", func := "burin/burinlaw08.RankTurned", spec := "rankTurned", unfollowed := true, recurses := true, plainKeys := false, apart := false }
def RankTurnedSaid : Prop := rankTurnedRow.holds Try.pinned (OpenSpec.ofChange rankTurnedSpec)

/-- ITS FALSE NEIGHBOUR: 'it returns false'. Refute it at one input. -/
def rankTurnedWrong : ChangeSpec := { name := "rankTurned", fn := fun _ => fun
  | [d1, d2] => { results := [.lit (.bool false)], args := [d1, d2] }
  | _ => none }
def RankTurnedWrongFalsely : Prop := rankTurnedRow.holds Try.pinned (OpenSpec.ofChange rankTurnedWrong)

/-- 'burinlaw08.RankApart': WHATEVER THE INPUT: true; the input reads as it did. -/
def rankApartSpec : ChangeSpec := { name := "rankApart", fn := fun _ => fun
  | [d1, d2] => { results := [.lit (.bool true)], args := [d1, d2] }
  | _ => none }
def rankApartRow : OpenClaim := { program := "ythmibifghihdaaa", sum := "a01b01fad8b6c8368b046259e511a64bc902015016a9514868421974da2bd3c7", func := "burin/burinlaw08.RankApart", spec := "rankApart", unfollowed := true, recurses := true, plainKeys := false, apart := false }
def RankApartSaid : Prop := rankApartRow.holds Try.pinned (OpenSpec.ofChange rankApartSpec)

/-- ITS FALSE NEIGHBOUR: 'it returns false'. Refute it at one input. -/
def rankApartWrong : ChangeSpec := { name := "rankApart", fn := fun _ => fun
  | [d1, d2] => { results := [.lit (.bool false)], args := [d1, d2] }
  | _ => none }
def RankApartWrongFalsely : Prop := rankApartRow.holds Try.pinned (OpenSpec.ofChange rankApartWrong)

/-- 'burinlaw08.RankDeep': WHATEVER THE INPUT: true; the input reads as it did. -/
def rankDeepSpec : ChangeSpec := { name := "rankDeep", fn := fun _ => fun
  | [d1, d2, d3] => { results := [.lit (.bool true)], args := [d1, d2, d3] }
  | _ => none }
def rankDeepRow : OpenClaim := { program := "ythmibifghihdaaa", sum := "a01b01fad8b6c8368b046259e511a64bc902015016a9514868421974da2bd3c7", func := "burin/burinlaw08.RankDeep", spec := "rankDeep", unfollowed := true, recurses := true, plainKeys := false, apart := false }
def RankDeepSaid : Prop := rankDeepRow.holds Try.pinned (OpenSpec.ofChange rankDeepSpec)

/-- ITS FALSE NEIGHBOUR: 'it returns false'. Refute it at one input. -/
def rankDeepWrong : ChangeSpec := { name := "rankDeep", fn := fun _ => fun
  | [d1, d2, d3] => { results := [.lit (.bool false)], args := [d1, d2, d3] }
  | _ => none }
def RankDeepWrongFalsely : Prop := rankDeepRow.holds Try.pinned (OpenSpec.ofChange rankDeepWrong)

/-- 'burinlaw08.RankKnown': WHATEVER THE INPUT: true; the input reads as it did. -/
def rankKnownSpec : ChangeSpec := { name := "rankKnown", fn := fun _ => fun
  | [] => { results := [.lit (.bool true)], args := [] }
  | _ => none }
def rankKnownRow : OpenClaim := { program := "ythmibifghihdaaa", sum := "a01b01fad8b6c8368b046259e511a64bc902015016a9514868421974da2bd3c7", func := "burin/burinlaw08.RankKnown", spec := "rankKnown", unfollowed := true, recurses := true, plainKeys := false, apart := false }
def RankKnownSaid : Prop := rankKnownRow.holds Try.pinned (OpenSpec.ofChange rankKnownSpec)

/-- ITS FALSE NEIGHBOUR: 'it returns false'. Refute it at one input. -/
def rankKnownWrong : ChangeSpec := { name := "rankKnown", fn := fun _ => fun
  | [] => { results := [.lit (.bool false)], args := [] }
  | _ => none }
def RankKnownWrongFalsely : Prop := rankKnownRow.holds Try.pinned (OpenSpec.ofChange rankKnownWrong)

/- THE SECOND FORM. 'bulk': how many values and letters a reading holds, each counted each time it is reached (what is shared counts as often as it is met; a slice's spare places count too). A statement '..UptoSaid' is the law's where the arguments, and the package variables that the reading takes, are together of bulk at most 1048576: NARROWER than '..Said'. Prove '..Said' where nothing that the law and all that it calls make is longer than what came in: it says more and counts as full. Else prove '..UptoSaid'. A law counts once. -/
mutual
def uptoBulk {H : Type} : DataW H → Nat
  | .lit (.string bytes) => bytes.length + 1
  | .lit _ => 1
  | .nil => 1
  | .ptr d => uptoBulk d + 1
  | .slice elems spare => uptoBulkAll elems + uptoBulkAll spare + 1
  | .agg parts => uptoBulkAll parts + 1
  | .iface _ d => uptoBulk d + 1
  | .map entries => uptoBulkEntries entries + 1
  | .held _ => 1
def uptoBulkAll {H : Type} : List (DataW H) → Nat
  | [] => 0
  | d :: r => uptoBulk d + uptoBulkAll r
def uptoBulkEntries {H : Type} : List (Lit × DataW H) → Nat
  | [] => 0
  | x :: r => uptoBulkEntry x + uptoBulkEntries r
def uptoBulkEntry {H : Type} : Lit × DataW H → Nat
  | (.string bytes, d) => bytes.length + uptoBulk d + 1
  | (_, d) => uptoBulk d + 1
 end
def uptoSmall : (H : Type) → List (DataW H) → Bool := fun _ ds => decide (uptoBulkAll ds ≤ 1048576)
def OpenSpec.upto (s : _root_.Go.ChangeSpec) : _root_.Go.OpenSpec := { _root_.Go.OpenSpec.ofChange s with cond := some uptoSmall }

/-- 'burinlaw08.RankBooks', WHERE WHAT IT READS IS OF BULK AT MOST 1048576: true; the input reads as it did. -/
def rankBooksUptoRow : OpenClaim := { program := "ythmibifghihdaaa", sum := "a01b01fad8b6c8368b046259e511a64bc902015016a9514868421974da2bd3c7", func := "burin/burinlaw08.RankBooks", spec := "rankBooks", unfollowed := true, recurses := true, plainKeys := false, apart := false, narrowed := true }
def RankBooksUptoSaid : Prop := rankBooksUptoRow.holds Try.pinned (OpenSpec.upto rankBooksSpec)

/-- 'burinlaw08.RankOrders', WHERE WHAT IT READS IS OF BULK AT MOST 1048576: true; the input reads as it did. -/
def rankOrdersUptoRow : OpenClaim := { program := "ythmibifghihdaaa", sum := "a01b01fad8b6c8368b046259e511a64bc902015016a9514868421974da2bd3c7", func := "burin/burinlaw08.RankOrders", spec := "rankOrders", unfollowed := true, recurses := true, plainKeys := false, apart := false, narrowed := true }
def RankOrdersUptoSaid : Prop := rankOrdersUptoRow.holds Try.pinned (OpenSpec.upto rankOrdersSpec)

/-- 'burinlaw08.RankKinds', WHERE WHAT IT READS IS OF BULK AT MOST 1048576: true; the input reads as it did. -/
def rankKindsUptoRow : OpenClaim := { program := "ythmibifghihdaaa", sum := "a01b01fad8b6c8368b046259e511a64bc902015016a9514868421974da2bd3c7", func := "burin/burinlaw08.RankKinds", spec := "rankKinds", unfollowed := true, recurses := true, plainKeys := false, apart := false, narrowed := true }
def RankKindsUptoSaid : Prop := rankKindsUptoRow.holds Try.pinned (OpenSpec.upto rankKindsSpec)

/-- 'burinlaw08.RankRanks', WHERE WHAT IT READS IS OF BULK AT MOST 1048576: true; the input reads as it did. -/
def rankRanksUptoRow : OpenClaim := { program := "ythmibifghihdaaa", sum := "a01b01fad8b6c8368b046259e511a64bc902015016a9514868421974da2bd3c7", func := "burin/burinlaw08.RankRanks", spec := "rankRanks", unfollowed := true, recurses := true, plainKeys := false, apart := false, narrowed := true }
def RankRanksUptoSaid : Prop := rankRanksUptoRow.holds Try.pinned (OpenSpec.upto rankRanksSpec)

/-- 'burinlaw08.RankDepths', WHERE WHAT IT READS IS OF BULK AT MOST 1048576: true; the input reads as it did. -/
def rankDepthsUptoRow : OpenClaim := { program := "ythmibifghihdaaa", sum := "a01b01fad8b6c8368b046259e511a64bc902015016a9514868421974da2bd3c7", func := "burin/burinlaw08.RankDepths", spec := "rankDepths", unfollowed := true, recurses := true, plainKeys := false, apart := false, narrowed := true }
def RankDepthsUptoSaid : Prop := rankDepthsUptoRow.holds Try.pinned (OpenSpec.upto rankDepthsSpec)

/-- 'burinlaw08.RankEither', WHERE WHAT IT READS IS OF BULK AT MOST 1048576: true; the input reads as it did. -/
def rankEitherUptoRow : OpenClaim := { program := "ythmibifghihdaaa", sum := "a01b01fad8b6c8368b046259e511a64bc902015016a9514868421974da2bd3c7", func := "burin/burinlaw08.RankEither", spec := "rankEither", unfollowed := true, recurses := true, plainKeys := false, apart := false, narrowed := true }
def RankEitherUptoSaid : Prop := rankEitherUptoRow.holds Try.pinned (OpenSpec.upto rankEitherSpec)

/-- 'burinlaw08.RankSpanned', WHERE WHAT IT READS IS OF BULK AT MOST 1048576: true; the input reads as it did. -/
def rankSpannedUptoRow : OpenClaim := { program := "ythmibifghihdaaa", sum := "a01b01fad8b6c8368b046259e511a64bc902015016a9514868421974da2bd3c7", func := "burin/burinlaw08.RankSpanned", spec := "rankSpanned", unfollowed := true, recurses := true, plainKeys := false, apart := false, narrowed := true }
def RankSpannedUptoSaid : Prop := rankSpannedUptoRow.holds Try.pinned (OpenSpec.upto rankSpannedSpec)

/-- 'burinlaw08.RankSummed', WHERE WHAT IT READS IS OF BULK AT MOST 1048576: true; the input reads as it did. -/
def rankSummedUptoRow : OpenClaim := { program := "ythmibifghihdaaa", sum := "a01b01fad8b6c8368b046259e511a64bc902015016a9514868421974da2bd3c7", func := "burin/burinlaw08.RankSummed", spec := "rankSummed", unfollowed := true, recurses := true, plainKeys := false, apart := false, narrowed := true }
def RankSummedUptoSaid : Prop := rankSummedUptoRow.holds Try.pinned (OpenSpec.upto rankSummedSpec)

/-- 'burinlaw08.RankEven', WHERE WHAT IT READS IS OF BULK AT MOST 1048576: true; the input reads as it did. -/
def rankEvenUptoRow : OpenClaim := { program := "ythmibifghihdaaa", sum := "a01b01fad8b6c8368b046259e511a64bc902015016a9514868421974da2bd3c7", func := "burin/burinlaw08.RankEven", spec := "rankEven", unfollowed := true, recurses := true, plainKeys := false, apart := false, narrowed := true }
def RankEvenUptoSaid : Prop := rankEvenUptoRow.holds Try.pinned (OpenSpec.upto rankEvenSpec)

/-- 'burinlaw08.RankHelped', WHERE WHAT IT READS IS OF BULK AT MOST 1048576: true; the input reads as it did. -/
def rankHelpedUptoRow : OpenClaim := { program := "ythmibifghihdaaa", sum := "a01b01fad8b6c8368b046259e511a64bc902015016a9514868421974da2bd3c7", func := "burin/burinlaw08.RankHelped", spec := "rankHelped", unfollowed := true, recurses := true, plainKeys := false, apart := false, narrowed := true }
def RankHelpedUptoSaid : Prop := rankHelpedUptoRow.holds Try.pinned (OpenSpec.upto rankHelpedSpec)

/-- 'burinlaw08.RankThird', WHERE WHAT IT READS IS OF BULK AT MOST 1048576: true; the input reads as it did. -/
def rankThirdUptoRow : OpenClaim := { program := "ythmibifghihdaaa", sum := "a01b01fad8b6c8368b046259e511a64bc902015016a9514868421974da2bd3c7", func := "burin/burinlaw08.RankThird", spec := "rankThird", unfollowed := true, recurses := true, plainKeys := false, apart := false, narrowed := true }
def RankThirdUptoSaid : Prop := rankThirdUptoRow.holds Try.pinned (OpenSpec.upto rankThirdSpec)

/-- 'burinlaw08.RankTurned', WHERE WHAT IT READS IS OF BULK AT MOST 1048576: true; the input reads as it did. -/
def rankTurnedUptoRow : OpenClaim := { program := "ythmibifghihdaaa", sum := "a01b01fad8b6c8368b046259e511a64bc902015016a9514868421974da2bd3c7", func := "burin/burinlaw08.RankTurned", spec := "rankTurned", unfollowed := true, recurses := true, plainKeys := false, apart := false, narrowed := true }
def RankTurnedUptoSaid : Prop := rankTurnedUptoRow.holds Try.pinned (OpenSpec.upto rankTurnedSpec)

/-- 'burinlaw08.RankApart', WHERE WHAT IT READS IS OF BULK AT MOST 1048576: true; the input reads as it did. -/
def rankApartUptoRow : OpenClaim := { program := "ythmibifghihdaaa", sum := "a01b01fad8b6c8368b046259e511a64bc902015016a9514868421974da2bd3c7", func := "burin/burinlaw08.RankApart", spec := "rankApart", unfollowed := true, recurses := true, plainKeys := false, apart := false, narrowed := true }
def RankApartUptoSaid : Prop := rankApartUptoRow.holds Try.pinned (OpenSpec.upto rankApartSpec)

/-- 'burinlaw08.RankDeep', WHERE WHAT IT READS IS OF BULK AT MOST 1048576: true; the input reads as it did. -/
def rankDeepUptoRow : OpenClaim := { program := "ythmibifghihdaaa", sum := "a01b01fad8b6c8368b046259e511a64bc902015016a9514868421974da2bd3c7", func := "burin/burinlaw08.RankDeep", spec := "rankDeep", unfollowed := true, recurses := true, plainKeys := false, apart := false, narrowed := true }
def RankDeepUptoSaid : Prop := rankDeepUptoRow.holds Try.pinned (OpenSpec.upto rankDeepSpec)

/-- 'burinlaw08.RankKnown', WHERE WHAT IT READS IS OF BULK AT MOST 1048576: true; the input reads as it did. -/
def rankKnownUptoRow : OpenClaim := { program := "ythmibifghihdaaa", sum := "a01b01fad8b6c8368b046259e511a64bc902015016a9514868421974da2bd3c7", func := "burin/burinlaw08.RankKnown", spec := "rankKnown", unfollowed := true, recurses := true, plainKeys := false, apart := false, narrowed := true }
def RankKnownUptoSaid : Prop := rankKnownUptoRow.holds Try.pinned (OpenSpec.upto rankKnownSpec)

end Rows
end Go.Proofs.Ythmibifghihdaaa

/-
  No cell of these rows narrows 'for every input' (looked for: loops, veiled, ifaces, maps, wideKeys, modest, calm, conditions, laid).
  DERIVED. THE GIVEN ROWS OF THIS SEAT. 12 by the template 'for every input the law returns true; each argument reads behind the call as it read before'; 0 by the template 'total and deterministic' (their statements: YtjmifldndjkmpaaTotals.lean).
  GIVEN WITH THE SEED: the statements are not yours to turn. If you find one false, say at which input.
  Laid BY PROGRAM, IN A SANDBOX (cutbox-rows.mjs): the forced cells as the released guide's own fill.sh prints them over the translation 6409955f6cd24924… (all of the seat's roots in one cut). By AI agents, Wed Nov 11 2026. No macro, syntax, notation, axiom, sorry.
-/
import Derived.Test.YtjmifldndjkmpaaChecked
import GoSem.Claim
import GoSem.ClaimJoined
import GoSem.ClaimMapViews
import Derived.JoinedTies
import Derived.KernelRfl
namespace Go.Proofs.Ytjmifldndjkmpaa
/- THE CELL 'sum', in the pinned program and in every row, IS THE sha256 OF THE DUMP (.gsa) THAT YtjmifldndjkmpaaProg.lean LOADS. Nothing in Lean hashes anything: it is a label: what it is worth is what the hold of that sum in a sandbox is worth. -/
noncomputable def Try.pinned : Pinned := { name := "ytjmifldndjkmpaa", sum := "6409955f6cd249247853a30ccaa81803099b1fa33f2b5043097835b1c0409c96", checked := Try.checked }
namespace Rows
def none {H : Type} : Left H := { results := [], args := [] }

/-- 'laws.FnExactIsMatrix': WHATEVER THE INPUT: true; the input reads as it did. -/
def fnExactIsMatrixSpec : ChangeSpec := { name := "fnExactIsMatrix", fn := fun _ => fun
  | [d] => { results := [.lit (.bool true)], args := [d] }
  | _ => none }
def fnExactIsMatrixRow : OpenClaim := { program := "ytjmifldndjkmpaa", sum := "6409955f6cd249247853a30ccaa81803099b1fa33f2b5043097835b1c0409c96", func := "loop.example/g03105/laws.FnExactIsMatrix", spec := "fnExactIsMatrix", apart := false }
def FnExactIsMatrixSaid : Prop := fnExactIsMatrixRow.holds Try.pinned (OpenSpec.ofChange fnExactIsMatrixSpec)

/-- ITS FALSE NEIGHBOUR: 'it returns false'. Refute it at one input. -/
def fnExactIsMatrixWrong : ChangeSpec := { name := "fnExactIsMatrix", fn := fun _ => fun
  | [d] => { results := [.lit (.bool false)], args := [d] }
  | _ => none }
def FnExactIsMatrixWrongFalsely : Prop := fnExactIsMatrixRow.holds Try.pinned (OpenSpec.ofChange fnExactIsMatrixWrong)

/-- 'laws.FnExactTraceOf': WHATEVER THE INPUT: true; the input reads as it did. -/
def fnExactTraceOfSpec : ChangeSpec := { name := "fnExactTraceOf", fn := fun _ => fun
  | [d] => { results := [.lit (.bool true)], args := [d] }
  | _ => none }
def fnExactTraceOfRow : OpenClaim := { program := "ytjmifldndjkmpaa", sum := "6409955f6cd249247853a30ccaa81803099b1fa33f2b5043097835b1c0409c96", func := "loop.example/g03105/laws.FnExactTraceOf", spec := "fnExactTraceOf", apart := false }
def FnExactTraceOfSaid : Prop := fnExactTraceOfRow.holds Try.pinned (OpenSpec.ofChange fnExactTraceOfSpec)

/-- ITS FALSE NEIGHBOUR: 'it returns false'. Refute it at one input. -/
def fnExactTraceOfWrong : ChangeSpec := { name := "fnExactTraceOf", fn := fun _ => fun
  | [d] => { results := [.lit (.bool false)], args := [d] }
  | _ => none }
def FnExactTraceOfWrongFalsely : Prop := fnExactTraceOfRow.holds Try.pinned (OpenSpec.ofChange fnExactTraceOfWrong)

/-- 'laws.FnExactInverseMatrix': WHATEVER THE INPUT: true; the input reads as it did. -/
def fnExactInverseMatrixSpec : ChangeSpec := { name := "fnExactInverseMatrix", fn := fun _ => fun
  | [d] => { results := [.lit (.bool true)], args := [d] }
  | _ => none }
def fnExactInverseMatrixRow : OpenClaim := { program := "ytjmifldndjkmpaa", sum := "6409955f6cd249247853a30ccaa81803099b1fa33f2b5043097835b1c0409c96", func := "loop.example/g03105/laws.FnExactInverseMatrix", spec := "fnExactInverseMatrix", apart := false }
def FnExactInverseMatrixSaid : Prop := fnExactInverseMatrixRow.holds Try.pinned (OpenSpec.ofChange fnExactInverseMatrixSpec)

/-- ITS FALSE NEIGHBOUR: 'it returns false'. Refute it at one input. -/
def fnExactInverseMatrixWrong : ChangeSpec := { name := "fnExactInverseMatrix", fn := fun _ => fun
  | [d] => { results := [.lit (.bool false)], args := [d] }
  | _ => none }
def FnExactInverseMatrixWrongFalsely : Prop := fnExactInverseMatrixRow.holds Try.pinned (OpenSpec.ofChange fnExactInverseMatrixWrong)

/-- 'laws.FnExactKindOf': WHATEVER THE INPUT: true; the input reads as it did. -/
def fnExactKindOfSpec : ChangeSpec := { name := "fnExactKindOf", fn := fun _ => fun
  | [d] => { results := [.lit (.bool true)], args := [d] }
  | _ => none }
def fnExactKindOfRow : OpenClaim := { program := "ytjmifldndjkmpaa", sum := "6409955f6cd249247853a30ccaa81803099b1fa33f2b5043097835b1c0409c96", func := "loop.example/g03105/laws.FnExactKindOf", spec := "fnExactKindOf", apart := false }
def FnExactKindOfSaid : Prop := fnExactKindOfRow.holds Try.pinned (OpenSpec.ofChange fnExactKindOfSpec)

/-- ITS FALSE NEIGHBOUR: 'it returns false'. Refute it at one input. -/
def fnExactKindOfWrong : ChangeSpec := { name := "fnExactKindOf", fn := fun _ => fun
  | [d] => { results := [.lit (.bool false)], args := [d] }
  | _ => none }
def FnExactKindOfWrongFalsely : Prop := fnExactKindOfRow.holds Try.pinned (OpenSpec.ofChange fnExactKindOfWrong)

/-- 'laws.FnExactTimesMatrix': WHATEVER THE INPUT: true; the input reads as it did. -/
def fnExactTimesMatrixSpec : ChangeSpec := { name := "fnExactTimesMatrix", fn := fun _ => fun
  | [d1, d2] => { results := [.lit (.bool true)], args := [d1, d2] }
  | _ => none }
def fnExactTimesMatrixRow : OpenClaim := { program := "ytjmifldndjkmpaa", sum := "6409955f6cd249247853a30ccaa81803099b1fa33f2b5043097835b1c0409c96", func := "loop.example/g03105/laws.FnExactTimesMatrix", spec := "fnExactTimesMatrix", apart := false }
def FnExactTimesMatrixSaid : Prop := fnExactTimesMatrixRow.holds Try.pinned (OpenSpec.ofChange fnExactTimesMatrixSpec)

/-- ITS FALSE NEIGHBOUR: 'it returns false'. Refute it at one input. -/
def fnExactTimesMatrixWrong : ChangeSpec := { name := "fnExactTimesMatrix", fn := fun _ => fun
  | [d1, d2] => { results := [.lit (.bool false)], args := [d1, d2] }
  | _ => none }
def FnExactTimesMatrixWrongFalsely : Prop := fnExactTimesMatrixRow.holds Try.pinned (OpenSpec.ofChange fnExactTimesMatrixWrong)

/-- 'laws.FnExactOrderOf': WHATEVER THE INPUT: true; the input reads as it did. -/
def fnExactOrderOfSpec : ChangeSpec := { name := "fnExactOrderOf", fn := fun _ => fun
  | [d] => { results := [.lit (.bool true)], args := [d] }
  | _ => none }
def fnExactOrderOfRow : OpenClaim := { program := "ytjmifldndjkmpaa", sum := "6409955f6cd249247853a30ccaa81803099b1fa33f2b5043097835b1c0409c96", func := "loop.example/g03105/laws.FnExactOrderOf", spec := "fnExactOrderOf", apart := false }
def FnExactOrderOfSaid : Prop := fnExactOrderOfRow.holds Try.pinned (OpenSpec.ofChange fnExactOrderOfSpec)

/-- ITS FALSE NEIGHBOUR: 'it returns false'. Refute it at one input. -/
def fnExactOrderOfWrong : ChangeSpec := { name := "fnExactOrderOf", fn := fun _ => fun
  | [d] => { results := [.lit (.bool false)], args := [d] }
  | _ => none }
def FnExactOrderOfWrongFalsely : Prop := fnExactOrderOfRow.holds Try.pinned (OpenSpec.ofChange fnExactOrderOfWrong)

/-- 'laws.FnExactTurnsTo': WHATEVER THE INPUT: true; the input reads as it did. -/
def fnExactTurnsToSpec : ChangeSpec := { name := "fnExactTurnsTo", fn := fun _ => fun
  | [d] => { results := [.lit (.bool true)], args := [d] }
  | _ => none }
def fnExactTurnsToRow : OpenClaim := { program := "ytjmifldndjkmpaa", sum := "6409955f6cd249247853a30ccaa81803099b1fa33f2b5043097835b1c0409c96", func := "loop.example/g03105/laws.FnExactTurnsTo", spec := "fnExactTurnsTo", apart := false }
def FnExactTurnsToSaid : Prop := fnExactTurnsToRow.holds Try.pinned (OpenSpec.ofChange fnExactTurnsToSpec)

/-- ITS FALSE NEIGHBOUR: 'it returns false'. Refute it at one input. -/
def fnExactTurnsToWrong : ChangeSpec := { name := "fnExactTurnsTo", fn := fun _ => fun
  | [d] => { results := [.lit (.bool false)], args := [d] }
  | _ => none }
def FnExactTurnsToWrongFalsely : Prop := fnExactTurnsToRow.holds Try.pinned (OpenSpec.ofChange fnExactTurnsToWrong)

/-- 'laws.FnExactTurnsOf': WHATEVER THE INPUT: true; the input reads as it did. -/
def fnExactTurnsOfSpec : ChangeSpec := { name := "fnExactTurnsOf", fn := fun _ => fun
  | [d] => { results := [.lit (.bool true)], args := [d] }
  | _ => none }
def fnExactTurnsOfRow : OpenClaim := { program := "ytjmifldndjkmpaa", sum := "6409955f6cd249247853a30ccaa81803099b1fa33f2b5043097835b1c0409c96", func := "loop.example/g03105/laws.FnExactTurnsOf", spec := "fnExactTurnsOf", apart := false }
def FnExactTurnsOfSaid : Prop := fnExactTurnsOfRow.holds Try.pinned (OpenSpec.ofChange fnExactTurnsOfSpec)

/-- ITS FALSE NEIGHBOUR: 'it returns false'. Refute it at one input. -/
def fnExactTurnsOfWrong : ChangeSpec := { name := "fnExactTurnsOf", fn := fun _ => fun
  | [d] => { results := [.lit (.bool false)], args := [d] }
  | _ => none }
def FnExactTurnsOfWrongFalsely : Prop := fnExactTurnsOfRow.holds Try.pinned (OpenSpec.ofChange fnExactTurnsOfWrong)

/-- 'laws.FnExactMoveSlope': WHATEVER THE INPUT: true; the input reads as it did. -/
def fnExactMoveSlopeSpec : ChangeSpec := { name := "fnExactMoveSlope", fn := fun _ => fun
  | [d1, d2] => { results := [.lit (.bool true)], args := [d1, d2] }
  | _ => none }
def fnExactMoveSlopeRow : OpenClaim := { program := "ytjmifldndjkmpaa", sum := "6409955f6cd249247853a30ccaa81803099b1fa33f2b5043097835b1c0409c96", func := "loop.example/g03105/laws.FnExactMoveSlope", spec := "fnExactMoveSlope", apart := false }
def FnExactMoveSlopeSaid : Prop := fnExactMoveSlopeRow.holds Try.pinned (OpenSpec.ofChange fnExactMoveSlopeSpec)

/-- ITS FALSE NEIGHBOUR: 'it returns false'. Refute it at one input. -/
def fnExactMoveSlopeWrong : ChangeSpec := { name := "fnExactMoveSlope", fn := fun _ => fun
  | [d1, d2] => { results := [.lit (.bool false)], args := [d1, d2] }
  | _ => none }
def FnExactMoveSlopeWrongFalsely : Prop := fnExactMoveSlopeRow.holds Try.pinned (OpenSpec.ofChange fnExactMoveSlopeWrong)

/-- 'laws.FnExactParentsOf': WHATEVER THE INPUT: true; the input reads as it did. -/
def fnExactParentsOfSpec : ChangeSpec := { name := "fnExactParentsOf", fn := fun _ => fun
  | [d] => { results := [.lit (.bool true)], args := [d] }
  | _ => none }
def fnExactParentsOfRow : OpenClaim := { program := "ytjmifldndjkmpaa", sum := "6409955f6cd249247853a30ccaa81803099b1fa33f2b5043097835b1c0409c96", func := "loop.example/g03105/laws.FnExactParentsOf", spec := "fnExactParentsOf", apart := false }
def FnExactParentsOfSaid : Prop := fnExactParentsOfRow.holds Try.pinned (OpenSpec.ofChange fnExactParentsOfSpec)

/-- ITS FALSE NEIGHBOUR: 'it returns false'. Refute it at one input. -/
def fnExactParentsOfWrong : ChangeSpec := { name := "fnExactParentsOf", fn := fun _ => fun
  | [d] => { results := [.lit (.bool false)], args := [d] }
  | _ => none }
def FnExactParentsOfWrongFalsely : Prop := fnExactParentsOfRow.holds Try.pinned (OpenSpec.ofChange fnExactParentsOfWrong)

/-- 'laws.FnExactFixedSlopes': WHATEVER THE INPUT: true; the input reads as it did. -/
def fnExactFixedSlopesSpec : ChangeSpec := { name := "fnExactFixedSlopes", fn := fun _ => fun
  | [d] => { results := [.lit (.bool true)], args := [d] }
  | _ => none }
def fnExactFixedSlopesRow : OpenClaim := { program := "ytjmifldndjkmpaa", sum := "6409955f6cd249247853a30ccaa81803099b1fa33f2b5043097835b1c0409c96", func := "loop.example/g03105/laws.FnExactFixedSlopes", spec := "fnExactFixedSlopes", apart := false }
def FnExactFixedSlopesSaid : Prop := fnExactFixedSlopesRow.holds Try.pinned (OpenSpec.ofChange fnExactFixedSlopesSpec)

/-- ITS FALSE NEIGHBOUR: 'it returns false'. Refute it at one input. -/
def fnExactFixedSlopesWrong : ChangeSpec := { name := "fnExactFixedSlopes", fn := fun _ => fun
  | [d] => { results := [.lit (.bool false)], args := [d] }
  | _ => none }
def FnExactFixedSlopesWrongFalsely : Prop := fnExactFixedSlopesRow.holds Try.pinned (OpenSpec.ofChange fnExactFixedSlopesWrong)

/-- 'laws.FnExactCommonNeighbours': WHATEVER THE INPUT: true; the input reads as it did. -/
def fnExactCommonNeighboursSpec : ChangeSpec := { name := "fnExactCommonNeighbours", fn := fun _ => fun
  | [d1, d2] => { results := [.lit (.bool true)], args := [d1, d2] }
  | _ => none }
def fnExactCommonNeighboursRow : OpenClaim := { program := "ytjmifldndjkmpaa", sum := "6409955f6cd249247853a30ccaa81803099b1fa33f2b5043097835b1c0409c96", func := "loop.example/g03105/laws.FnExactCommonNeighbours", spec := "fnExactCommonNeighbours", apart := false }
def FnExactCommonNeighboursSaid : Prop := fnExactCommonNeighboursRow.holds Try.pinned (OpenSpec.ofChange fnExactCommonNeighboursSpec)

/-- ITS FALSE NEIGHBOUR: 'it returns false'. Refute it at one input. -/
def fnExactCommonNeighboursWrong : ChangeSpec := { name := "fnExactCommonNeighbours", fn := fun _ => fun
  | [d1, d2] => { results := [.lit (.bool false)], args := [d1, d2] }
  | _ => none }
def FnExactCommonNeighboursWrongFalsely : Prop := fnExactCommonNeighboursRow.holds Try.pinned (OpenSpec.ofChange fnExactCommonNeighboursWrong)

/- THE SECOND FORM. 'bulk': how many values and letters a reading holds, each counted each time it is reached (what is shared counts as often as it is met; a slice's spare places count too). A statement '..UptoSaid' is the law's where the arguments, and the package variables that the reading takes, are together of bulk at most 1048576: NARROWER than '..Said'. Prove '..Said' where nothing that the law and all that it calls make is longer than what came in: it says more and counts as full. Else prove '..UptoSaid'. A law counts once. -/
mutual
def uptoBulk {H : Type} : DataW H → Nat
  | .lit (.string bytes) => bytes.length + 1
  | .lit _ => 1
  | .nil => 1
  | .ptr d => uptoBulk d + 1
  | .slice elems spare => uptoBulkAll elems + uptoBulkAll spare + 1
  | .agg parts => uptoBulkAll parts + 1
  | .iface _ d => uptoBulk d + 1
  | .map entries => uptoBulkEntries entries + 1
  | .held _ => 1
def uptoBulkAll {H : Type} : List (DataW H) → Nat
  | [] => 0
  | d :: r => uptoBulk d + uptoBulkAll r
def uptoBulkEntries {H : Type} : List (Lit × DataW H) → Nat
  | [] => 0
  | x :: r => uptoBulkEntry x + uptoBulkEntries r
def uptoBulkEntry {H : Type} : Lit × DataW H → Nat
  | (.string bytes, d) => bytes.length + uptoBulk d + 1
  | (_, d) => uptoBulk d + 1
 end
def uptoSmall : (H : Type) → List (DataW H) → Bool := fun _ ds => decide (uptoBulkAll ds ≤ 1048576)
def OpenSpec.upto (s : _root_.Go.ChangeSpec) : _root_.Go.OpenSpec := { _root_.Go.OpenSpec.ofChange s with cond := some uptoSmall }

/-- 'laws.FnExactIsMatrix', WHERE WHAT IT READS IS OF BULK AT MOST 1048576: true; the input reads as it did. -/
def fnExactIsMatrixUptoRow : OpenClaim := { program := "ytjmifldndjkmpaa", sum := "6409955f6cd249247853a30ccaa81803099b1fa33f2b5043097835b1c0409c96", func := "loop.example/g03105/laws.FnExactIsMatrix", spec := "fnExactIsMatrix", apart := false, narrowed := true }
def FnExactIsMatrixUptoSaid : Prop := fnExactIsMatrixUptoRow.holds Try.pinned (OpenSpec.upto fnExactIsMatrixSpec)

/-- 'laws.FnExactTraceOf', WHERE WHAT IT READS IS OF BULK AT MOST 1048576: true; the input reads as it did. -/
def fnExactTraceOfUptoRow : OpenClaim := { program := "ytjmifldndjkmpaa", sum := "6409955f6cd249247853a30ccaa81803099b1fa33f2b5043097835b1c0409c96", func := "loop.example/g03105/laws.FnExactTraceOf", spec := "fnExactTraceOf", apart := false, narrowed := true }
def FnExactTraceOfUptoSaid : Prop := fnExactTraceOfUptoRow.holds Try.pinned (OpenSpec.upto fnExactTraceOfSpec)

/-- 'laws.FnExactInverseMatrix', WHERE WHAT IT READS IS OF BULK AT MOST 1048576: true; the input reads as it did. -/
def fnExactInverseMatrixUptoRow : OpenClaim := { program := "ytjmifldndjkmpaa", sum := "6409955f6cd249247853a30ccaa81803099b1fa33f2b5043097835b1c0409c96", func := "loop.example/g03105/laws.FnExactInverseMatrix", spec := "fnExactInverseMatrix", apart := false, narrowed := true }
def FnExactInverseMatrixUptoSaid : Prop := fnExactInverseMatrixUptoRow.holds Try.pinned (OpenSpec.upto fnExactInverseMatrixSpec)

/-- 'laws.FnExactKindOf', WHERE WHAT IT READS IS OF BULK AT MOST 1048576: true; the input reads as it did. -/
def fnExactKindOfUptoRow : OpenClaim := { program := "ytjmifldndjkmpaa", sum := "6409955f6cd249247853a30ccaa81803099b1fa33f2b5043097835b1c0409c96", func := "loop.example/g03105/laws.FnExactKindOf", spec := "fnExactKindOf", apart := false, narrowed := true }
def FnExactKindOfUptoSaid : Prop := fnExactKindOfUptoRow.holds Try.pinned (OpenSpec.upto fnExactKindOfSpec)

/-- 'laws.FnExactTimesMatrix', WHERE WHAT IT READS IS OF BULK AT MOST 1048576: true; the input reads as it did. -/
def fnExactTimesMatrixUptoRow : OpenClaim := { program := "ytjmifldndjkmpaa", sum := "6409955f6cd249247853a30ccaa81803099b1fa33f2b5043097835b1c0409c96", func := "loop.example/g03105/laws.FnExactTimesMatrix", spec := "fnExactTimesMatrix", apart := false, narrowed := true }
def FnExactTimesMatrixUptoSaid : Prop := fnExactTimesMatrixUptoRow.holds Try.pinned (OpenSpec.upto fnExactTimesMatrixSpec)

/-- 'laws.FnExactOrderOf', WHERE WHAT IT READS IS OF BULK AT MOST 1048576: true; the input reads as it did. -/
def fnExactOrderOfUptoRow : OpenClaim := { program := "ytjmifldndjkmpaa", sum := "6409955f6cd249247853a30ccaa81803099b1fa33f2b5043097835b1c0409c96", func := "loop.example/g03105/laws.FnExactOrderOf", spec := "fnExactOrderOf", apart := false, narrowed := true }
def FnExactOrderOfUptoSaid : Prop := fnExactOrderOfUptoRow.holds Try.pinned (OpenSpec.upto fnExactOrderOfSpec)

/-- 'laws.FnExactTurnsTo', WHERE WHAT IT READS IS OF BULK AT MOST 1048576: true; the input reads as it did. -/
def fnExactTurnsToUptoRow : OpenClaim := { program := "ytjmifldndjkmpaa", sum := "6409955f6cd249247853a30ccaa81803099b1fa33f2b5043097835b1c0409c96", func := "loop.example/g03105/laws.FnExactTurnsTo", spec := "fnExactTurnsTo", apart := false, narrowed := true }
def FnExactTurnsToUptoSaid : Prop := fnExactTurnsToUptoRow.holds Try.pinned (OpenSpec.upto fnExactTurnsToSpec)

/-- 'laws.FnExactTurnsOf', WHERE WHAT IT READS IS OF BULK AT MOST 1048576: true; the input reads as it did. -/
def fnExactTurnsOfUptoRow : OpenClaim := { program := "ytjmifldndjkmpaa", sum := "6409955f6cd249247853a30ccaa81803099b1fa33f2b5043097835b1c0409c96", func := "loop.example/g03105/laws.FnExactTurnsOf", spec := "fnExactTurnsOf", apart := false, narrowed := true }
def FnExactTurnsOfUptoSaid : Prop := fnExactTurnsOfUptoRow.holds Try.pinned (OpenSpec.upto fnExactTurnsOfSpec)

/-- 'laws.FnExactMoveSlope', WHERE WHAT IT READS IS OF BULK AT MOST 1048576: true; the input reads as it did. -/
def fnExactMoveSlopeUptoRow : OpenClaim := { program := "ytjmifldndjkmpaa", sum := "6409955f6cd249247853a30ccaa81803099b1fa33f2b5043097835b1c0409c96", func := "loop.example/g03105/laws.FnExactMoveSlope", spec := "fnExactMoveSlope", apart := false, narrowed := true }
def FnExactMoveSlopeUptoSaid : Prop := fnExactMoveSlopeUptoRow.holds Try.pinned (OpenSpec.upto fnExactMoveSlopeSpec)

/-- 'laws.FnExactParentsOf', WHERE WHAT IT READS IS OF BULK AT MOST 1048576: true; the input reads as it did. -/
def fnExactParentsOfUptoRow : OpenClaim := { program := "ytjmifldndjkmpaa", sum := "6409955f6cd249247853a30ccaa81803099b1fa33f2b5043097835b1c0409c96", func := "loop.example/g03105/laws.FnExactParentsOf", spec := "fnExactParentsOf", apart := false, narrowed := true }
def FnExactParentsOfUptoSaid : Prop := fnExactParentsOfUptoRow.holds Try.pinned (OpenSpec.upto fnExactParentsOfSpec)

/-- 'laws.FnExactFixedSlopes', WHERE WHAT IT READS IS OF BULK AT MOST 1048576: true; the input reads as it did. -/
def fnExactFixedSlopesUptoRow : OpenClaim := { program := "ytjmifldndjkmpaa", sum := "6409955f6cd249247853a30ccaa81803099b1fa33f2b5043097835b1c0409c96", func := "loop.example/g03105/laws.FnExactFixedSlopes", spec := "fnExactFixedSlopes", apart := false, narrowed := true }
def FnExactFixedSlopesUptoSaid : Prop := fnExactFixedSlopesUptoRow.holds Try.pinned (OpenSpec.upto fnExactFixedSlopesSpec)

/-- 'laws.FnExactCommonNeighbours', WHERE WHAT IT READS IS OF BULK AT MOST 1048576: true; the input reads as it did. -/
def fnExactCommonNeighboursUptoRow : OpenClaim := { program := "ytjmifldndjkmpaa", sum := "6409955f6cd249247853a30ccaa81803099b1fa33f2b5043097835b1c0409c96", func := "loop.example/g03105/laws.FnExactCommonNeighbours", spec := "fnExactCommonNeighbours", apart := false, narrowed := true }
def FnExactCommonNeighboursUptoSaid : Prop := fnExactCommonNeighboursUptoRow.holds Try.pinned (OpenSpec.upto fnExactCommonNeighboursSpec)

end Rows
end Go.Proofs.Ytjmifldndjkmpaa

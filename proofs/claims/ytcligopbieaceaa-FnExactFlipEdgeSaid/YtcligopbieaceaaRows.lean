/-
  No cell of these rows narrows 'for every input' (looked for: loops, veiled, ifaces, maps, wideKeys, modest, calm, conditions, laid).
  DERIVED. THE GIVEN ROWS OF THIS SEAT. 12 by the template 'for every input the law returns true; each argument reads behind the call as it read before'; 0 by the template 'total and deterministic' (their statements: YtcligopbieaceaaTotals.lean).
  GIVEN WITH THE SEED: the statements are not yours to turn. If you find one false, say at which input.
  Laid BY PROGRAM, IN A SANDBOX (cutbox-rows.mjs): the forced cells as the released guide's own fill.sh prints them over the translation 9ceeff25162094df… (all of the seat's roots in one cut). By AI agents, Wed Nov 11 2026. No macro, syntax, notation, axiom, sorry.
-/
import Derived.Test.YtcligopbieaceaaChecked
import GoSem.Claim
import GoSem.ClaimJoined
import GoSem.ClaimMapViews
import Derived.JoinedTies
import Derived.KernelRfl
namespace Go.Proofs.Ytcligopbieaceaa
/- THE CELL 'sum', in the pinned program and in every row, IS THE sha256 OF THE DUMP (.gsa) THAT YtcligopbieaceaaProg.lean LOADS. Nothing in Lean hashes anything: it is a label: what it is worth is what the hold of that sum in a sandbox is worth. -/
noncomputable def Try.pinned : Pinned := { name := "ytcligopbieaceaa", sum := "9ceeff25162094dfc47b74e5d0685c625f9b744aad07c451d10680a03ad1c346", checked := Try.checked }
namespace Rows
def none {H : Type} : Left H := { results := [], args := [] }

/-- 'laws.FnExactCrossSum': WHATEVER THE INPUT: true; the input reads as it did. -/
def fnExactCrossSumSpec : ChangeSpec := { name := "fnExactCrossSum", fn := fun _ => fun
  | [d] => { results := [.lit (.bool true)], args := [d] }
  | _ => none }
def fnExactCrossSumRow : OpenClaim := { program := "ytcligopbieaceaa", sum := "9ceeff25162094dfc47b74e5d0685c625f9b744aad07c451d10680a03ad1c346", func := "loop.example/g03105/laws.FnExactCrossSum", spec := "fnExactCrossSum", apart := false }
def FnExactCrossSumSaid : Prop := fnExactCrossSumRow.holds Try.pinned (OpenSpec.ofChange fnExactCrossSumSpec)

/-- ITS FALSE NEIGHBOUR: 'it returns false'. Refute it at one input. -/
def fnExactCrossSumWrong : ChangeSpec := { name := "fnExactCrossSum", fn := fun _ => fun
  | [d] => { results := [.lit (.bool false)], args := [d] }
  | _ => none }
def FnExactCrossSumWrongFalsely : Prop := fnExactCrossSumRow.holds Try.pinned (OpenSpec.ofChange fnExactCrossSumWrong)

/-- 'laws.FnExactAddCoordinates': WHATEVER THE INPUT: true; the input reads as it did. -/
def fnExactAddCoordinatesSpec : ChangeSpec := { name := "fnExactAddCoordinates", fn := fun _ => fun
  | [d1, d2] => { results := [.lit (.bool true)], args := [d1, d2] }
  | _ => none }
def fnExactAddCoordinatesRow : OpenClaim := { program := "ytcligopbieaceaa", sum := "9ceeff25162094dfc47b74e5d0685c625f9b744aad07c451d10680a03ad1c346", func := "loop.example/g03105/laws.FnExactAddCoordinates", spec := "fnExactAddCoordinates", apart := false }
def FnExactAddCoordinatesSaid : Prop := fnExactAddCoordinatesRow.holds Try.pinned (OpenSpec.ofChange fnExactAddCoordinatesSpec)

/-- ITS FALSE NEIGHBOUR: 'it returns false'. Refute it at one input. -/
def fnExactAddCoordinatesWrong : ChangeSpec := { name := "fnExactAddCoordinates", fn := fun _ => fun
  | [d1, d2] => { results := [.lit (.bool false)], args := [d1, d2] }
  | _ => none }
def FnExactAddCoordinatesWrongFalsely : Prop := fnExactAddCoordinatesRow.holds Try.pinned (OpenSpec.ofChange fnExactAddCoordinatesWrong)

/-- 'laws.FnExactIsTriangulation': WHATEVER THE INPUT: true; the input reads as it did. -/
def fnExactIsTriangulationSpec : ChangeSpec := { name := "fnExactIsTriangulation", fn := fun _ => fun
  | [d] => { results := [.lit (.bool true)], args := [d] }
  | _ => none }
def fnExactIsTriangulationRow : OpenClaim := { program := "ytcligopbieaceaa", sum := "9ceeff25162094dfc47b74e5d0685c625f9b744aad07c451d10680a03ad1c346", func := "loop.example/g03105/laws.FnExactIsTriangulation", spec := "fnExactIsTriangulation", apart := false }
def FnExactIsTriangulationSaid : Prop := fnExactIsTriangulationRow.holds Try.pinned (OpenSpec.ofChange fnExactIsTriangulationSpec)

/-- ITS FALSE NEIGHBOUR: 'it returns false'. Refute it at one input. -/
def fnExactIsTriangulationWrong : ChangeSpec := { name := "fnExactIsTriangulation", fn := fun _ => fun
  | [d] => { results := [.lit (.bool false)], args := [d] }
  | _ => none }
def FnExactIsTriangulationWrongFalsely : Prop := fnExactIsTriangulationRow.holds Try.pinned (OpenSpec.ofChange fnExactIsTriangulationWrong)

/-- 'laws.FnExactCanFlip': WHATEVER THE INPUT: true; the input reads as it did. -/
def fnExactCanFlipSpec : ChangeSpec := { name := "fnExactCanFlip", fn := fun _ => fun
  | [d1, d2] => { results := [.lit (.bool true)], args := [d1, d2] }
  | _ => none }
def fnExactCanFlipRow : OpenClaim := { program := "ytcligopbieaceaa", sum := "9ceeff25162094dfc47b74e5d0685c625f9b744aad07c451d10680a03ad1c346", func := "loop.example/g03105/laws.FnExactCanFlip", spec := "fnExactCanFlip", apart := false }
def FnExactCanFlipSaid : Prop := fnExactCanFlipRow.holds Try.pinned (OpenSpec.ofChange fnExactCanFlipSpec)

/-- ITS FALSE NEIGHBOUR: 'it returns false'. Refute it at one input. -/
def fnExactCanFlipWrong : ChangeSpec := { name := "fnExactCanFlip", fn := fun _ => fun
  | [d1, d2] => { results := [.lit (.bool false)], args := [d1, d2] }
  | _ => none }
def FnExactCanFlipWrongFalsely : Prop := fnExactCanFlipRow.holds Try.pinned (OpenSpec.ofChange fnExactCanFlipWrong)

/-- 'laws.FnExactIsFair': WHATEVER THE INPUT: true; the input reads as it did. -/
def fnExactIsFairSpec : ChangeSpec := { name := "fnExactIsFair", fn := fun _ => fun
  | [d1, d2] => { results := [.lit (.bool true)], args := [d1, d2] }
  | _ => none }
def fnExactIsFairRow : OpenClaim := { program := "ytcligopbieaceaa", sum := "9ceeff25162094dfc47b74e5d0685c625f9b744aad07c451d10680a03ad1c346", func := "loop.example/g03105/laws.FnExactIsFair", spec := "fnExactIsFair", apart := false }
def FnExactIsFairSaid : Prop := fnExactIsFairRow.holds Try.pinned (OpenSpec.ofChange fnExactIsFairSpec)

/-- ITS FALSE NEIGHBOUR: 'it returns false'. Refute it at one input. -/
def fnExactIsFairWrong : ChangeSpec := { name := "fnExactIsFair", fn := fun _ => fun
  | [d1, d2] => { results := [.lit (.bool false)], args := [d1, d2] }
  | _ => none }
def FnExactIsFairWrongFalsely : Prop := fnExactIsFairRow.holds Try.pinned (OpenSpec.ofChange fnExactIsFairWrong)

/-- 'laws.FnExactParseTri': WHATEVER THE INPUT: true; the input reads as it did. -/
def fnExactParseTriSpec : ChangeSpec := { name := "fnExactParseTri", fn := fun _ => fun
  | [d] => { results := [.lit (.bool true)], args := [d] }
  | _ => none }
def fnExactParseTriRow : OpenClaim := { program := "ytcligopbieaceaa", sum := "9ceeff25162094dfc47b74e5d0685c625f9b744aad07c451d10680a03ad1c346", func := "loop.example/g03105/laws.FnExactParseTri", spec := "fnExactParseTri", apart := false }
def FnExactParseTriSaid : Prop := fnExactParseTriRow.holds Try.pinned (OpenSpec.ofChange fnExactParseTriSpec)

/-- ITS FALSE NEIGHBOUR: 'it returns false'. Refute it at one input. -/
def fnExactParseTriWrong : ChangeSpec := { name := "fnExactParseTri", fn := fun _ => fun
  | [d] => { results := [.lit (.bool false)], args := [d] }
  | _ => none }
def FnExactParseTriWrongFalsely : Prop := fnExactParseTriRow.holds Try.pinned (OpenSpec.ofChange fnExactParseTriWrong)

/-- 'laws.FnExactArcsAt': WHATEVER THE INPUT: true; the input reads as it did. -/
def fnExactArcsAtSpec : ChangeSpec := { name := "fnExactArcsAt", fn := fun _ => fun
  | [d1, d2, d3, d4] => { results := [.lit (.bool true)], args := [d1, d2, d3, d4] }
  | _ => none }
def fnExactArcsAtRow : OpenClaim := { program := "ytcligopbieaceaa", sum := "9ceeff25162094dfc47b74e5d0685c625f9b744aad07c451d10680a03ad1c346", func := "loop.example/g03105/laws.FnExactArcsAt", spec := "fnExactArcsAt", unfollowed := true, recurses := true, apart := false }
def FnExactArcsAtSaid : Prop := fnExactArcsAtRow.holds Try.pinned (OpenSpec.ofChange fnExactArcsAtSpec)

/-- ITS FALSE NEIGHBOUR: 'it returns false'. Refute it at one input. -/
def fnExactArcsAtWrong : ChangeSpec := { name := "fnExactArcsAt", fn := fun _ => fun
  | [d1, d2, d3, d4] => { results := [.lit (.bool false)], args := [d1, d2, d3, d4] }
  | _ => none }
def FnExactArcsAtWrongFalsely : Prop := fnExactArcsAtRow.holds Try.pinned (OpenSpec.ofChange fnExactArcsAtWrong)

/-- 'laws.FnExactReverseEdge': WHATEVER THE INPUT: true; the input reads as it did. -/
def fnExactReverseEdgeSpec : ChangeSpec := { name := "fnExactReverseEdge", fn := fun _ => fun
  | [d1, d2] => { results := [.lit (.bool true)], args := [d1, d2] }
  | _ => none }
def fnExactReverseEdgeRow : OpenClaim := { program := "ytcligopbieaceaa", sum := "9ceeff25162094dfc47b74e5d0685c625f9b744aad07c451d10680a03ad1c346", func := "loop.example/g03105/laws.FnExactReverseEdge", spec := "fnExactReverseEdge", apart := false }
def FnExactReverseEdgeSaid : Prop := fnExactReverseEdgeRow.holds Try.pinned (OpenSpec.ofChange fnExactReverseEdgeSpec)

/-- ITS FALSE NEIGHBOUR: 'it returns false'. Refute it at one input. -/
def fnExactReverseEdgeWrong : ChangeSpec := { name := "fnExactReverseEdge", fn := fun _ => fun
  | [d1, d2] => { results := [.lit (.bool false)], args := [d1, d2] }
  | _ => none }
def FnExactReverseEdgeWrongFalsely : Prop := fnExactReverseEdgeRow.holds Try.pinned (OpenSpec.ofChange fnExactReverseEdgeWrong)

/-- 'laws.FnExactTurnTriangles': WHATEVER THE INPUT: true; the input reads as it did. -/
def fnExactTurnTrianglesSpec : ChangeSpec := { name := "fnExactTurnTriangles", fn := fun _ => fun
  | [d] => { results := [.lit (.bool true)], args := [d] }
  | _ => none }
def fnExactTurnTrianglesRow : OpenClaim := { program := "ytcligopbieaceaa", sum := "9ceeff25162094dfc47b74e5d0685c625f9b744aad07c451d10680a03ad1c346", func := "loop.example/g03105/laws.FnExactTurnTriangles", spec := "fnExactTurnTriangles", apart := false }
def FnExactTurnTrianglesSaid : Prop := fnExactTurnTrianglesRow.holds Try.pinned (OpenSpec.ofChange fnExactTurnTrianglesSpec)

/-- ITS FALSE NEIGHBOUR: 'it returns false'. Refute it at one input. -/
def fnExactTurnTrianglesWrong : ChangeSpec := { name := "fnExactTurnTriangles", fn := fun _ => fun
  | [d] => { results := [.lit (.bool false)], args := [d] }
  | _ => none }
def FnExactTurnTrianglesWrongFalsely : Prop := fnExactTurnTrianglesRow.holds Try.pinned (OpenSpec.ofChange fnExactTurnTrianglesWrong)

/-- 'laws.FnExactSameTriangles': WHATEVER THE INPUT: true; the input reads as it did. -/
def fnExactSameTrianglesSpec : ChangeSpec := { name := "fnExactSameTriangles", fn := fun _ => fun
  | [d1, d2] => { results := [.lit (.bool true)], args := [d1, d2] }
  | _ => none }
def fnExactSameTrianglesRow : OpenClaim := { program := "ytcligopbieaceaa", sum := "9ceeff25162094dfc47b74e5d0685c625f9b744aad07c451d10680a03ad1c346", func := "loop.example/g03105/laws.FnExactSameTriangles", spec := "fnExactSameTriangles", apart := false }
def FnExactSameTrianglesSaid : Prop := fnExactSameTrianglesRow.holds Try.pinned (OpenSpec.ofChange fnExactSameTrianglesSpec)

/-- ITS FALSE NEIGHBOUR: 'it returns false'. Refute it at one input. -/
def fnExactSameTrianglesWrong : ChangeSpec := { name := "fnExactSameTriangles", fn := fun _ => fun
  | [d1, d2] => { results := [.lit (.bool false)], args := [d1, d2] }
  | _ => none }
def FnExactSameTrianglesWrongFalsely : Prop := fnExactSameTrianglesRow.holds Try.pinned (OpenSpec.ofChange fnExactSameTrianglesWrong)

/-- 'laws.FnExactTriText': WHATEVER THE INPUT: true; the input reads as it did. -/
def fnExactTriTextSpec : ChangeSpec := { name := "fnExactTriText", fn := fun _ => fun
  | [d] => { results := [.lit (.bool true)], args := [d] }
  | _ => none }
def fnExactTriTextRow : OpenClaim := { program := "ytcligopbieaceaa", sum := "9ceeff25162094dfc47b74e5d0685c625f9b744aad07c451d10680a03ad1c346", func := "loop.example/g03105/laws.FnExactTriText", spec := "fnExactTriText", inPlace := ["internal/abi.NoEscape", "internal/bytealg.MakeNoZero"], apart := false }
def FnExactTriTextSaid : Prop := fnExactTriTextRow.holds Try.pinned (OpenSpec.ofChange fnExactTriTextSpec)

/-- ITS FALSE NEIGHBOUR: 'it returns false'. Refute it at one input. -/
def fnExactTriTextWrong : ChangeSpec := { name := "fnExactTriText", fn := fun _ => fun
  | [d] => { results := [.lit (.bool false)], args := [d] }
  | _ => none }
def FnExactTriTextWrongFalsely : Prop := fnExactTriTextRow.holds Try.pinned (OpenSpec.ofChange fnExactTriTextWrong)

/-- 'laws.FnExactFlipEdge': WHATEVER THE INPUT: true; the input reads as it did. -/
def fnExactFlipEdgeSpec : ChangeSpec := { name := "fnExactFlipEdge", fn := fun _ => fun
  | [d1, d2] => { results := [.lit (.bool true)], args := [d1, d2] }
  | _ => none }
def fnExactFlipEdgeRow : OpenClaim := { program := "ytcligopbieaceaa", sum := "9ceeff25162094dfc47b74e5d0685c625f9b744aad07c451d10680a03ad1c346", func := "loop.example/g03105/laws.FnExactFlipEdge", spec := "fnExactFlipEdge", apart := false }
def FnExactFlipEdgeSaid : Prop := fnExactFlipEdgeRow.holds Try.pinned (OpenSpec.ofChange fnExactFlipEdgeSpec)

/-- ITS FALSE NEIGHBOUR: 'it returns false'. Refute it at one input. -/
def fnExactFlipEdgeWrong : ChangeSpec := { name := "fnExactFlipEdge", fn := fun _ => fun
  | [d1, d2] => { results := [.lit (.bool false)], args := [d1, d2] }
  | _ => none }
def FnExactFlipEdgeWrongFalsely : Prop := fnExactFlipEdgeRow.holds Try.pinned (OpenSpec.ofChange fnExactFlipEdgeWrong)

/- THE SECOND FORM. 'bulk': how many values and letters a reading holds, each counted each time it is reached (what is shared counts as often as it is met; a slice's spare places count too). A statement '..UptoSaid' is the law's where the arguments, and the package variables that the reading takes, are together of bulk at most 1048576: NARROWER than '..Said'. Prove '..Said' where nothing that the law and all that it calls make is longer than what came in: it says more and counts as full. Else prove '..UptoSaid'. A law counts once. -/
mutual
def uptoBulk {H : Type} : DataW H → Nat
  | .lit (.string bytes) => bytes.length + 1
  | .lit _ => 1
  | .nil => 1
  | .ptr d => uptoBulk d + 1
  | .slice elems spare => uptoBulkAll elems + uptoBulkAll spare + 1
  | .agg parts => uptoBulkAll parts + 1
  | .iface _ d => uptoBulk d + 1
  | .map entries => uptoBulkEntries entries + 1
  | .held _ => 1
def uptoBulkAll {H : Type} : List (DataW H) → Nat
  | [] => 0
  | d :: r => uptoBulk d + uptoBulkAll r
def uptoBulkEntries {H : Type} : List (Lit × DataW H) → Nat
  | [] => 0
  | x :: r => uptoBulkEntry x + uptoBulkEntries r
def uptoBulkEntry {H : Type} : Lit × DataW H → Nat
  | (.string bytes, d) => bytes.length + uptoBulk d + 1
  | (_, d) => uptoBulk d + 1
 end
def uptoSmall : (H : Type) → List (DataW H) → Bool := fun _ ds => decide (uptoBulkAll ds ≤ 1048576)
def OpenSpec.upto (s : _root_.Go.ChangeSpec) : _root_.Go.OpenSpec := { _root_.Go.OpenSpec.ofChange s with cond := some uptoSmall }

/-- 'laws.FnExactCrossSum', WHERE WHAT IT READS IS OF BULK AT MOST 1048576: true; the input reads as it did. -/
def fnExactCrossSumUptoRow : OpenClaim := { program := "ytcligopbieaceaa", sum := "9ceeff25162094dfc47b74e5d0685c625f9b744aad07c451d10680a03ad1c346", func := "loop.example/g03105/laws.FnExactCrossSum", spec := "fnExactCrossSum", apart := false, narrowed := true }
def FnExactCrossSumUptoSaid : Prop := fnExactCrossSumUptoRow.holds Try.pinned (OpenSpec.upto fnExactCrossSumSpec)

/-- 'laws.FnExactAddCoordinates', WHERE WHAT IT READS IS OF BULK AT MOST 1048576: true; the input reads as it did. -/
def fnExactAddCoordinatesUptoRow : OpenClaim := { program := "ytcligopbieaceaa", sum := "9ceeff25162094dfc47b74e5d0685c625f9b744aad07c451d10680a03ad1c346", func := "loop.example/g03105/laws.FnExactAddCoordinates", spec := "fnExactAddCoordinates", apart := false, narrowed := true }
def FnExactAddCoordinatesUptoSaid : Prop := fnExactAddCoordinatesUptoRow.holds Try.pinned (OpenSpec.upto fnExactAddCoordinatesSpec)

/-- 'laws.FnExactIsTriangulation', WHERE WHAT IT READS IS OF BULK AT MOST 1048576: true; the input reads as it did. -/
def fnExactIsTriangulationUptoRow : OpenClaim := { program := "ytcligopbieaceaa", sum := "9ceeff25162094dfc47b74e5d0685c625f9b744aad07c451d10680a03ad1c346", func := "loop.example/g03105/laws.FnExactIsTriangulation", spec := "fnExactIsTriangulation", apart := false, narrowed := true }
def FnExactIsTriangulationUptoSaid : Prop := fnExactIsTriangulationUptoRow.holds Try.pinned (OpenSpec.upto fnExactIsTriangulationSpec)

/-- 'laws.FnExactCanFlip', WHERE WHAT IT READS IS OF BULK AT MOST 1048576: true; the input reads as it did. -/
def fnExactCanFlipUptoRow : OpenClaim := { program := "ytcligopbieaceaa", sum := "9ceeff25162094dfc47b74e5d0685c625f9b744aad07c451d10680a03ad1c346", func := "loop.example/g03105/laws.FnExactCanFlip", spec := "fnExactCanFlip", apart := false, narrowed := true }
def FnExactCanFlipUptoSaid : Prop := fnExactCanFlipUptoRow.holds Try.pinned (OpenSpec.upto fnExactCanFlipSpec)

/-- 'laws.FnExactIsFair', WHERE WHAT IT READS IS OF BULK AT MOST 1048576: true; the input reads as it did. -/
def fnExactIsFairUptoRow : OpenClaim := { program := "ytcligopbieaceaa", sum := "9ceeff25162094dfc47b74e5d0685c625f9b744aad07c451d10680a03ad1c346", func := "loop.example/g03105/laws.FnExactIsFair", spec := "fnExactIsFair", apart := false, narrowed := true }
def FnExactIsFairUptoSaid : Prop := fnExactIsFairUptoRow.holds Try.pinned (OpenSpec.upto fnExactIsFairSpec)

/-- 'laws.FnExactParseTri', WHERE WHAT IT READS IS OF BULK AT MOST 1048576: true; the input reads as it did. -/
def fnExactParseTriUptoRow : OpenClaim := { program := "ytcligopbieaceaa", sum := "9ceeff25162094dfc47b74e5d0685c625f9b744aad07c451d10680a03ad1c346", func := "loop.example/g03105/laws.FnExactParseTri", spec := "fnExactParseTri", apart := false, narrowed := true }
def FnExactParseTriUptoSaid : Prop := fnExactParseTriUptoRow.holds Try.pinned (OpenSpec.upto fnExactParseTriSpec)

/-- 'laws.FnExactArcsAt', WHERE WHAT IT READS IS OF BULK AT MOST 1048576: true; the input reads as it did. -/
def fnExactArcsAtUptoRow : OpenClaim := { program := "ytcligopbieaceaa", sum := "9ceeff25162094dfc47b74e5d0685c625f9b744aad07c451d10680a03ad1c346", func := "loop.example/g03105/laws.FnExactArcsAt", spec := "fnExactArcsAt", unfollowed := true, recurses := true, apart := false, narrowed := true }
def FnExactArcsAtUptoSaid : Prop := fnExactArcsAtUptoRow.holds Try.pinned (OpenSpec.upto fnExactArcsAtSpec)

/-- 'laws.FnExactReverseEdge', WHERE WHAT IT READS IS OF BULK AT MOST 1048576: true; the input reads as it did. -/
def fnExactReverseEdgeUptoRow : OpenClaim := { program := "ytcligopbieaceaa", sum := "9ceeff25162094dfc47b74e5d0685c625f9b744aad07c451d10680a03ad1c346", func := "loop.example/g03105/laws.FnExactReverseEdge", spec := "fnExactReverseEdge", apart := false, narrowed := true }
def FnExactReverseEdgeUptoSaid : Prop := fnExactReverseEdgeUptoRow.holds Try.pinned (OpenSpec.upto fnExactReverseEdgeSpec)

/-- 'laws.FnExactTurnTriangles', WHERE WHAT IT READS IS OF BULK AT MOST 1048576: true; the input reads as it did. -/
def fnExactTurnTrianglesUptoRow : OpenClaim := { program := "ytcligopbieaceaa", sum := "9ceeff25162094dfc47b74e5d0685c625f9b744aad07c451d10680a03ad1c346", func := "loop.example/g03105/laws.FnExactTurnTriangles", spec := "fnExactTurnTriangles", apart := false, narrowed := true }
def FnExactTurnTrianglesUptoSaid : Prop := fnExactTurnTrianglesUptoRow.holds Try.pinned (OpenSpec.upto fnExactTurnTrianglesSpec)

/-- 'laws.FnExactSameTriangles', WHERE WHAT IT READS IS OF BULK AT MOST 1048576: true; the input reads as it did. -/
def fnExactSameTrianglesUptoRow : OpenClaim := { program := "ytcligopbieaceaa", sum := "9ceeff25162094dfc47b74e5d0685c625f9b744aad07c451d10680a03ad1c346", func := "loop.example/g03105/laws.FnExactSameTriangles", spec := "fnExactSameTriangles", apart := false, narrowed := true }
def FnExactSameTrianglesUptoSaid : Prop := fnExactSameTrianglesUptoRow.holds Try.pinned (OpenSpec.upto fnExactSameTrianglesSpec)

/-- 'laws.FnExactTriText', WHERE WHAT IT READS IS OF BULK AT MOST 1048576: true; the input reads as it did. -/
def fnExactTriTextUptoRow : OpenClaim := { program := "ytcligopbieaceaa", sum := "9ceeff25162094dfc47b74e5d0685c625f9b744aad07c451d10680a03ad1c346", func := "loop.example/g03105/laws.FnExactTriText", spec := "fnExactTriText", inPlace := ["internal/abi.NoEscape", "internal/bytealg.MakeNoZero"], apart := false, narrowed := true }
def FnExactTriTextUptoSaid : Prop := fnExactTriTextUptoRow.holds Try.pinned (OpenSpec.upto fnExactTriTextSpec)

/-- 'laws.FnExactFlipEdge', WHERE WHAT IT READS IS OF BULK AT MOST 1048576: true; the input reads as it did. -/
def fnExactFlipEdgeUptoRow : OpenClaim := { program := "ytcligopbieaceaa", sum := "9ceeff25162094dfc47b74e5d0685c625f9b744aad07c451d10680a03ad1c346", func := "loop.example/g03105/laws.FnExactFlipEdge", spec := "fnExactFlipEdge", apart := false, narrowed := true }
def FnExactFlipEdgeUptoSaid : Prop := fnExactFlipEdgeUptoRow.holds Try.pinned (OpenSpec.upto fnExactFlipEdgeSpec)

end Rows
end Go.Proofs.Ytcligopbieaceaa

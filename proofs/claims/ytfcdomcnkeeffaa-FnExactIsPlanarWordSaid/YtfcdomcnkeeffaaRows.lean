/-
  No cell of these rows narrows 'for every input' (looked for: loops, veiled, ifaces, maps, wideKeys, modest, calm, conditions, laid).
  DERIVED. THE GIVEN ROWS OF THIS SEAT. 9 by the template 'for every input the law returns true; each argument reads behind the call as it read before'; 0 by the template 'total and deterministic' (their statements: YtfcdomcnkeeffaaTotals.lean).
  GIVEN WITH THE SEED: the statements are not yours to turn. If you find one false, say at which input.
  Laid BY PROGRAM, IN A SANDBOX (cutbox-rows.mjs): the forced cells as the released guide's own fill.sh prints them over the translation 9ad0c45c03bb4082… (all of the seat's roots in one cut). By AI agents, Wed Nov 11 2026. No macro, syntax, notation, axiom, sorry.
-/
import Derived.Test.YtfcdomcnkeeffaaChecked
import GoSem.Claim
import GoSem.ClaimJoined
import GoSem.ClaimMapViews
import Derived.JoinedTies
import Derived.KernelRfl
namespace Go.Proofs.Ytfcdomcnkeeffaa
/- THE CELL 'sum', in the pinned program and in every row, IS THE sha256 OF THE DUMP (.gsa) THAT YtfcdomcnkeeffaaProg.lean LOADS. Nothing in Lean hashes anything: it is a label: what it is worth is what the hold of that sum in a sandbox is worth. -/
noncomputable def Try.pinned : Pinned := { name := "ytfcdomcnkeeffaa", sum := "9ad0c45c03bb4082174532bac5d729f708ba4c9c3a4f2dbfe0a4eaef7185124e", checked := Try.checked }
namespace Rows
def none {H : Type} : Left H := { results := [], args := [] }

/-- 'laws.FnExactIsCrossingWord': WHATEVER THE INPUT: true; the input reads as it did. -/
def fnExactIsCrossingWordSpec : ChangeSpec := { name := "fnExactIsCrossingWord", fn := fun _ => fun
  | [d] => { results := [.lit (.bool true)], args := [d] }
  | _ => none }
def fnExactIsCrossingWordRow : OpenClaim := { program := "ytfcdomcnkeeffaa", sum := "9ad0c45c03bb4082174532bac5d729f708ba4c9c3a4f2dbfe0a4eaef7185124e", func := "loop.example/g03105/laws.FnExactIsCrossingWord", spec := "fnExactIsCrossingWord", apart := false }
def FnExactIsCrossingWordSaid : Prop := fnExactIsCrossingWordRow.holds Try.pinned (OpenSpec.ofChange fnExactIsCrossingWordSpec)

/-- ITS FALSE NEIGHBOUR: 'it returns false'. Refute it at one input. -/
def fnExactIsCrossingWordWrong : ChangeSpec := { name := "fnExactIsCrossingWord", fn := fun _ => fun
  | [d] => { results := [.lit (.bool false)], args := [d] }
  | _ => none }
def FnExactIsCrossingWordWrongFalsely : Prop := fnExactIsCrossingWordRow.holds Try.pinned (OpenSpec.ofChange fnExactIsCrossingWordWrong)

/-- 'laws.FnExactAreLinked': WHATEVER THE INPUT: true; the input reads as it did. -/
def fnExactAreLinkedSpec : ChangeSpec := { name := "fnExactAreLinked", fn := fun _ => fun
  | [d1, d2, d3] => { results := [.lit (.bool true)], args := [d1, d2, d3] }
  | _ => none }
def fnExactAreLinkedRow : OpenClaim := { program := "ytfcdomcnkeeffaa", sum := "9ad0c45c03bb4082174532bac5d729f708ba4c9c3a4f2dbfe0a4eaef7185124e", func := "loop.example/g03105/laws.FnExactAreLinked", spec := "fnExactAreLinked", apart := false }
def FnExactAreLinkedSaid : Prop := fnExactAreLinkedRow.holds Try.pinned (OpenSpec.ofChange fnExactAreLinkedSpec)

/-- ITS FALSE NEIGHBOUR: 'it returns false'. Refute it at one input. -/
def fnExactAreLinkedWrong : ChangeSpec := { name := "fnExactAreLinked", fn := fun _ => fun
  | [d1, d2, d3] => { results := [.lit (.bool false)], args := [d1, d2, d3] }
  | _ => none }
def FnExactAreLinkedWrongFalsely : Prop := fnExactAreLinkedRow.holds Try.pinned (OpenSpec.ofChange fnExactAreLinkedWrong)

/-- 'laws.FnExactDropCrossing': WHATEVER THE INPUT: true; the input reads as it did. -/
def fnExactDropCrossingSpec : ChangeSpec := { name := "fnExactDropCrossing", fn := fun _ => fun
  | [d1, d2] => { results := [.lit (.bool true)], args := [d1, d2] }
  | _ => none }
def fnExactDropCrossingRow : OpenClaim := { program := "ytfcdomcnkeeffaa", sum := "9ad0c45c03bb4082174532bac5d729f708ba4c9c3a4f2dbfe0a4eaef7185124e", func := "loop.example/g03105/laws.FnExactDropCrossing", spec := "fnExactDropCrossing", apart := false }
def FnExactDropCrossingSaid : Prop := fnExactDropCrossingRow.holds Try.pinned (OpenSpec.ofChange fnExactDropCrossingSpec)

/-- ITS FALSE NEIGHBOUR: 'it returns false'. Refute it at one input. -/
def fnExactDropCrossingWrong : ChangeSpec := { name := "fnExactDropCrossing", fn := fun _ => fun
  | [d1, d2] => { results := [.lit (.bool false)], args := [d1, d2] }
  | _ => none }
def FnExactDropCrossingWrongFalsely : Prop := fnExactDropCrossingRow.holds Try.pinned (OpenSpec.ofChange fnExactDropCrossingWrong)

/-- 'laws.FnExactDropLoops': WHATEVER THE INPUT: true; the input reads as it did. -/
def fnExactDropLoopsSpec : ChangeSpec := { name := "fnExactDropLoops", fn := fun _ => fun
  | [d] => { results := [.lit (.bool true)], args := [d] }
  | _ => none }
def fnExactDropLoopsRow : OpenClaim := { program := "ytfcdomcnkeeffaa", sum := "9ad0c45c03bb4082174532bac5d729f708ba4c9c3a4f2dbfe0a4eaef7185124e", func := "loop.example/g03105/laws.FnExactDropLoops", spec := "fnExactDropLoops", apart := false }
def FnExactDropLoopsSaid : Prop := fnExactDropLoopsRow.holds Try.pinned (OpenSpec.ofChange fnExactDropLoopsSpec)

/-- ITS FALSE NEIGHBOUR: 'it returns false'. Refute it at one input. -/
def fnExactDropLoopsWrong : ChangeSpec := { name := "fnExactDropLoops", fn := fun _ => fun
  | [d] => { results := [.lit (.bool false)], args := [d] }
  | _ => none }
def FnExactDropLoopsWrongFalsely : Prop := fnExactDropLoopsRow.holds Try.pinned (OpenSpec.ofChange fnExactDropLoopsWrong)

/-- 'laws.FnExactLinkRow': WHATEVER THE INPUT: true; the input reads as it did. -/
def fnExactLinkRowSpec : ChangeSpec := { name := "fnExactLinkRow", fn := fun _ => fun
  | [d] => { results := [.lit (.bool true)], args := [d] }
  | _ => none }
def fnExactLinkRowRow : OpenClaim := { program := "ytfcdomcnkeeffaa", sum := "9ad0c45c03bb4082174532bac5d729f708ba4c9c3a4f2dbfe0a4eaef7185124e", func := "loop.example/g03105/laws.FnExactLinkRow", spec := "fnExactLinkRow", apart := false }
def FnExactLinkRowSaid : Prop := fnExactLinkRowRow.holds Try.pinned (OpenSpec.ofChange fnExactLinkRowSpec)

/-- ITS FALSE NEIGHBOUR: 'it returns false'. Refute it at one input. -/
def fnExactLinkRowWrong : ChangeSpec := { name := "fnExactLinkRow", fn := fun _ => fun
  | [d] => { results := [.lit (.bool false)], args := [d] }
  | _ => none }
def FnExactLinkRowWrongFalsely : Prop := fnExactLinkRowRow.holds Try.pinned (OpenSpec.ofChange fnExactLinkRowWrong)

/-- 'laws.FnExactCrossingMap': WHATEVER THE INPUT: true; the input reads as it did. -/
def fnExactCrossingMapSpec : ChangeSpec := { name := "fnExactCrossingMap", fn := fun _ => fun
  | [d1, d2] => { results := [.lit (.bool true)], args := [d1, d2] }
  | _ => none }
def fnExactCrossingMapRow : OpenClaim := { program := "ytfcdomcnkeeffaa", sum := "9ad0c45c03bb4082174532bac5d729f708ba4c9c3a4f2dbfe0a4eaef7185124e", func := "loop.example/g03105/laws.FnExactCrossingMap", spec := "fnExactCrossingMap", apart := false }
def FnExactCrossingMapSaid : Prop := fnExactCrossingMapRow.holds Try.pinned (OpenSpec.ofChange fnExactCrossingMapSpec)

/-- ITS FALSE NEIGHBOUR: 'it returns false'. Refute it at one input. -/
def fnExactCrossingMapWrong : ChangeSpec := { name := "fnExactCrossingMap", fn := fun _ => fun
  | [d1, d2] => { results := [.lit (.bool false)], args := [d1, d2] }
  | _ => none }
def FnExactCrossingMapWrongFalsely : Prop := fnExactCrossingMapRow.holds Try.pinned (OpenSpec.ofChange fnExactCrossingMapWrong)

/-- 'laws.FnExactCurveGenus': WHATEVER THE INPUT: true; the input reads as it did. -/
def fnExactCurveGenusSpec : ChangeSpec := { name := "fnExactCurveGenus", fn := fun _ => fun
  | [d] => { results := [.lit (.bool true)], args := [d] }
  | _ => none }
def fnExactCurveGenusRow : OpenClaim := { program := "ytfcdomcnkeeffaa", sum := "9ad0c45c03bb4082174532bac5d729f708ba4c9c3a4f2dbfe0a4eaef7185124e", func := "loop.example/g03105/laws.FnExactCurveGenus", spec := "fnExactCurveGenus", apart := false }
def FnExactCurveGenusSaid : Prop := fnExactCurveGenusRow.holds Try.pinned (OpenSpec.ofChange fnExactCurveGenusSpec)

/-- ITS FALSE NEIGHBOUR: 'it returns false'. Refute it at one input. -/
def fnExactCurveGenusWrong : ChangeSpec := { name := "fnExactCurveGenus", fn := fun _ => fun
  | [d] => { results := [.lit (.bool false)], args := [d] }
  | _ => none }
def FnExactCurveGenusWrongFalsely : Prop := fnExactCurveGenusRow.holds Try.pinned (OpenSpec.ofChange fnExactCurveGenusWrong)

/-- 'laws.FnExactIsPlanarWord': WHATEVER THE INPUT: true; the input reads as it did. -/
def fnExactIsPlanarWordSpec : ChangeSpec := { name := "fnExactIsPlanarWord", fn := fun _ => fun
  | [d] => { results := [.lit (.bool true)], args := [d] }
  | _ => none }
def fnExactIsPlanarWordRow : OpenClaim := { program := "ytfcdomcnkeeffaa", sum := "9ad0c45c03bb4082174532bac5d729f708ba4c9c3a4f2dbfe0a4eaef7185124e", func := "loop.example/g03105/laws.FnExactIsPlanarWord", spec := "fnExactIsPlanarWord", apart := false }
def FnExactIsPlanarWordSaid : Prop := fnExactIsPlanarWordRow.holds Try.pinned (OpenSpec.ofChange fnExactIsPlanarWordSpec)

/-- ITS FALSE NEIGHBOUR: 'it returns false'. Refute it at one input. -/
def fnExactIsPlanarWordWrong : ChangeSpec := { name := "fnExactIsPlanarWord", fn := fun _ => fun
  | [d] => { results := [.lit (.bool false)], args := [d] }
  | _ => none }
def FnExactIsPlanarWordWrongFalsely : Prop := fnExactIsPlanarWordRow.holds Try.pinned (OpenSpec.ofChange fnExactIsPlanarWordWrong)

/-- 'laws.FnGauss': WHATEVER THE INPUT: true; the input reads as it did. -/
def fnGaussSpec : ChangeSpec := { name := "fnGauss", fn := fun _ => fun
  | [d] => { results := [.lit (.bool true)], args := [d] }
  | _ => none }
def fnGaussRow : OpenClaim := { program := "ytfcdomcnkeeffaa", sum := "9ad0c45c03bb4082174532bac5d729f708ba4c9c3a4f2dbfe0a4eaef7185124e", func := "loop.example/g03105/laws.FnGauss", spec := "fnGauss", apart := false }
def FnGaussSaid : Prop := fnGaussRow.holds Try.pinned (OpenSpec.ofChange fnGaussSpec)

/-- ITS FALSE NEIGHBOUR: 'it returns false'. Refute it at one input. -/
def fnGaussWrong : ChangeSpec := { name := "fnGauss", fn := fun _ => fun
  | [d] => { results := [.lit (.bool false)], args := [d] }
  | _ => none }
def FnGaussWrongFalsely : Prop := fnGaussRow.holds Try.pinned (OpenSpec.ofChange fnGaussWrong)

/- THE SECOND FORM. 'bulk': how many values and letters a reading holds, each counted each time it is reached (what is shared counts as often as it is met; a slice's spare places count too). A statement '..UptoSaid' is the law's where the arguments, and the package variables that the reading takes, are together of bulk at most 1048576: NARROWER than '..Said'. Prove '..Said' where nothing that the law and all that it calls make is longer than what came in: it says more and counts as full. Else prove '..UptoSaid'. A law counts once. -/
mutual
def uptoBulk {H : Type} : DataW H → Nat
  | .lit (.string bytes) => bytes.length + 1
  | .lit _ => 1
  | .nil => 1
  | .ptr d => uptoBulk d + 1
  | .slice elems spare => uptoBulkAll elems + uptoBulkAll spare + 1
  | .agg parts => uptoBulkAll parts + 1
  | .iface _ d => uptoBulk d + 1
  | .map entries => uptoBulkEntries entries + 1
  | .held _ => 1
def uptoBulkAll {H : Type} : List (DataW H) → Nat
  | [] => 0
  | d :: r => uptoBulk d + uptoBulkAll r
def uptoBulkEntries {H : Type} : List (Lit × DataW H) → Nat
  | [] => 0
  | x :: r => uptoBulkEntry x + uptoBulkEntries r
def uptoBulkEntry {H : Type} : Lit × DataW H → Nat
  | (.string bytes, d) => bytes.length + uptoBulk d + 1
  | (_, d) => uptoBulk d + 1
 end
def uptoSmall : (H : Type) → List (DataW H) → Bool := fun _ ds => decide (uptoBulkAll ds ≤ 1048576)
def OpenSpec.upto (s : _root_.Go.ChangeSpec) : _root_.Go.OpenSpec := { _root_.Go.OpenSpec.ofChange s with cond := some uptoSmall }

/-- 'laws.FnExactIsCrossingWord', WHERE WHAT IT READS IS OF BULK AT MOST 1048576: true; the input reads as it did. -/
def fnExactIsCrossingWordUptoRow : OpenClaim := { program := "ytfcdomcnkeeffaa", sum := "9ad0c45c03bb4082174532bac5d729f708ba4c9c3a4f2dbfe0a4eaef7185124e", func := "loop.example/g03105/laws.FnExactIsCrossingWord", spec := "fnExactIsCrossingWord", apart := false, narrowed := true }
def FnExactIsCrossingWordUptoSaid : Prop := fnExactIsCrossingWordUptoRow.holds Try.pinned (OpenSpec.upto fnExactIsCrossingWordSpec)

/-- 'laws.FnExactAreLinked', WHERE WHAT IT READS IS OF BULK AT MOST 1048576: true; the input reads as it did. -/
def fnExactAreLinkedUptoRow : OpenClaim := { program := "ytfcdomcnkeeffaa", sum := "9ad0c45c03bb4082174532bac5d729f708ba4c9c3a4f2dbfe0a4eaef7185124e", func := "loop.example/g03105/laws.FnExactAreLinked", spec := "fnExactAreLinked", apart := false, narrowed := true }
def FnExactAreLinkedUptoSaid : Prop := fnExactAreLinkedUptoRow.holds Try.pinned (OpenSpec.upto fnExactAreLinkedSpec)

/-- 'laws.FnExactDropCrossing', WHERE WHAT IT READS IS OF BULK AT MOST 1048576: true; the input reads as it did. -/
def fnExactDropCrossingUptoRow : OpenClaim := { program := "ytfcdomcnkeeffaa", sum := "9ad0c45c03bb4082174532bac5d729f708ba4c9c3a4f2dbfe0a4eaef7185124e", func := "loop.example/g03105/laws.FnExactDropCrossing", spec := "fnExactDropCrossing", apart := false, narrowed := true }
def FnExactDropCrossingUptoSaid : Prop := fnExactDropCrossingUptoRow.holds Try.pinned (OpenSpec.upto fnExactDropCrossingSpec)

/-- 'laws.FnExactDropLoops', WHERE WHAT IT READS IS OF BULK AT MOST 1048576: true; the input reads as it did. -/
def fnExactDropLoopsUptoRow : OpenClaim := { program := "ytfcdomcnkeeffaa", sum := "9ad0c45c03bb4082174532bac5d729f708ba4c9c3a4f2dbfe0a4eaef7185124e", func := "loop.example/g03105/laws.FnExactDropLoops", spec := "fnExactDropLoops", apart := false, narrowed := true }
def FnExactDropLoopsUptoSaid : Prop := fnExactDropLoopsUptoRow.holds Try.pinned (OpenSpec.upto fnExactDropLoopsSpec)

/-- 'laws.FnExactLinkRow', WHERE WHAT IT READS IS OF BULK AT MOST 1048576: true; the input reads as it did. -/
def fnExactLinkRowUptoRow : OpenClaim := { program := "ytfcdomcnkeeffaa", sum := "9ad0c45c03bb4082174532bac5d729f708ba4c9c3a4f2dbfe0a4eaef7185124e", func := "loop.example/g03105/laws.FnExactLinkRow", spec := "fnExactLinkRow", apart := false, narrowed := true }
def FnExactLinkRowUptoSaid : Prop := fnExactLinkRowUptoRow.holds Try.pinned (OpenSpec.upto fnExactLinkRowSpec)

/-- 'laws.FnExactCrossingMap', WHERE WHAT IT READS IS OF BULK AT MOST 1048576: true; the input reads as it did. -/
def fnExactCrossingMapUptoRow : OpenClaim := { program := "ytfcdomcnkeeffaa", sum := "9ad0c45c03bb4082174532bac5d729f708ba4c9c3a4f2dbfe0a4eaef7185124e", func := "loop.example/g03105/laws.FnExactCrossingMap", spec := "fnExactCrossingMap", apart := false, narrowed := true }
def FnExactCrossingMapUptoSaid : Prop := fnExactCrossingMapUptoRow.holds Try.pinned (OpenSpec.upto fnExactCrossingMapSpec)

/-- 'laws.FnExactCurveGenus', WHERE WHAT IT READS IS OF BULK AT MOST 1048576: true; the input reads as it did. -/
def fnExactCurveGenusUptoRow : OpenClaim := { program := "ytfcdomcnkeeffaa", sum := "9ad0c45c03bb4082174532bac5d729f708ba4c9c3a4f2dbfe0a4eaef7185124e", func := "loop.example/g03105/laws.FnExactCurveGenus", spec := "fnExactCurveGenus", apart := false, narrowed := true }
def FnExactCurveGenusUptoSaid : Prop := fnExactCurveGenusUptoRow.holds Try.pinned (OpenSpec.upto fnExactCurveGenusSpec)

/-- 'laws.FnExactIsPlanarWord', WHERE WHAT IT READS IS OF BULK AT MOST 1048576: true; the input reads as it did. -/
def fnExactIsPlanarWordUptoRow : OpenClaim := { program := "ytfcdomcnkeeffaa", sum := "9ad0c45c03bb4082174532bac5d729f708ba4c9c3a4f2dbfe0a4eaef7185124e", func := "loop.example/g03105/laws.FnExactIsPlanarWord", spec := "fnExactIsPlanarWord", apart := false, narrowed := true }
def FnExactIsPlanarWordUptoSaid : Prop := fnExactIsPlanarWordUptoRow.holds Try.pinned (OpenSpec.upto fnExactIsPlanarWordSpec)

/-- 'laws.FnGauss', WHERE WHAT IT READS IS OF BULK AT MOST 1048576: true; the input reads as it did. -/
def fnGaussUptoRow : OpenClaim := { program := "ytfcdomcnkeeffaa", sum := "9ad0c45c03bb4082174532bac5d729f708ba4c9c3a4f2dbfe0a4eaef7185124e", func := "loop.example/g03105/laws.FnGauss", spec := "fnGauss", apart := false, narrowed := true }
def FnGaussUptoSaid : Prop := fnGaussUptoRow.holds Try.pinned (OpenSpec.upto fnGaussSpec)

end Rows
end Go.Proofs.Ytfcdomcnkeeffaa

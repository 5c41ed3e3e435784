/-
  No cell of these rows narrows 'for every input' (looked for: loops, veiled, ifaces, maps, wideKeys, modest, calm, conditions, laid).
  DERIVED. THE GIVEN ROWS OF THIS SEAT. 10 by the template 'for every input the law returns true; each argument reads behind the call as it read before'; 0 by the template 'total and deterministic' (their statements: YtolmicnapemljaaTotals.lean).
  GIVEN WITH THE SEED: the statements are not yours to turn. If you find one false, say at which input.
  Laid BY PROGRAM, IN A SANDBOX (cutbox-rows.mjs): the forced cells as the released guide's own fill.sh prints them over the translation 6c747a6a7958eca0… (all of the seat's roots in one cut). By AI agents, Wed Nov 11 2026. No macro, syntax, notation, axiom, sorry.
-/
import Derived.Test.YtolmicnapemljaaChecked
import GoSem.Claim
import GoSem.ClaimJoined
import GoSem.ClaimMapViews
import Derived.JoinedTies
import Derived.KernelRfl
namespace Go.Proofs.Ytolmicnapemljaa
/- THE CELL 'sum', in the pinned program and in every row, IS THE sha256 OF THE DUMP (.gsa) THAT YtolmicnapemljaaProg.lean LOADS. Nothing in Lean hashes anything: it is a label: what it is worth is what the hold of that sum in a sandbox is worth. -/
noncomputable def Try.pinned : Pinned := { name := "ytolmicnapemljaa", sum := "6c747a6a7958eca0e177fccd1f35f7a3a1e9c8006ced87e1fefd90186b4ed211", checked := Try.checked }
namespace Rows
def none {H : Type} : Left H := { results := [], args := [] }

/-- 'laws.FnExactVertexCurve': WHATEVER THE INPUT: true; the input reads as it did. -/
def fnExactVertexCurveSpec : ChangeSpec := { name := "fnExactVertexCurve", fn := fun _ => fun
  | [d1, d2, d3] => { results := [.lit (.bool true)], args := [d1, d2, d3] }
  | _ => none }
def fnExactVertexCurveRow : OpenClaim := { program := "ytolmicnapemljaa", sum := "6c747a6a7958eca0e177fccd1f35f7a3a1e9c8006ced87e1fefd90186b4ed211", func := "loop.example/g03105/laws.FnExactVertexCurve", spec := "fnExactVertexCurve", apart := false }
def FnExactVertexCurveSaid : Prop := fnExactVertexCurveRow.holds Try.pinned (OpenSpec.ofChange fnExactVertexCurveSpec)

/-- ITS FALSE NEIGHBOUR: 'it returns false'. Refute it at one input. -/
def fnExactVertexCurveWrong : ChangeSpec := { name := "fnExactVertexCurve", fn := fun _ => fun
  | [d1, d2, d3] => { results := [.lit (.bool false)], args := [d1, d2, d3] }
  | _ => none }
def FnExactVertexCurveWrongFalsely : Prop := fnExactVertexCurveRow.holds Try.pinned (OpenSpec.ofChange fnExactVertexCurveWrong)

/-- 'laws.FnExactFlipCurve': WHATEVER THE INPUT: true; the input reads as it did. -/
def fnExactFlipCurveSpec : ChangeSpec := { name := "fnExactFlipCurve", fn := fun _ => fun
  | [d1, d2, d3] => { results := [.lit (.bool true)], args := [d1, d2, d3] }
  | _ => none }
def fnExactFlipCurveRow : OpenClaim := { program := "ytolmicnapemljaa", sum := "6c747a6a7958eca0e177fccd1f35f7a3a1e9c8006ced87e1fefd90186b4ed211", func := "loop.example/g03105/laws.FnExactFlipCurve", spec := "fnExactFlipCurve", unfollowed := true, recurses := true, apart := false }
def FnExactFlipCurveSaid : Prop := fnExactFlipCurveRow.holds Try.pinned (OpenSpec.ofChange fnExactFlipCurveSpec)

/-- ITS FALSE NEIGHBOUR: 'it returns false'. Refute it at one input. -/
def fnExactFlipCurveWrong : ChangeSpec := { name := "fnExactFlipCurve", fn := fun _ => fun
  | [d1, d2, d3] => { results := [.lit (.bool false)], args := [d1, d2, d3] }
  | _ => none }
def FnExactFlipCurveWrongFalsely : Prop := fnExactFlipCurveRow.holds Try.pinned (OpenSpec.ofChange fnExactFlipCurveWrong)

/-- 'laws.FnExactTriSurface': WHATEVER THE INPUT: true; the input reads as it did. -/
def fnExactTriSurfaceSpec : ChangeSpec := { name := "fnExactTriSurface", fn := fun _ => fun
  | [d] => { results := [.lit (.bool true)], args := [d] }
  | _ => none }
def fnExactTriSurfaceRow : OpenClaim := { program := "ytolmicnapemljaa", sum := "6c747a6a7958eca0e177fccd1f35f7a3a1e9c8006ced87e1fefd90186b4ed211", func := "loop.example/g03105/laws.FnExactTriSurface", spec := "fnExactTriSurface", apart := false }
def FnExactTriSurfaceSaid : Prop := fnExactTriSurfaceRow.holds Try.pinned (OpenSpec.ofChange fnExactTriSurfaceSpec)

/-- ITS FALSE NEIGHBOUR: 'it returns false'. Refute it at one input. -/
def fnExactTriSurfaceWrong : ChangeSpec := { name := "fnExactTriSurface", fn := fun _ => fun
  | [d] => { results := [.lit (.bool false)], args := [d] }
  | _ => none }
def FnExactTriSurfaceWrongFalsely : Prop := fnExactTriSurfaceRow.holds Try.pinned (OpenSpec.ofChange fnExactTriSurfaceWrong)

/-- 'laws.FnExactCountCurves': WHATEVER THE INPUT: true; the input reads as it did. -/
def fnExactCountCurvesSpec : ChangeSpec := { name := "fnExactCountCurves", fn := fun _ => fun
  | [d1, d2] => { results := [.lit (.bool true)], args := [d1, d2] }
  | _ => none }
def fnExactCountCurvesRow : OpenClaim := { program := "ytolmicnapemljaa", sum := "6c747a6a7958eca0e177fccd1f35f7a3a1e9c8006ced87e1fefd90186b4ed211", func := "loop.example/g03105/laws.FnExactCountCurves", spec := "fnExactCountCurves", unfollowed := true, recurses := true, apart := false }
def FnExactCountCurvesSaid : Prop := fnExactCountCurvesRow.holds Try.pinned (OpenSpec.ofChange fnExactCountCurvesSpec)

/-- ITS FALSE NEIGHBOUR: 'it returns false'. Refute it at one input. -/
def fnExactCountCurvesWrong : ChangeSpec := { name := "fnExactCountCurves", fn := fun _ => fun
  | [d1, d2] => { results := [.lit (.bool false)], args := [d1, d2] }
  | _ => none }
def FnExactCountCurvesWrongFalsely : Prop := fnExactCountCurvesRow.holds Try.pinned (OpenSpec.ofChange fnExactCountCurvesWrong)

/-- 'laws.FnExactBestFlip': WHATEVER THE INPUT: true; the input reads as it did. -/
def fnExactBestFlipSpec : ChangeSpec := { name := "fnExactBestFlip", fn := fun _ => fun
  | [d1, d2] => { results := [.lit (.bool true)], args := [d1, d2] }
  | _ => none }
def fnExactBestFlipRow : OpenClaim := { program := "ytolmicnapemljaa", sum := "6c747a6a7958eca0e177fccd1f35f7a3a1e9c8006ced87e1fefd90186b4ed211", func := "loop.example/g03105/laws.FnExactBestFlip", spec := "fnExactBestFlip", unfollowed := true, recurses := true, apart := false }
def FnExactBestFlipSaid : Prop := fnExactBestFlipRow.holds Try.pinned (OpenSpec.ofChange fnExactBestFlipSpec)

/-- ITS FALSE NEIGHBOUR: 'it returns false'. Refute it at one input. -/
def fnExactBestFlipWrong : ChangeSpec := { name := "fnExactBestFlip", fn := fun _ => fun
  | [d1, d2] => { results := [.lit (.bool false)], args := [d1, d2] }
  | _ => none }
def FnExactBestFlipWrongFalsely : Prop := fnExactBestFlipRow.holds Try.pinned (OpenSpec.ofChange fnExactBestFlipWrong)

/-- 'laws.FnExactCurveLengths': WHATEVER THE INPUT: true; the input reads as it did. -/
def fnExactCurveLengthsSpec : ChangeSpec := { name := "fnExactCurveLengths", fn := fun _ => fun
  | [d1, d2] => { results := [.lit (.bool true)], args := [d1, d2] }
  | _ => none }
def fnExactCurveLengthsRow : OpenClaim := { program := "ytolmicnapemljaa", sum := "6c747a6a7958eca0e177fccd1f35f7a3a1e9c8006ced87e1fefd90186b4ed211", func := "loop.example/g03105/laws.FnExactCurveLengths", spec := "fnExactCurveLengths", unfollowed := true, recurses := true, apart := false }
def FnExactCurveLengthsSaid : Prop := fnExactCurveLengthsRow.holds Try.pinned (OpenSpec.ofChange fnExactCurveLengthsSpec)

/-- ITS FALSE NEIGHBOUR: 'it returns false'. Refute it at one input. -/
def fnExactCurveLengthsWrong : ChangeSpec := { name := "fnExactCurveLengths", fn := fun _ => fun
  | [d1, d2] => { results := [.lit (.bool false)], args := [d1, d2] }
  | _ => none }
def FnExactCurveLengthsWrongFalsely : Prop := fnExactCurveLengthsRow.holds Try.pinned (OpenSpec.ofChange fnExactCurveLengthsWrong)

/-- 'laws.FnExactPlainCurve': WHATEVER THE INPUT: true; the input reads as it did. -/
def fnExactPlainCurveSpec : ChangeSpec := { name := "fnExactPlainCurve", fn := fun _ => fun
  | [d1, d2] => { results := [.lit (.bool true)], args := [d1, d2] }
  | _ => none }
def fnExactPlainCurveRow : OpenClaim := { program := "ytolmicnapemljaa", sum := "6c747a6a7958eca0e177fccd1f35f7a3a1e9c8006ced87e1fefd90186b4ed211", func := "loop.example/g03105/laws.FnExactPlainCurve", spec := "fnExactPlainCurve", unfollowed := true, recurses := true, apart := false }
def FnExactPlainCurveSaid : Prop := fnExactPlainCurveRow.holds Try.pinned (OpenSpec.ofChange fnExactPlainCurveSpec)

/-- ITS FALSE NEIGHBOUR: 'it returns false'. Refute it at one input. -/
def fnExactPlainCurveWrong : ChangeSpec := { name := "fnExactPlainCurve", fn := fun _ => fun
  | [d1, d2] => { results := [.lit (.bool false)], args := [d1, d2] }
  | _ => none }
def FnExactPlainCurveWrongFalsely : Prop := fnExactPlainCurveRow.holds Try.pinned (OpenSpec.ofChange fnExactPlainCurveWrong)

/-- 'laws.FnExactShorten': WHATEVER THE INPUT: true; the input reads as it did. -/
def fnExactShortenSpec : ChangeSpec := { name := "fnExactShorten", fn := fun _ => fun
  | [d1, d2] => { results := [.lit (.bool true)], args := [d1, d2] }
  | _ => none }
def fnExactShortenRow : OpenClaim := { program := "ytolmicnapemljaa", sum := "6c747a6a7958eca0e177fccd1f35f7a3a1e9c8006ced87e1fefd90186b4ed211", func := "loop.example/g03105/laws.FnExactShorten", spec := "fnExactShorten", unfollowed := true, recurses := true, apart := false }
def FnExactShortenSaid : Prop := fnExactShortenRow.holds Try.pinned (OpenSpec.ofChange fnExactShortenSpec)

/-- ITS FALSE NEIGHBOUR: 'it returns false'. Refute it at one input. -/
def fnExactShortenWrong : ChangeSpec := { name := "fnExactShorten", fn := fun _ => fun
  | [d1, d2] => { results := [.lit (.bool false)], args := [d1, d2] }
  | _ => none }
def FnExactShortenWrongFalsely : Prop := fnExactShortenRow.holds Try.pinned (OpenSpec.ofChange fnExactShortenWrong)

/-- 'laws.FnFlips': WHATEVER THE INPUT: true; the input reads as it did. -/
def fnFlipsSpec : ChangeSpec := { name := "fnFlips", fn := fun _ => fun
  | [d] => { results := [.lit (.bool true)], args := [d] }
  | _ => none }
def fnFlipsRow : OpenClaim := { program := "ytolmicnapemljaa", sum := "6c747a6a7958eca0e177fccd1f35f7a3a1e9c8006ced87e1fefd90186b4ed211", func := "loop.example/g03105/laws.FnFlips", spec := "fnFlips", unfollowed := true, recurses := true, apart := false }
def FnFlipsSaid : Prop := fnFlipsRow.holds Try.pinned (OpenSpec.ofChange fnFlipsSpec)

/-- ITS FALSE NEIGHBOUR: 'it returns false'. Refute it at one input. -/
def fnFlipsWrong : ChangeSpec := { name := "fnFlips", fn := fun _ => fun
  | [d] => { results := [.lit (.bool false)], args := [d] }
  | _ => none }
def FnFlipsWrongFalsely : Prop := fnFlipsRow.holds Try.pinned (OpenSpec.ofChange fnFlipsWrong)

/-- 'laws.FnCurves': WHATEVER THE INPUT: true; the input reads as it did. -/
def fnCurvesSpec : ChangeSpec := { name := "fnCurves", fn := fun _ => fun
  | [d] => { results := [.lit (.bool true)], args := [d] }
  | _ => none }
def fnCurvesRow : OpenClaim := { program := "ytolmicnapemljaa", sum := "6c747a6a7958eca0e177fccd1f35f7a3a1e9c8006ced87e1fefd90186b4ed211", func := "loop.example/g03105/laws.FnCurves", spec := "fnCurves", inPlace := ["internal/abi.NoEscape", "internal/bytealg.MakeNoZero"], unfollowed := true, recurses := true, apart := false }
def FnCurvesSaid : Prop := fnCurvesRow.holds Try.pinned (OpenSpec.ofChange fnCurvesSpec)

/-- ITS FALSE NEIGHBOUR: 'it returns false'. Refute it at one input. -/
def fnCurvesWrong : ChangeSpec := { name := "fnCurves", fn := fun _ => fun
  | [d] => { results := [.lit (.bool false)], args := [d] }
  | _ => none }
def FnCurvesWrongFalsely : Prop := fnCurvesRow.holds Try.pinned (OpenSpec.ofChange fnCurvesWrong)

/- THE SECOND FORM. 'bulk': how many values and letters a reading holds, each counted each time it is reached (what is shared counts as often as it is met; a slice's spare places count too). A statement '..UptoSaid' is the law's where the arguments, and the package variables that the reading takes, are together of bulk at most 1048576: NARROWER than '..Said'. Prove '..Said' where nothing that the law and all that it calls make is longer than what came in: it says more and counts as full. Else prove '..UptoSaid'. A law counts once. -/
mutual
def uptoBulk {H : Type} : DataW H → Nat
  | .lit (.string bytes) => bytes.length + 1
  | .lit _ => 1
  | .nil => 1
  | .ptr d => uptoBulk d + 1
  | .slice elems spare => uptoBulkAll elems + uptoBulkAll spare + 1
  | .agg parts => uptoBulkAll parts + 1
  | .iface _ d => uptoBulk d + 1
  | .map entries => uptoBulkEntries entries + 1
  | .held _ => 1
def uptoBulkAll {H : Type} : List (DataW H) → Nat
  | [] => 0
  | d :: r => uptoBulk d + uptoBulkAll r
def uptoBulkEntries {H : Type} : List (Lit × DataW H) → Nat
  | [] => 0
  | x :: r => uptoBulkEntry x + uptoBulkEntries r
def uptoBulkEntry {H : Type} : Lit × DataW H → Nat
  | (.string bytes, d) => bytes.length + uptoBulk d + 1
  | (_, d) => uptoBulk d + 1
 end
def uptoSmall : (H : Type) → List (DataW H) → Bool := fun _ ds => decide (uptoBulkAll ds ≤ 1048576)
def OpenSpec.upto (s : _root_.Go.ChangeSpec) : _root_.Go.OpenSpec := { _root_.Go.OpenSpec.ofChange s with cond := some uptoSmall }

/-- 'laws.FnExactVertexCurve', WHERE WHAT IT READS IS OF BULK AT MOST 1048576: true; the input reads as it did. -/
def fnExactVertexCurveUptoRow : OpenClaim := { program := "ytolmicnapemljaa", sum := "6c747a6a7958eca0e177fccd1f35f7a3a1e9c8006ced87e1fefd90186b4ed211", func := "loop.example/g03105/laws.FnExactVertexCurve", spec := "fnExactVertexCurve", apart := false, narrowed := true }
def FnExactVertexCurveUptoSaid : Prop := fnExactVertexCurveUptoRow.holds Try.pinned (OpenSpec.upto fnExactVertexCurveSpec)

/-- 'laws.FnExactFlipCurve', WHERE WHAT IT READS IS OF BULK AT MOST 1048576: true; the input reads as it did. -/
def fnExactFlipCurveUptoRow : OpenClaim := { program := "ytolmicnapemljaa", sum := "6c747a6a7958eca0e177fccd1f35f7a3a1e9c8006ced87e1fefd90186b4ed211", func := "loop.example/g03105/laws.FnExactFlipCurve", spec := "fnExactFlipCurve", unfollowed := true, recurses := true, apart := false, narrowed := true }
def FnExactFlipCurveUptoSaid : Prop := fnExactFlipCurveUptoRow.holds Try.pinned (OpenSpec.upto fnExactFlipCurveSpec)

/-- 'laws.FnExactTriSurface', WHERE WHAT IT READS IS OF BULK AT MOST 1048576: true; the input reads as it did. -/
def fnExactTriSurfaceUptoRow : OpenClaim := { program := "ytolmicnapemljaa", sum := "6c747a6a7958eca0e177fccd1f35f7a3a1e9c8006ced87e1fefd90186b4ed211", func := "loop.example/g03105/laws.FnExactTriSurface", spec := "fnExactTriSurface", apart := false, narrowed := true }
def FnExactTriSurfaceUptoSaid : Prop := fnExactTriSurfaceUptoRow.holds Try.pinned (OpenSpec.upto fnExactTriSurfaceSpec)

/-- 'laws.FnExactCountCurves', WHERE WHAT IT READS IS OF BULK AT MOST 1048576: true; the input reads as it did. -/
def fnExactCountCurvesUptoRow : OpenClaim := { program := "ytolmicnapemljaa", sum := "6c747a6a7958eca0e177fccd1f35f7a3a1e9c8006ced87e1fefd90186b4ed211", func := "loop.example/g03105/laws.FnExactCountCurves", spec := "fnExactCountCurves", unfollowed := true, recurses := true, apart := false, narrowed := true }
def FnExactCountCurvesUptoSaid : Prop := fnExactCountCurvesUptoRow.holds Try.pinned (OpenSpec.upto fnExactCountCurvesSpec)

/-- 'laws.FnExactBestFlip', WHERE WHAT IT READS IS OF BULK AT MOST 1048576: true; the input reads as it did. -/
def fnExactBestFlipUptoRow : OpenClaim := { program := "ytolmicnapemljaa", sum := "6c747a6a7958eca0e177fccd1f35f7a3a1e9c8006ced87e1fefd90186b4ed211", func := "loop.example/g03105/laws.FnExactBestFlip", spec := "fnExactBestFlip", unfollowed := true, recurses := true, apart := false, narrowed := true }
def FnExactBestFlipUptoSaid : Prop := fnExactBestFlipUptoRow.holds Try.pinned (OpenSpec.upto fnExactBestFlipSpec)

/-- 'laws.FnExactCurveLengths', WHERE WHAT IT READS IS OF BULK AT MOST 1048576: true; the input reads as it did. -/
def fnExactCurveLengthsUptoRow : OpenClaim := { program := "ytolmicnapemljaa", sum := "6c747a6a7958eca0e177fccd1f35f7a3a1e9c8006ced87e1fefd90186b4ed211", func := "loop.example/g03105/laws.FnExactCurveLengths", spec := "fnExactCurveLengths", unfollowed := true, recurses := true, apart := false, narrowed := true }
def FnExactCurveLengthsUptoSaid : Prop := fnExactCurveLengthsUptoRow.holds Try.pinned (OpenSpec.upto fnExactCurveLengthsSpec)

/-- 'laws.FnExactPlainCurve', WHERE WHAT IT READS IS OF BULK AT MOST 1048576: true; the input reads as it did. -/
def fnExactPlainCurveUptoRow : OpenClaim := { program := "ytolmicnapemljaa", sum := "6c747a6a7958eca0e177fccd1f35f7a3a1e9c8006ced87e1fefd90186b4ed211", func := "loop.example/g03105/laws.FnExactPlainCurve", spec := "fnExactPlainCurve", unfollowed := true, recurses := true, apart := false, narrowed := true }
def FnExactPlainCurveUptoSaid : Prop := fnExactPlainCurveUptoRow.holds Try.pinned (OpenSpec.upto fnExactPlainCurveSpec)

/-- 'laws.FnExactShorten', WHERE WHAT IT READS IS OF BULK AT MOST 1048576: true; the input reads as it did. -/
def fnExactShortenUptoRow : OpenClaim := { program := "ytolmicnapemljaa", sum := "6c747a6a7958eca0e177fccd1f35f7a3a1e9c8006ced87e1fefd90186b4ed211", func := "loop.example/g03105/laws.FnExactShorten", spec := "fnExactShorten", unfollowed := true, recurses := true, apart := false, narrowed := true }
def FnExactShortenUptoSaid : Prop := fnExactShortenUptoRow.holds Try.pinned (OpenSpec.upto fnExactShortenSpec)

/-- 'laws.FnFlips', WHERE WHAT IT READS IS OF BULK AT MOST 1048576: true; the input reads as it did. -/
def fnFlipsUptoRow : OpenClaim := { program := "ytolmicnapemljaa", sum := "6c747a6a7958eca0e177fccd1f35f7a3a1e9c8006ced87e1fefd90186b4ed211", func := "loop.example/g03105/laws.FnFlips", spec := "fnFlips", unfollowed := true, recurses := true, apart := false, narrowed := true }
def FnFlipsUptoSaid : Prop := fnFlipsUptoRow.holds Try.pinned (OpenSpec.upto fnFlipsSpec)

/-- 'laws.FnCurves', WHERE WHAT IT READS IS OF BULK AT MOST 1048576: true; the input reads as it did. -/
def fnCurvesUptoRow : OpenClaim := { program := "ytolmicnapemljaa", sum := "6c747a6a7958eca0e177fccd1f35f7a3a1e9c8006ced87e1fefd90186b4ed211", func := "loop.example/g03105/laws.FnCurves", spec := "fnCurves", inPlace := ["internal/abi.NoEscape", "internal/bytealg.MakeNoZero"], unfollowed := true, recurses := true, apart := false, narrowed := true }
def FnCurvesUptoSaid : Prop := fnCurvesUptoRow.holds Try.pinned (OpenSpec.upto fnCurvesSpec)

end Rows
end Go.Proofs.Ytolmicnapemljaa

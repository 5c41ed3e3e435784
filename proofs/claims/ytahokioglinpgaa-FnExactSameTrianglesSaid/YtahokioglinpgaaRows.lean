/-
  No cell of these rows narrows 'for every input' (looked for: loops, veiled, ifaces, maps, wideKeys, modest, calm, conditions, laid).
  DERIVED. THE GIVEN ROWS OF THIS SEAT. 3 by the template 'for every input the law returns true; each argument reads behind the call as it read before'; 0 by the template 'total and deterministic' (their statements: YtahokioglinpgaaTotals.lean).
  GIVEN WITH THE SEED: the statements are not yours to turn. If you find one false, say at which input.
  Laid BY PROGRAM, IN A SANDBOX (cutbox-rows.mjs): the forced cells as the released guide's own fill.sh prints them over the translation 1f28d5c70f0e66f8… (all of the seat's roots in one cut). By AI agents, Wed Nov 11 2026. No macro, syntax, notation, axiom, sorry.
-/
import Derived.Test.YtahokioglinpgaaChecked
import GoSem.Claim
import GoSem.ClaimJoined
import GoSem.ClaimMapViews
import Derived.JoinedTies
import Derived.KernelRfl
namespace Go.Proofs.Ytahokioglinpgaa
/- THE CELL 'sum', in the pinned program and in every row, IS THE sha256 OF THE DUMP (.gsa) THAT YtahokioglinpgaaProg.lean LOADS. Nothing in Lean hashes anything: it is a label: what it is worth is what the hold of that sum in a sandbox is worth. -/
noncomputable def Try.pinned : Pinned := { name := "ytahokioglinpgaa", sum := "1f28d5c70f0e66f86ee288c8a1ce23868a9d28850c1011b7e19236bf64c1d61b", checked := Try.checked }
namespace Rows
def none {H : Type} : Left H := { results := [], args := [] }

/-- 'laws.FnExactTurnTriangles': WHATEVER THE INPUT: true; the input reads as it did. -/
def fnExactTurnTrianglesSpec : ChangeSpec := { name := "fnExactTurnTriangles", fn := fun _ => fun
  | [d] => { results := [.lit (.bool true)], args := [d] }
  | _ => none }
def fnExactTurnTrianglesRow : OpenClaim := { program := "ytahokioglinpgaa", sum := "1f28d5c70f0e66f86ee288c8a1ce23868a9d28850c1011b7e19236bf64c1d61b", func := "loop.example/g03105/laws.FnExactTurnTriangles", spec := "fnExactTurnTriangles", apart := false }
def FnExactTurnTrianglesSaid : Prop := fnExactTurnTrianglesRow.holds Try.pinned (OpenSpec.ofChange fnExactTurnTrianglesSpec)

/-- ITS FALSE NEIGHBOUR: 'it returns false'. Refute it at one input. -/
def fnExactTurnTrianglesWrong : ChangeSpec := { name := "fnExactTurnTriangles", fn := fun _ => fun
  | [d] => { results := [.lit (.bool false)], args := [d] }
  | _ => none }
def FnExactTurnTrianglesWrongFalsely : Prop := fnExactTurnTrianglesRow.holds Try.pinned (OpenSpec.ofChange fnExactTurnTrianglesWrong)

/-- 'laws.FnExactSameTriangles': WHATEVER THE INPUT: true; the input reads as it did. -/
def fnExactSameTrianglesSpec : ChangeSpec := { name := "fnExactSameTriangles", fn := fun _ => fun
  | [d1, d2] => { results := [.lit (.bool true)], args := [d1, d2] }
  | _ => none }
def fnExactSameTrianglesRow : OpenClaim := { program := "ytahokioglinpgaa", sum := "1f28d5c70f0e66f86ee288c8a1ce23868a9d28850c1011b7e19236bf64c1d61b", func := "loop.example/g03105/laws.FnExactSameTriangles", spec := "fnExactSameTriangles", apart := false }
def FnExactSameTrianglesSaid : Prop := fnExactSameTrianglesRow.holds Try.pinned (OpenSpec.ofChange fnExactSameTrianglesSpec)

/-- ITS FALSE NEIGHBOUR: 'it returns false'. Refute it at one input. -/
def fnExactSameTrianglesWrong : ChangeSpec := { name := "fnExactSameTriangles", fn := fun _ => fun
  | [d1, d2] => { results := [.lit (.bool false)], args := [d1, d2] }
  | _ => none }
def FnExactSameTrianglesWrongFalsely : Prop := fnExactSameTrianglesRow.holds Try.pinned (OpenSpec.ofChange fnExactSameTrianglesWrong)

/-- 'laws.FnExactTriText': WHATEVER THE INPUT: true; the input reads as it did. -/
def fnExactTriTextSpec : ChangeSpec := { name := "fnExactTriText", fn := fun _ => fun
  | [d] => { results := [.lit (.bool true)], args := [d] }
  | _ => none }
def fnExactTriTextRow : OpenClaim := { program := "ytahokioglinpgaa", sum := "1f28d5c70f0e66f86ee288c8a1ce23868a9d28850c1011b7e19236bf64c1d61b", func := "loop.example/g03105/laws.FnExactTriText", spec := "fnExactTriText", inPlace := ["internal/abi.NoEscape", "internal/bytealg.MakeNoZero"], apart := false }
def FnExactTriTextSaid : Prop := fnExactTriTextRow.holds Try.pinned (OpenSpec.ofChange fnExactTriTextSpec)

/-- ITS FALSE NEIGHBOUR: 'it returns false'. Refute it at one input. -/
def fnExactTriTextWrong : ChangeSpec := { name := "fnExactTriText", fn := fun _ => fun
  | [d] => { results := [.lit (.bool false)], args := [d] }
  | _ => none }
def FnExactTriTextWrongFalsely : Prop := fnExactTriTextRow.holds Try.pinned (OpenSpec.ofChange fnExactTriTextWrong)

/- THE SECOND FORM. 'bulk': how many values and letters a reading holds, each counted each time it is reached (what is shared counts as often as it is met; a slice's spare places count too). A statement '..UptoSaid' is the law's where the arguments, and the package variables that the reading takes, are together of bulk at most 1048576: NARROWER than '..Said'. Prove '..Said' where nothing that the law and all that it calls make is longer than what came in: it says more and counts as full. Else prove '..UptoSaid'. A law counts once. -/
mutual
def uptoBulk {H : Type} : DataW H → Nat
  | .lit (.string bytes) => bytes.length + 1
  | .lit _ => 1
  | .nil => 1
  | .ptr d => uptoBulk d + 1
  | .slice elems spare => uptoBulkAll elems + uptoBulkAll spare + 1
  | .agg parts => uptoBulkAll parts + 1
  | .iface _ d => uptoBulk d + 1
  | .map entries => uptoBulkEntries entries + 1
  | .held _ => 1
def uptoBulkAll {H : Type} : List (DataW H) → Nat
  | [] => 0
  | d :: r => uptoBulk d + uptoBulkAll r
def uptoBulkEntries {H : Type} : List (Lit × DataW H) → Nat
  | [] => 0
  | x :: r => uptoBulkEntry x + uptoBulkEntries r
def uptoBulkEntry {H : Type} : Lit × DataW H → Nat
  | (.string bytes, d) => bytes.length + uptoBulk d + 1
  | (_, d) => uptoBulk d + 1
 end
def uptoSmall : (H : Type) → List (DataW H) → Bool := fun _ ds => decide (uptoBulkAll ds ≤ 1048576)
def OpenSpec.upto (s : _root_.Go.ChangeSpec) : _root_.Go.OpenSpec := { _root_.Go.OpenSpec.ofChange s with cond := some uptoSmall }

/-- 'laws.FnExactTurnTriangles', WHERE WHAT IT READS IS OF BULK AT MOST 1048576: true; the input reads as it did. -/
def fnExactTurnTrianglesUptoRow : OpenClaim := { program := "ytahokioglinpgaa", sum := "1f28d5c70f0e66f86ee288c8a1ce23868a9d28850c1011b7e19236bf64c1d61b", func := "loop.example/g03105/laws.FnExactTurnTriangles", spec := "fnExactTurnTriangles", apart := false, narrowed := true }
def FnExactTurnTrianglesUptoSaid : Prop := fnExactTurnTrianglesUptoRow.holds Try.pinned (OpenSpec.upto fnExactTurnTrianglesSpec)

/-- 'laws.FnExactSameTriangles', WHERE WHAT IT READS IS OF BULK AT MOST 1048576: true; the input reads as it did. -/
def fnExactSameTrianglesUptoRow : OpenClaim := { program := "ytahokioglinpgaa", sum := "1f28d5c70f0e66f86ee288c8a1ce23868a9d28850c1011b7e19236bf64c1d61b", func := "loop.example/g03105/laws.FnExactSameTriangles", spec := "fnExactSameTriangles", apart := false, narrowed := true }
def FnExactSameTrianglesUptoSaid : Prop := fnExactSameTrianglesUptoRow.holds Try.pinned (OpenSpec.upto fnExactSameTrianglesSpec)

/-- 'laws.FnExactTriText', WHERE WHAT IT READS IS OF BULK AT MOST 1048576: true; the input reads as it did. -/
def fnExactTriTextUptoRow : OpenClaim := { program := "ytahokioglinpgaa", sum := "1f28d5c70f0e66f86ee288c8a1ce23868a9d28850c1011b7e19236bf64c1d61b", func := "loop.example/g03105/laws.FnExactTriText", spec := "fnExactTriText", inPlace := ["internal/abi.NoEscape", "internal/bytealg.MakeNoZero"], apart := false, narrowed := true }
def FnExactTriTextUptoSaid : Prop := fnExactTriTextUptoRow.holds Try.pinned (OpenSpec.upto fnExactTriTextSpec)

end Rows
end Go.Proofs.Ytahokioglinpgaa

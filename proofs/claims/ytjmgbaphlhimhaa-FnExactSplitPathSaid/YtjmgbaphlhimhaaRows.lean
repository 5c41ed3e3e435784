/-
  No cell of these rows narrows 'for every input' (looked for: loops, veiled, ifaces, maps, wideKeys, modest, calm, conditions, laid).
  DERIVED. THE GIVEN ROWS OF THIS SEAT. 5 by the template 'for every input the law returns true; each argument reads behind the call as it read before'; 0 by the template 'total and deterministic' (their statements: YtjmgbaphlhimhaaTotals.lean).
  GIVEN WITH THE SEED: the statements are not yours to turn. If you find one false, say at which input.
  Laid BY PROGRAM, IN A SANDBOX (cutbox-rows.mjs): the forced cells as the released guide's own fill.sh prints them over the translation 028151c0256bf2c0… (all of the seat's roots in one cut). By AI agents, Wed Nov 11 2026. No macro, syntax, notation, axiom, sorry.
-/
import Derived.Test.YtjmgbaphlhimhaaChecked
import GoSem.Claim
import GoSem.ClaimJoined
import GoSem.ClaimMapViews
import Derived.JoinedTies
import Derived.KernelRfl
namespace Go.Proofs.Ytjmgbaphlhimhaa
/- THE CELL 'sum', in the pinned program and in every row, IS THE sha256 OF THE DUMP (.gsa) THAT YtjmgbaphlhimhaaProg.lean LOADS. Nothing in Lean hashes anything: it is a label: what it is worth is what the hold of that sum in a sandbox is worth. -/
noncomputable def Try.pinned : Pinned := { name := "ytjmgbaphlhimhaa", sum := "028151c0256bf2c0516054174c9124deb55cff57a7efeed0c10a48133a7d6a3d", checked := Try.checked }
namespace Rows
def none {H : Type} : Left H := { results := [], args := [] }

/-- 'laws.FnExactSlopeOfCurve': WHATEVER THE INPUT: true; the input reads as it did. -/
def fnExactSlopeOfCurveSpec : ChangeSpec := { name := "fnExactSlopeOfCurve", fn := fun _ => fun
  | [d] => { results := [.lit (.bool true)], args := [d] }
  | _ => none }
def fnExactSlopeOfCurveRow : OpenClaim := { program := "ytjmgbaphlhimhaa", sum := "028151c0256bf2c0516054174c9124deb55cff57a7efeed0c10a48133a7d6a3d", func := "loop.example/g03105/laws.FnExactSlopeOfCurve", spec := "fnExactSlopeOfCurve", unfollowed := true, recurses := true, apart := false }
def FnExactSlopeOfCurveSaid : Prop := fnExactSlopeOfCurveRow.holds Try.pinned (OpenSpec.ofChange fnExactSlopeOfCurveSpec)

/-- ITS FALSE NEIGHBOUR: 'it returns false'. Refute it at one input. -/
def fnExactSlopeOfCurveWrong : ChangeSpec := { name := "fnExactSlopeOfCurve", fn := fun _ => fun
  | [d] => { results := [.lit (.bool false)], args := [d] }
  | _ => none }
def FnExactSlopeOfCurveWrongFalsely : Prop := fnExactSlopeOfCurveRow.holds Try.pinned (OpenSpec.ofChange fnExactSlopeOfCurveWrong)

/-- 'laws.FnExactSplitPath': WHATEVER THE INPUT: true; the input reads as it did. -/
def fnExactSplitPathSpec : ChangeSpec := { name := "fnExactSplitPath", fn := fun _ => fun
  | [d] => { results := [.lit (.bool true)], args := [d] }
  | _ => none }
def fnExactSplitPathRow : OpenClaim := { program := "ytjmgbaphlhimhaa", sum := "028151c0256bf2c0516054174c9124deb55cff57a7efeed0c10a48133a7d6a3d", func := "loop.example/g03105/laws.FnExactSplitPath", spec := "fnExactSplitPath", unfollowed := true, recurses := true, apart := false }
def FnExactSplitPathSaid : Prop := fnExactSplitPathRow.holds Try.pinned (OpenSpec.ofChange fnExactSplitPathSpec)

/-- ITS FALSE NEIGHBOUR: 'it returns false'. Refute it at one input. -/
def fnExactSplitPathWrong : ChangeSpec := { name := "fnExactSplitPath", fn := fun _ => fun
  | [d] => { results := [.lit (.bool false)], args := [d] }
  | _ => none }
def FnExactSplitPathWrongFalsely : Prop := fnExactSplitPathRow.holds Try.pinned (OpenSpec.ofChange fnExactSplitPathWrong)

/-- 'laws.FnExactCrossOf': WHATEVER THE INPUT: true; the input reads as it did. -/
def fnExactCrossOfSpec : ChangeSpec := { name := "fnExactCrossOf", fn := fun _ => fun
  | [d1, d2] => { results := [.lit (.bool true)], args := [d1, d2] }
  | _ => none }
def fnExactCrossOfRow : OpenClaim := { program := "ytjmgbaphlhimhaa", sum := "028151c0256bf2c0516054174c9124deb55cff57a7efeed0c10a48133a7d6a3d", func := "loop.example/g03105/laws.FnExactCrossOf", spec := "fnExactCrossOf", unfollowed := true, recurses := true, apart := false }
def FnExactCrossOfSaid : Prop := fnExactCrossOfRow.holds Try.pinned (OpenSpec.ofChange fnExactCrossOfSpec)

/-- ITS FALSE NEIGHBOUR: 'it returns false'. Refute it at one input. -/
def fnExactCrossOfWrong : ChangeSpec := { name := "fnExactCrossOf", fn := fun _ => fun
  | [d1, d2] => { results := [.lit (.bool false)], args := [d1, d2] }
  | _ => none }
def FnExactCrossOfWrongFalsely : Prop := fnExactCrossOfRow.holds Try.pinned (OpenSpec.ofChange fnExactCrossOfWrong)

/-- 'laws.FnExactTwistCurve': WHATEVER THE INPUT: true; the input reads as it did. -/
def fnExactTwistCurveSpec : ChangeSpec := { name := "fnExactTwistCurve", fn := fun _ => fun
  | [d1, d2, d3] => { results := [.lit (.bool true)], args := [d1, d2, d3] }
  | _ => none }
def fnExactTwistCurveRow : OpenClaim := { program := "ytjmgbaphlhimhaa", sum := "028151c0256bf2c0516054174c9124deb55cff57a7efeed0c10a48133a7d6a3d", func := "loop.example/g03105/laws.FnExactTwistCurve", spec := "fnExactTwistCurve", unfollowed := true, recurses := true, apart := false }
def FnExactTwistCurveSaid : Prop := fnExactTwistCurveRow.holds Try.pinned (OpenSpec.ofChange fnExactTwistCurveSpec)

/-- ITS FALSE NEIGHBOUR: 'it returns false'. Refute it at one input. -/
def fnExactTwistCurveWrong : ChangeSpec := { name := "fnExactTwistCurve", fn := fun _ => fun
  | [d1, d2, d3] => { results := [.lit (.bool false)], args := [d1, d2, d3] }
  | _ => none }
def FnExactTwistCurveWrongFalsely : Prop := fnExactTwistCurveRow.holds Try.pinned (OpenSpec.ofChange fnExactTwistCurveWrong)

/-- 'laws.FnPure': WHATEVER THE INPUT: true; the input reads as it did. -/
def fnPureSpec : ChangeSpec := { name := "fnPure", fn := fun _ => fun
  | [d] => { results := [.lit (.bool true)], args := [d] }
  | _ => none }
def fnPureRow : OpenClaim := { program := "ytjmgbaphlhimhaa", sum := "028151c0256bf2c0516054174c9124deb55cff57a7efeed0c10a48133a7d6a3d", func := "loop.example/g03105/laws.FnPure", spec := "fnPure", unfollowed := true, recurses := true, apart := false }
def FnPureSaid : Prop := fnPureRow.holds Try.pinned (OpenSpec.ofChange fnPureSpec)

/-- ITS FALSE NEIGHBOUR: 'it returns false'. Refute it at one input. -/
def fnPureWrong : ChangeSpec := { name := "fnPure", fn := fun _ => fun
  | [d] => { results := [.lit (.bool false)], args := [d] }
  | _ => none }
def FnPureWrongFalsely : Prop := fnPureRow.holds Try.pinned (OpenSpec.ofChange fnPureWrong)

/- THE SECOND FORM. 'bulk': how many values and letters a reading holds, each counted each time it is reached (what is shared counts as often as it is met; a slice's spare places count too). A statement '..UptoSaid' is the law's where the arguments, and the package variables that the reading takes, are together of bulk at most 1048576: NARROWER than '..Said'. Prove '..Said' where nothing that the law and all that it calls make is longer than what came in: it says more and counts as full. Else prove '..UptoSaid'. A law counts once. -/
mutual
def uptoBulk {H : Type} : DataW H → Nat
  | .lit (.string bytes) => bytes.length + 1
  | .lit _ => 1
  | .nil => 1
  | .ptr d => uptoBulk d + 1
  | .slice elems spare => uptoBulkAll elems + uptoBulkAll spare + 1
  | .agg parts => uptoBulkAll parts + 1
  | .iface _ d => uptoBulk d + 1
  | .map entries => uptoBulkEntries entries + 1
  | .held _ => 1
def uptoBulkAll {H : Type} : List (DataW H) → Nat
  | [] => 0
  | d :: r => uptoBulk d + uptoBulkAll r
def uptoBulkEntries {H : Type} : List (Lit × DataW H) → Nat
  | [] => 0
  | x :: r => uptoBulkEntry x + uptoBulkEntries r
def uptoBulkEntry {H : Type} : Lit × DataW H → Nat
  | (.string bytes, d) => bytes.length + uptoBulk d + 1
  | (_, d) => uptoBulk d + 1
 end
def uptoSmall : (H : Type) → List (DataW H) → Bool := fun _ ds => decide (uptoBulkAll ds ≤ 1048576)
def OpenSpec.upto (s : _root_.Go.ChangeSpec) : _root_.Go.OpenSpec := { _root_.Go.OpenSpec.ofChange s with cond := some uptoSmall }

/-- 'laws.FnExactSlopeOfCurve', WHERE WHAT IT READS IS OF BULK AT MOST 1048576: true; the input reads as it did. -/
def fnExactSlopeOfCurveUptoRow : OpenClaim := { program := "ytjmgbaphlhimhaa", sum := "028151c0256bf2c0516054174c9124deb55cff57a7efeed0c10a48133a7d6a3d", func := "loop.example/g03105/laws.FnExactSlopeOfCurve", spec := "fnExactSlopeOfCurve", unfollowed := true, recurses := true, apart := false, narrowed := true }
def FnExactSlopeOfCurveUptoSaid : Prop := fnExactSlopeOfCurveUptoRow.holds Try.pinned (OpenSpec.upto fnExactSlopeOfCurveSpec)

/-- 'laws.FnExactSplitPath', WHERE WHAT IT READS IS OF BULK AT MOST 1048576: true; the input reads as it did. -/
def fnExactSplitPathUptoRow : OpenClaim := { program := "ytjmgbaphlhimhaa", sum := "028151c0256bf2c0516054174c9124deb55cff57a7efeed0c10a48133a7d6a3d", func := "loop.example/g03105/laws.FnExactSplitPath", spec := "fnExactSplitPath", unfollowed := true, recurses := true, apart := false, narrowed := true }
def FnExactSplitPathUptoSaid : Prop := fnExactSplitPathUptoRow.holds Try.pinned (OpenSpec.upto fnExactSplitPathSpec)

/-- 'laws.FnExactCrossOf', WHERE WHAT IT READS IS OF BULK AT MOST 1048576: true; the input reads as it did. -/
def fnExactCrossOfUptoRow : OpenClaim := { program := "ytjmgbaphlhimhaa", sum := "028151c0256bf2c0516054174c9124deb55cff57a7efeed0c10a48133a7d6a3d", func := "loop.example/g03105/laws.FnExactCrossOf", spec := "fnExactCrossOf", unfollowed := true, recurses := true, apart := false, narrowed := true }
def FnExactCrossOfUptoSaid : Prop := fnExactCrossOfUptoRow.holds Try.pinned (OpenSpec.upto fnExactCrossOfSpec)

/-- 'laws.FnExactTwistCurve', WHERE WHAT IT READS IS OF BULK AT MOST 1048576: true; the input reads as it did. -/
def fnExactTwistCurveUptoRow : OpenClaim := { program := "ytjmgbaphlhimhaa", sum := "028151c0256bf2c0516054174c9124deb55cff57a7efeed0c10a48133a7d6a3d", func := "loop.example/g03105/laws.FnExactTwistCurve", spec := "fnExactTwistCurve", unfollowed := true, recurses := true, apart := false, narrowed := true }
def FnExactTwistCurveUptoSaid : Prop := fnExactTwistCurveUptoRow.holds Try.pinned (OpenSpec.upto fnExactTwistCurveSpec)

/-- 'laws.FnPure', WHERE WHAT IT READS IS OF BULK AT MOST 1048576: true; the input reads as it did. -/
def fnPureUptoRow : OpenClaim := { program := "ytjmgbaphlhimhaa", sum := "028151c0256bf2c0516054174c9124deb55cff57a7efeed0c10a48133a7d6a3d", func := "loop.example/g03105/laws.FnPure", spec := "fnPure", unfollowed := true, recurses := true, apart := false, narrowed := true }
def FnPureUptoSaid : Prop := fnPureUptoRow.holds Try.pinned (OpenSpec.upto fnPureSpec)

end Rows
end Go.Proofs.Ytjmgbaphlhimhaa

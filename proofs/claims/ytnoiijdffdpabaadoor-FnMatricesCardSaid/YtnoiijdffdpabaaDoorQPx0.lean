-- By this session's driver (wip/tools/mk.py) of the kit's print program, over several statements at once. Not trusted: Lean checks it.
import Derived.Test.YtnoiijdffdpabaaDoorQWZip
import Derived.Test.YtnoiijdffdpabaaDoorProg
import Derived.Below
import Derived.Deep.Draws
import Derived.Deep.AppendLies
import Derived.Maps.AppendAt
import Derived.OwnWalk
import Derived.Laws.BytesArg
import Derived.Laws.MakeOwn
import Derived.Laws.OwnMore
import Derived.Deep.OwnRows
import Derived.Tactics
import Derived.Lib.ConvBytes
import Derived.Laws.Slices
import Derived.WalkKit
import Derived.KernelRfl
import Derived.RowKit3
import Derived.Deep.LoopGhost
import Derived.Deep.QuietTactic
import Derived.BigQuiet
import Derived.WideLaws
import Derived.Deep.DeepCutAuto
import Derived.Deep.CutBlock
import Derived.Deep.RegionHeld3
import Derived.Laws.Rows
import Derived.Lib.AppendStr
import Derived.ArgAppend
import Derived.Laws.IdiomCopy
import Derived.OrdersHeld
import Derived.Laws.BitsLemmas
import Derived.RowKit
import Derived.Maps.OwnOps
import Derived.Maps.Views
import Derived.Shelf.Strings.OnBuilder
import Derived.Shelf.Strconv.Itoa4
import Derived.Lib.AppendIntMem
import Derived.Lib.ItoaLen
import Derived.Laws.CopyOwn
import Derived.Maps.OwnSet
import Derived.DeepKeys4
import Derived.MapViews
import Derived.Test.YtnoiijdffdpabaaDoorQWWords
import Derived.Test.YtnoiijdffdpabaaDoorQWLast
import Derived.Test.YtnoiijdffdpabaaDoorQWTab
import Derived.Test.YtnoiijdffdpabaaDoorQWFour
import Derived.Test.YtnoiijdffdpabaaDoorQWQPut
import Derived.Test.YtnoiijdffdpabaaDoorQWApart
import Derived.Test.YtnoiijdffdpabaaDoorQWArr
import Derived.Test.YtnoiijdffdpabaaDoorQWZeros
import Derived.Test.YtnoiijdffdpabaaDoorQWFoot
import Derived.Test.YtnoiijdffdpabaaDoorQWKept
import Derived.Test.YtnoiijdffdpabaaDoorQWShare
import Derived.Test.YtnoiijdffdpabaaDoorQWN
import Derived.Test.YtnoiijdffdpabaaDoorQWFootNe
import Derived.Test.YtnoiijdffdpabaaDoorQWAt
import Derived.Test.YtnoiijdffdpabaaDoorQWEqStruct
import Derived.Test.YtnoiijdffdpabaaDoorQWRepsOne
import Derived.Test.YtnoiijdffdpabaaDoorQWInv
import Derived.Test.YtnoiijdffdpabaaDoorQWInvWords
import Derived.Test.YtnoiijdffdpabaaDoorQWGuard
import Derived.Test.YtnoiijdffdpabaaDoorQWNEv
import Derived.Test.YtnoiijdffdpabaaDoorQWMore
namespace Go.Proofs.YtnoiijdffdpabaaDoor.P
open Go.RowKit Go.Proofs.YtnoiijdffdpabaaDoorW.PrintWords Go.Proofs.YtnoiijdffdpabaaDoorW.PrintLast Go.Proofs.YtnoiijdffdpabaaDoorW.PrintMore
attribute [local go_sem] max2_int min2_int max_two min_two max_three min_three max_four min_four   -- for this text's walks alone
set_option linter.unusedVariables false
set_option linter.unusedSimpArgs false



def errW : Option Int → Value
 | none => .nilIface
 | some c => .iface 0 (.int .i64 c)
theorem eWn : errW none = .nilIface := rfl
theorem eWs (c : Int) : errW (some c) = .iface 0 (.int .i64 c) := rfl

theorem info35 : (Tryd.prog.info? 35).map (fun i => (i.zero, i.size, i.bytes)) = some (some (.agg #[(.int .i64 0), (.int .i64 0)]), 2, 16) := by kernel_rfl
-- the values' own types
/-! #### struct type 35 -/
structure S35 where
 f0 : Int
 f1 : Int
def z35 : S35 := ⟨(0 : Int), (0 : Int)⟩
def k35 : Kd S35 := Kd.iso (Kd.pair (Kd.int .i64) (Kd.int .i64)) (fun x : S35 => (x.f0, x.f1))
theorem k35_open {w : World} {x : S35} {cs : List Value} (h : k35.K w x cs) : cs = [.int .i64 x.f0, .int .i64 x.f1] := by
 obtain ⟨_, _, rfl, rfl, rfl⟩ := h
 exact rfl
theorem k35_mkM (w : World) (base : Nat) (ok : Nat → Prop) (x : S35)  : k35.M w base ok x [.int .i64 x.f0, .int .i64 x.f1] := ⟨[.int .i64 x.f0], [.int .i64 x.f1], rfl, rfl, rfl⟩
def rd_T35 (xs : List S35) (i : Int) : S35 := xs.getD i.toNat z35
theorem at_T35 {w : World} {A : Option Addr} {n : Nat} {xs : List S35} (h : Kd.C k35 w A n xs) (i : Int) (h0 : 0 ≤ i) (h1 : i < n) : ∃ ad , A = some ad ∧ w.cell? (ad.add (i.toNat * 2)) = some (.int .i64 (rd_T35 xs i).f0) ∧ w.cell? ⟨(ad.add (i.toNat * 2)).block, (ad.add (i.toNat * 2)).off + 1, none⟩ = some (.int .i64 (rd_T35 xs i).f1) := by
 obtain ⟨ad, c, e, _, hK, hc0⟩ := Kd.C_get h z35 i h0 h1
 have hc : ∀ j u, c[j]? = some u → w.cell? (ad.add (i.toNat * 2 + j)) = some u := hc0
 obtain rfl := k35_open hK
 exact ⟨ad, e, hc 0 _ rfl, by rw [← add_field _ _ 1 (by omega)]; exact hc 1 _ rfl⟩

end Go.Proofs.YtnoiijdffdpabaaDoor.P
namespace Go.Proofs.YtnoiijdffdpabaaDoor.P
open Go.RowKit Go.Proofs.YtnoiijdffdpabaaDoorW.PrintWords Go.Proofs.YtnoiijdffdpabaaDoorW.PrintLast Go.Proofs.YtnoiijdffdpabaaDoorW.PrintMore
attribute [local go_sem] max2_int min2_int max_two min_two max_three min_three max_four min_four   -- for this text's walks alone
set_option linter.unusedVariables false
set_option linter.unusedSimpArgs false

theorem eqA25 (d : Nat) (w : World) (x0 y0 : Int) (x1 y1 : Int) (x2 y2 : Int) (x3 y3 : Int) :
  (Op.equalIn (d + 2) 25 (.agg #[.int .i64 x0, .int .i64 x1, .int .i64 x2, .int .i64 x3]) (.agg #[.int .i64 y0, .int .i64 y1, .int .i64 y2, .int .i64 y3])).run Tryd.prog w = .ok (x0 == y0 && (x1 == y1 && (x2 == y2 && (x3 == y3)))) w := by
 refine eqA_of Tryd.underlying25 (by kernel_rfl) ?_
 refine eqf_cons (by rfl) (by go_simp; rfl) (by go_simp; rfl) (by go_simp) ?_
 refine eqf_cons (by rfl) (by go_simp; rfl) (by go_simp; rfl) (by go_simp) ?_
 refine eqf_cons (by rfl) (by go_simp; rfl) (by go_simp; rfl) (by go_simp) ?_
 exact eqf_last (by rfl) (by go_simp; rfl) (by go_simp; rfl) (by go_simp)
end Go.Proofs.YtnoiijdffdpabaaDoor.P

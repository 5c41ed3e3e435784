-- By this session's driver (wip/tools/mk.py) of the kit's print program, over several statements at once. Not trusted: Lean checks it.
import Derived.Test.YtnoiijdffdpabaaDoorQWZip
import Derived.Test.YtnoiijdffdpabaaDoorQPx0
import Derived.Test.YtnoiijdffdpabaaDoorQPx2
import Derived.Test.YtnoiijdffdpabaaDoorQPx5
import Derived.Test.YtnoiijdffdpabaaDoorQPx6
import Derived.Test.YtnoiijdffdpabaaDoorQPx9
import Derived.Test.YtnoiijdffdpabaaDoorQPx10
import Derived.Test.YtnoiijdffdpabaaDoorQPx11
import Derived.Test.YtnoiijdffdpabaaDoorQPx12
import Derived.Test.YtnoiijdffdpabaaDoorQPx14
import Derived.Test.YtnoiijdffdpabaaDoorQPx15
import Derived.Test.YtnoiijdffdpabaaDoorQPx16
import Derived.Test.YtnoiijdffdpabaaDoorQPx17
import Derived.Test.YtnoiijdffdpabaaDoorQPx18
import Derived.Test.YtnoiijdffdpabaaDoorQPx19
import Derived.Test.YtnoiijdffdpabaaDoorQPx20
import Derived.Test.YtnoiijdffdpabaaDoorQPx21
import Derived.Test.YtnoiijdffdpabaaDoorQPx22
import Derived.Test.YtnoiijdffdpabaaDoorQPx23
import Derived.Test.YtnoiijdffdpabaaDoorQPx24
import Derived.Test.YtnoiijdffdpabaaDoorQPx25
import Derived.Test.YtnoiijdffdpabaaDoorQPx29
namespace Go.Proofs.YtnoiijdffdpabaaDoor.P
open Go.RowKit Go.Proofs.YtnoiijdffdpabaaDoorW.PrintWords Go.Proofs.YtnoiijdffdpabaaDoorW.PrintLast Go.Proofs.YtnoiijdffdpabaaDoorW.PrintMore
attribute [local go_sem] max2_int min2_int max_two min_two max_three min_three max_four min_four   -- for this text's walks alone
set_option linter.unusedVariables false
set_option linter.unusedSimpArgs false
theorem bw_30 {n : Nat} {v v' : World} (h : Below n v v' := by repeat (first | (with_reducible first | exact HB.out | apply bwA | apply pbN | apply bwD | refine bwS ?_ GE509.out | refine bwS ?_ GE510.out | refine bwS ?_ GE516.out | refine bwS ?_ GE522.out | refine bwS ?_ GE529.out | refine bwS ?_ GE530.out | refine bwS ?_ GE534.out | refine bwS ?_ GE538.out | refine bwS ?_ GE545.out | refine bwS ?_ GE551.out | refine bwS ?_ GE554.out | refine bwS ?_ GE585.out | refine bwS ?_ GE589.out | refine bwS ?_ GE593.out) | exact HB.out)) : Below n v v' := h
theorem ln_30 {P : Prop} (h : P := by (try simp only [List.map_toArray, List.map_cons, List.map_nil]); first | done | rfl | (simp only [List.length_drop, List.length_take]; rfl)) : P := h
theorem z30_5 {p : Prop} (h : p := by (with_reducible repeat (first | apply Kd.R_alloc | apply Kd.R_drewN | apply Kd.R_drew)); exact (Kd.R_mono (Kd.R_far (p := ⟨gb589, 1, none⟩) (Kd.R_far (p := ⟨gb589, 0, none⟩) (Kd.R_mono HO578.out (fun k_ hk => (⟨hk, hk.2⟩ : _ ∧ k_ ≠ gb589))) (fun _ hk => hk.2) (.int .i64 t586)) (fun _ hk => hk.2) (.int .i64 t587)) (fun _ h_ => h_.1))) : p := h
theorem z30_4 {p : Prop} (h : p := by (with_reducible repeat (first | apply Kd.R_alloc | apply Kd.R_drewN | apply Kd.R_drew)); exact (Kd.R_mono (Kd.R_far (p := ⟨gb589, 1, none⟩) (Kd.R_far (p := ⟨gb589, 0, none⟩) (Kd.R_mono HO575.out (fun k_ hk => (⟨hk, hk.2⟩ : _ ∧ k_ ≠ gb589))) (fun _ hk => hk.2) (.int .i64 t586)) (fun _ hk => hk.2) (.int .i64 t587)) (fun _ h_ => h_.1))) : p := h
theorem z30_3 {p : Prop} (h : p := by (with_reducible repeat (first | apply Kd.R_alloc | apply Kd.R_drewN | apply Kd.R_drew)); exact (Kd.R_mono (Kd.R_far (p := ⟨gb585, 1, none⟩) (Kd.R_far (p := ⟨gb585, 0, none⟩) (Kd.R_mono HO578.out (fun k_ hk => (⟨hk, hk.2⟩ : _ ∧ k_ ≠ gb585))) (fun _ hk => hk.2) (.int .i64 t582)) (fun _ hk => hk.2) (.int .i64 t583)) (fun _ h_ => h_.1))) : p := h
theorem z30_2 {p : Prop} (h : p := by (with_reducible repeat (first | apply Kd.R_alloc | apply Kd.R_drewN | apply Kd.R_drew)); exact (Kd.R_mono (Kd.R_far (p := ⟨gb585, 1, none⟩) (Kd.R_far (p := ⟨gb585, 0, none⟩) (Kd.R_mono HO575.out (fun k_ hk => (⟨hk, hk.2⟩ : _ ∧ k_ ≠ gb585))) (fun _ hk => hk.2) (.int .i64 t582)) (fun _ hk => hk.2) (.int .i64 t583)) (fun _ h_ => h_.1))) : p := h
theorem z30_1 {p : Prop} (h : p := by (with_reducible repeat (first | apply Kd.R_alloc | apply Kd.R_drewN | apply Kd.R_drew)); exact HO578.out) : p := h
theorem z30_0 {p : Prop} (h : p := by (with_reducible repeat (first | apply Kd.R_alloc | apply Kd.R_drewN | apply Kd.R_drew)); exact HO575.out) : p := h

attribute [local go_sem high] eqA25 eqA35
set_option maxHeartbeats 8000000 in
set_option maxRecDepth 100000 in
theorem laws_FnMatrices.p16 (k : Nat) (A0 : Option Addr) (c0 : Nat) (l0 : List Int) (r : Bool) (w : World) (HT : Az (Tabs w)) (t501 t502 t503 t504 t505 t506 t507 t508 t511 t512 t513 t514 : Int) (t515 : Bool) (t517 t518 t519 t520 : Int) (t521 : Bool) (t523 t524 t525 t526 t527 t528 t531 t532 : Int) (t533 : Bool) (t535 t536 : Int) (t537 : Bool) (t539 : ByteArray) (t540 t541 t542 t543 : Int) (t544 : Bool) (t546 t547 t548 t549 : Int) (t550 : Bool) (t552 t553 : Int) (t555 t556 : ByteArray) (t557 t558 : Bool) (t559 t560 t561 t562 t563 t564 t565 t566 t567 t568 : Int) (t569 t570 : ByteArray) (t571 t572 : Int) (t573 t576 : List S35) (t580 t581 : ByteArray) (HC45 : Az ((if t515 = true then Option.bind (impl_MoveSlope.f k t505 t506 t507 t508 t527 t528) fun (bt582 : Int × Int × Bool) => Option.bind (impl_MoveSlope.f k t501 t502 t503 t504 (Prod.fst bt582) (Prod.fst (Prod.snd bt582))) fun (bt586 : Int × Int × Bool) => Option.bind (impl_MoveSlope.f k t511 t512 t513 t514 t527 t528) fun (bt590 : Int × Int × Bool) => if Prod.snd (Prod.snd bt582) = true then if Prod.snd (Prod.snd bt586) = true then if Prod.snd (Prod.snd bt590) = true then if (!Prod.fst bt586 == Prod.fst bt590 || !Prod.fst (Prod.snd bt586) == Prod.fst (Prod.snd bt590)) = true then none else laws_FnMatrices.j0 k t533 t555 t501 t502 t503 t504 t523 t524 t525 t526 t527 t528 t531 t532 t552 t553 else laws_FnMatrices.j0 k t533 t555 t501 t502 t503 t504 t523 t524 t525 t526 t527 t528 t531 t532 t552 t553 else laws_FnMatrices.j0 k t533 t555 t501 t502 t503 t504 t523 t524 t525 t526 t527 t528 t531 t532 t552 t553 else laws_FnMatrices.j0 k t533 t555 t501 t502 t503 t504 t523 t524 t525 t526 t527 t528 t531 t532 t552 t553 else laws_FnMatrices.j0 k t533 t555 t501 t502 t503 t504 t523 t524 t525 t526 t527 t528 t531 t532 t552 t553) = some r)) (gb509 : Nat) (GE509 : Az (w.heap.size ≤ gb509)) (gb510 : Nat) (GE510 : Az (w.heap.size ≤ gb510)) (NB509_510 : Az (gb509 ≠ gb510)) (NB510_509 : Az (gb510 ≠ gb509)) (gb516 : Nat) (GE516 : Az (w.heap.size ≤ gb516)) (NB509_516 : Az (gb509 ≠ gb516)) (NB516_509 : Az (gb516 ≠ gb509)) (NB510_516 : Az (gb510 ≠ gb516)) (NB516_510 : Az (gb516 ≠ gb510)) (gb522 : Nat) (GE522 : Az (w.heap.size ≤ gb522)) (NB509_522 : Az (gb509 ≠ gb522)) (NB522_509 : Az (gb522 ≠ gb509)) (NB510_522 : Az (gb510 ≠ gb522)) (NB522_510 : Az (gb522 ≠ gb510)) (NB516_522 : Az (gb516 ≠ gb522)) (NB522_516 : Az (gb522 ≠ gb516)) (gb529 : Nat) (GE529 : Az (w.heap.size ≤ gb529)) (NB509_529 : Az (gb509 ≠ gb529)) (NB529_509 : Az (gb529 ≠ gb509)) (NB510_529 : Az (gb510 ≠ gb529)) (NB529_510 : Az (gb529 ≠ gb510)) (NB516_529 : Az (gb516 ≠ gb529)) (NB529_516 : Az (gb529 ≠ gb516)) (gb530 : Nat) (GE530 : Az (w.heap.size ≤ gb530)) (NB509_530 : Az (gb509 ≠ gb530)) (NB530_509 : Az (gb530 ≠ gb509)) (NB510_530 : Az (gb510 ≠ gb530)) (NB530_510 : Az (gb530 ≠ gb510)) (NB516_530 : Az (gb516 ≠ gb530)) (NB530_516 : Az (gb530 ≠ gb516)) (NB522_530 : Az (gb522 ≠ gb530)) (NB530_522 : Az (gb530 ≠ gb522)) (NB529_530 : Az (gb529 ≠ gb530)) (NB530_529 : Az (gb530 ≠ gb529)) (gb534 : Nat) (GE534 : Az (w.heap.size ≤ gb534)) (NB509_534 : Az (gb509 ≠ gb534)) (NB534_509 : Az (gb534 ≠ gb509)) (NB510_534 : Az (gb510 ≠ gb534)) (NB534_510 : Az (gb534 ≠ gb510)) (NB516_534 : Az (gb516 ≠ gb534)) (NB534_516 : Az (gb534 ≠ gb516)) (NB530_534 : Az (gb530 ≠ gb534)) (NB534_530 : Az (gb534 ≠ gb530)) (gb538 : Nat) (GE538 : Az (w.heap.size ≤ gb538)) (NB509_538 : Az (gb509 ≠ gb538)) (NB538_509 : Az (gb538 ≠ gb509)) (NB510_538 : Az (gb510 ≠ gb538)) (NB538_510 : Az (gb538 ≠ gb510)) (NB516_538 : Az (gb516 ≠ gb538)) (NB538_516 : Az (gb538 ≠ gb516)) (NB530_538 : Az (gb530 ≠ gb538)) (NB538_530 : Az (gb538 ≠ gb530)) (gb545 : Nat) (GE545 : Az (w.heap.size ≤ gb545)) (NB509_545 : Az (gb509 ≠ gb545)) (NB545_509 : Az (gb545 ≠ gb509)) (NB510_545 : Az (gb510 ≠ gb545)) (NB545_510 : Az (gb545 ≠ gb510)) (NB516_545 : Az (gb516 ≠ gb545)) (NB545_516 : Az (gb545 ≠ gb516)) (NB530_545 : Az (gb530 ≠ gb545)) (NB545_530 : Az (gb545 ≠ gb530)) (gb551 : Nat) (GE551 : Az (w.heap.size ≤ gb551)) (NB509_551 : Az (gb509 ≠ gb551)) (NB551_509 : Az (gb551 ≠ gb509)) (NB510_551 : Az (gb510 ≠ gb551)) (NB551_510 : Az (gb551 ≠ gb510)) (NB516_551 : Az (gb516 ≠ gb551)) (NB551_516 : Az (gb551 ≠ gb516)) (NB530_551 : Az (gb530 ≠ gb551)) (NB551_530 : Az (gb551 ≠ gb530)) (gb554 : Nat) (GE554 : Az (w.heap.size ≤ gb554)) (NB509_554 : Az (gb509 ≠ gb554)) (NB554_509 : Az (gb554 ≠ gb509)) (NB510_554 : Az (gb510 ≠ gb554)) (NB554_510 : Az (gb554 ≠ gb510)) (NB516_554 : Az (gb516 ≠ gb554)) (NB554_516 : Az (gb554 ≠ gb516)) (NB522_554 : Az (gb522 ≠ gb554)) (NB554_522 : Az (gb554 ≠ gb522)) (NB529_554 : Az (gb529 ≠ gb554)) (NB554_529 : Az (gb554 ≠ gb529)) (NB530_554 : Az (gb530 ≠ gb554)) (NB554_530 : Az (gb554 ≠ gb530)) (NB534_554 : Az (gb534 ≠ gb554)) (NB554_534 : Az (gb554 ≠ gb534)) (NB538_554 : Az (gb538 ≠ gb554)) (NB554_538 : Az (gb554 ≠ gb538)) (NB545_554 : Az (gb545 ≠ gb554)) (NB554_545 : Az (gb554 ≠ gb545)) (NB551_554 : Az (gb551 ≠ gb554)) (NB554_551 : Az (gb554 ≠ gb551)) (Ao152 : Option Addr) (co152 : Nat) (Ao153 : Option Addr) (co153 : Nat) (w155 : World) (HO575 : Az (Kd.R k35 35 w155 (w.heap.size) (fun (k : Nat) => ((((True ∧ k ≠ gb530) ∧ k ≠ gb534) ∧ k ≠ gb538) ∧ k ≠ gb554) ∧ some k ≠ Value.ownBlock (Value.slice Ao153 (List.length t576) co153)) (Value.slice Ao152 (List.length t573) co152) t573)) (HO578 : Az (Kd.R k35 35 w155 (w.heap.size) (fun (k : Nat) => ((((True ∧ some k ≠ Value.ownBlock (Value.slice Ao152 (List.length t573) co152)) ∧ k ≠ gb530) ∧ k ≠ gb534) ∧ k ≠ gb538) ∧ k ≠ gb554) (Value.slice Ao153 (List.length t576) co153) t576)) (BK509 : Az ((World.heap w155)[gb509]? = some (Obj.cells #[Value.int IntKind.i64 t501, Value.int IntKind.i64 t502, Value.int IntKind.i64 t503, Value.int IntKind.i64 t504] 25))) (BK510 : Az ((World.heap w155)[gb510]? = some (Obj.cells #[Value.int IntKind.i64 t505, Value.int IntKind.i64 t506, Value.int IntKind.i64 t507, Value.int IntKind.i64 t508] 25))) (BK516 : Az ((World.heap w155)[gb516]? = some (Obj.cells #[Value.int IntKind.i64 t511, Value.int IntKind.i64 t512, Value.int IntKind.i64 t513, Value.int IntKind.i64 t514] 25))) (BK522 : Az ((World.heap w155)[gb522]? = some (Obj.cells #[Value.int IntKind.i64 t517, Value.int IntKind.i64 t518, Value.int IntKind.i64 t519, Value.int IntKind.i64 t520] 25))) (BK529 : Az ((World.heap w155)[gb529]? = some (Obj.cells #[Value.int IntKind.i64 t523, Value.int IntKind.i64 t524, Value.int IntKind.i64 t525, Value.int IntKind.i64 t526] 25))) (BK530 : Az ((World.heap w155)[gb530]? = some (Obj.cells #[Value.int IntKind.i64 t527, Value.int IntKind.i64 t528] 35))) (BK534 : Az ((World.heap w155)[gb534]? = some (Obj.cells #[Value.int IntKind.i64 t531, Value.int IntKind.i64 t532] 35))) (BK538 : Az ((World.heap w155)[gb538]? = some (Obj.cells #[Value.int IntKind.i64 t535, Value.int IntKind.i64 t536] 35))) (BK545 : Az ((World.heap w155)[gb545]? = some (Obj.cells #[Value.int IntKind.i64 t540, Value.int IntKind.i64 t541, Value.int IntKind.i64 t542, Value.int IntKind.i64 t543] 25))) (BK551 : Az ((World.heap w155)[gb551]? = some (Obj.cells #[Value.int IntKind.i64 t546, Value.int IntKind.i64 t547, Value.int IntKind.i64 t548, Value.int IntKind.i64 t549] 25))) (BK554 : Az ((World.heap w155)[gb554]? = some (Obj.cells #[Value.int IntKind.i64 t552, Value.int IntKind.i64 t553] 35))) (HB : Az (Below (w.heap.size) w w155)) :
  Code.wp Tryd.prog (tailOf (Tryd.f4.body.getD .skip) 14) (bodyPost Tryd.prog Tryd.f4 (fun e w' => e = .returned (.bool r) ∧ Below w.heap.size w w')) ⟨#[Value.slice A0 (List.length l0) c0, undef, Value.bool false, Value.pointer (some ⟨gb509, 0, none⟩), Value.pointer (some ⟨gb510, 0, none⟩), Value.pointer (some ⟨gb516, 0, none⟩), Value.bool t515, Value.pointer (some ⟨gb522, 0, none⟩), Value.bool t521, Value.pointer (some ⟨gb529, 0, none⟩), Value.pointer (some ⟨gb530, 0, none⟩), Value.pointer (some ⟨gb534, 0, none⟩), Value.bool t533, Value.pointer (some ⟨gb538, 0, none⟩), Value.bool t537, Value.string t539, Value.pointer (some ⟨gb545, 0, none⟩), Value.bool t544, Value.pointer (some ⟨gb551, 0, none⟩), Value.bool t550, Value.pointer (some ⟨gb554, 0, none⟩), Value.string t555, undef, undef, undef, undef, undef, undef, undef, undef, undef, undef, undef, undef, undef, undef, undef, undef, undef, undef, Value.slice A0 (List.length l0) c0, Value.bool false, Value.tuple #[Value.agg #[Value.int IntKind.i64 t501, Value.int IntKind.i64 t502, Value.int IntKind.i64 t503, Value.int IntKind.i64 t504], Value.agg #[Value.int IntKind.i64 t505, Value.int IntKind.i64 t506, Value.int IntKind.i64 t507, Value.int IntKind.i64 t508]], Value.slice A0 (List.length l0) c0, Value.tuple #[Value.agg #[Value.int IntKind.i64 t501, Value.int IntKind.i64 t502, Value.int IntKind.i64 t503, Value.int IntKind.i64 t504], Value.agg #[Value.int IntKind.i64 t505, Value.int IntKind.i64 t506, Value.int IntKind.i64 t507, Value.int IntKind.i64 t508]], Value.agg #[Value.int IntKind.i64 t501, Value.int IntKind.i64 t502, Value.int IntKind.i64 t503, Value.int IntKind.i64 t504], Value.agg #[Value.int IntKind.i64 t505, Value.int IntKind.i64 t506, Value.int IntKind.i64 t507, Value.int IntKind.i64 t508], Value.tuple #[Value.agg #[Value.int IntKind.i64 t511, Value.int IntKind.i64 t512, Value.int IntKind.i64 t513, Value.int IntKind.i64 t514], Value.bool t515], Value.agg #[Value.int IntKind.i64 t501, Value.int IntKind.i64 t502, Value.int IntKind.i64 t503, Value.int IntKind.i64 t504], Value.agg #[Value.int IntKind.i64 t505, Value.int IntKind.i64 t506, Value.int IntKind.i64 t507, Value.int IntKind.i64 t508], Value.tuple #[Value.agg #[Value.int IntKind.i64 t511, Value.int IntKind.i64 t512, Value.int IntKind.i64 t513, Value.int IntKind.i64 t514], Value.bool t515], Value.agg #[Value.int IntKind.i64 t511, Value.int IntKind.i64 t512, Value.int IntKind.i64 t513, Value.int IntKind.i64 t514], Value.bool t515, Value.tuple #[Value.agg #[Value.int IntKind.i64 t517, Value.int IntKind.i64 t518, Value.int IntKind.i64 t519, Value.int IntKind.i64 t520], Value.bool t521], Value.agg #[Value.int IntKind.i64 t501, Value.int IntKind.i64 t502, Value.int IntKind.i64 t503, Value.int IntKind.i64 t504], Value.agg #[Value.int IntKind.i64 t505, Value.int IntKind.i64 t506, Value.int IntKind.i64 t507, Value.int IntKind.i64 t508], Value.tuple #[Value.agg #[Value.int IntKind.i64 t517, Value.int IntKind.i64 t518, Value.int IntKind.i64 t519, Value.int IntKind.i64 t520], Value.bool t521], Value.agg #[Value.int IntKind.i64 t517, Value.int IntKind.i64 t518, Value.int IntKind.i64 t519, Value.int IntKind.i64 t520], Value.bool t521, Value.tuple #[Value.agg #[Value.int IntKind.i64 t523, Value.int IntKind.i64 t524, Value.int IntKind.i64 t525, Value.int IntKind.i64 t526], Value.agg #[Value.int IntKind.i64 t527, Value.int IntKind.i64 t528]], Value.slice A0 (List.length l0) c0, Value.tuple #[Value.agg #[Value.int IntKind.i64 t523, Value.int IntKind.i64 t524, Value.int IntKind.i64 t525, Value.int IntKind.i64 t526], Value.agg #[Value.int IntKind.i64 t527, Value.int IntKind.i64 t528]], Value.agg #[Value.int IntKind.i64 t523, Value.int IntKind.i64 t524, Value.int IntKind.i64 t525, Value.int IntKind.i64 t526], Value.agg #[Value.int IntKind.i64 t527, Value.int IntKind.i64 t528], Value.tuple #[Value.agg #[Value.int IntKind.i64 t531, Value.int IntKind.i64 t532], Value.bool t533], Value.agg #[Value.int IntKind.i64 t523, Value.int IntKind.i64 t524, Value.int IntKind.i64 t525, Value.int IntKind.i64 t526], Value.agg #[Value.int IntKind.i64 t527, Value.int IntKind.i64 t528], Value.tuple #[Value.agg #[Value.int IntKind.i64 t531, Value.int IntKind.i64 t532], Value.bool t533], Value.agg #[Value.int IntKind.i64 t531, Value.int IntKind.i64 t532], Value.bool t533, Value.tuple #[Value.agg #[Value.int IntKind.i64 t535, Value.int IntKind.i64 t536], Value.bool t537], Value.agg #[Value.int IntKind.i64 t523, Value.int IntKind.i64 t524, Value.int IntKind.i64 t525, Value.int IntKind.i64 t526], Value.agg #[Value.int IntKind.i64 t527, Value.int IntKind.i64 t528], Value.tuple #[Value.agg #[Value.int IntKind.i64 t535, Value.int IntKind.i64 t536], Value.bool t537], Value.agg #[Value.int IntKind.i64 t535, Value.int IntKind.i64 t536], Value.bool t537, Value.slice A0 (List.length l0) c0, Value.string t539, Value.tuple #[Value.agg #[Value.int IntKind.i64 t540, Value.int IntKind.i64 t541, Value.int IntKind.i64 t542, Value.int IntKind.i64 t543], Value.bool t544], Value.string t539, Value.tuple #[Value.agg #[Value.int IntKind.i64 t540, Value.int IntKind.i64 t541, Value.int IntKind.i64 t542, Value.int IntKind.i64 t543], Value.bool t544], Value.agg #[Value.int IntKind.i64 t540, Value.int IntKind.i64 t541, Value.int IntKind.i64 t542, Value.int IntKind.i64 t543], Value.bool t544, Value.tuple #[Value.agg #[Value.int IntKind.i64 t546, Value.int IntKind.i64 t547, Value.int IntKind.i64 t548, Value.int IntKind.i64 t549], Value.bool t550], Value.string t539, Value.tuple #[Value.agg #[Value.int IntKind.i64 t546, Value.int IntKind.i64 t547, Value.int IntKind.i64 t548, Value.int IntKind.i64 t549], Value.bool t550], Value.agg #[Value.int IntKind.i64 t546, Value.int IntKind.i64 t547, Value.int IntKind.i64 t548, Value.int IntKind.i64 t549], Value.bool t550, Value.slice A0 (List.length l0) c0, Value.agg #[Value.int IntKind.i64 t552, Value.int IntKind.i64 t553], Value.agg #[Value.int IntKind.i64 t552, Value.int IntKind.i64 t553], Value.string t555, Value.bool t515, Value.bool t521, Value.bool false, Value.bool false, Value.agg #[Value.int IntKind.i64 t511, Value.int IntKind.i64 t512, Value.int IntKind.i64 t513, Value.int IntKind.i64 t514], Value.agg #[Value.int IntKind.i64 t517, Value.int IntKind.i64 t518, Value.int IntKind.i64 t519, Value.int IntKind.i64 t520], Value.bool false, Value.bool false, Value.bool false, Value.bool t533, Value.bool t537, Value.bool false, Value.bool false, Value.bool false, Value.agg #[Value.int IntKind.i64 t531, Value.int IntKind.i64 t532], Value.agg #[Value.int IntKind.i64 t535, Value.int IntKind.i64 t536], Value.bool false, Value.bool false, Value.bool false, Value.bool t544, Value.bool t550, Value.bool false, Value.bool false, Value.bool false, Value.agg #[Value.int IntKind.i64 t540, Value.int IntKind.i64 t541, Value.int IntKind.i64 t542, Value.int IntKind.i64 t543], Value.agg #[Value.int IntKind.i64 t546, Value.int IntKind.i64 t547, Value.int IntKind.i64 t548, Value.int IntKind.i64 t549], Value.bool false, Value.bool false, Value.bool false, Value.string t555, Value.agg #[Value.int IntKind.i64 t552, Value.int IntKind.i64 t553], Value.string t556, Value.bool false, Value.bool false, Value.bool false, Value.agg #[Value.int IntKind.i64 t501, Value.int IntKind.i64 t502, Value.int IntKind.i64 t503, Value.int IntKind.i64 t504], Value.bool t557, Value.agg #[Value.int IntKind.i64 t501, Value.int IntKind.i64 t502, Value.int IntKind.i64 t503, Value.int IntKind.i64 t504], Value.bool t558, Value.bool false, Value.bool false, Value.bool false, Value.agg #[Value.int IntKind.i64 t501, Value.int IntKind.i64 t502, Value.int IntKind.i64 t503, Value.int IntKind.i64 t504], Value.agg #[Value.int IntKind.i64 t559, Value.int IntKind.i64 t560, Value.int IntKind.i64 t561, Value.int IntKind.i64 t562], Value.agg #[Value.int IntKind.i64 t501, Value.int IntKind.i64 t502, Value.int IntKind.i64 t503, Value.int IntKind.i64 t504], Value.agg #[Value.int IntKind.i64 t563, Value.int IntKind.i64 t564, Value.int IntKind.i64 t565, Value.int IntKind.i64 t566], Value.bool false, Value.bool false, Value.bool false, Value.agg #[Value.int IntKind.i64 t501, Value.int IntKind.i64 t502, Value.int IntKind.i64 t503, Value.int IntKind.i64 t504], Value.int IntKind.i64 t567, Value.agg #[Value.int IntKind.i64 t501, Value.int IntKind.i64 t502, Value.int IntKind.i64 t503, Value.int IntKind.i64 t504], Value.int IntKind.i64 t568, Value.bool false, Value.bool false, Value.bool false, Value.agg #[Value.int IntKind.i64 t501, Value.int IntKind.i64 t502, Value.int IntKind.i64 t503, Value.int IntKind.i64 t504], Value.string t569, Value.agg #[Value.int IntKind.i64 t501, Value.int IntKind.i64 t502, Value.int IntKind.i64 t503, Value.int IntKind.i64 t504], Value.string t570, Value.bool false, Value.bool false, Value.bool false, Value.agg #[Value.int IntKind.i64 t501, Value.int IntKind.i64 t502, Value.int IntKind.i64 t503, Value.int IntKind.i64 t504], Value.int IntKind.i64 t571, Value.agg #[Value.int IntKind.i64 t501, Value.int IntKind.i64 t502, Value.int IntKind.i64 t503, Value.int IntKind.i64 t504], Value.int IntKind.i64 t572, Value.bool false, Value.bool false, Value.bool false, Value.agg #[Value.int IntKind.i64 t501, Value.int IntKind.i64 t502, Value.int IntKind.i64 t503, Value.int IntKind.i64 t504], Value.slice Ao152 (List.length t573) co152, Value.agg #[Value.int IntKind.i64 t501, Value.int IntKind.i64 t502, Value.int IntKind.i64 t503, Value.int IntKind.i64 t504], Value.slice Ao153 (List.length t576) co153, Value.bool true, Value.bool false, Value.bool false, Value.bool false, Value.agg #[Value.int IntKind.i64 t501, Value.int IntKind.i64 t502, Value.int IntKind.i64 t503, Value.int IntKind.i64 t504], Value.string t580, Value.agg #[Value.int IntKind.i64 t501, Value.int IntKind.i64 t502, Value.int IntKind.i64 t503, Value.int IntKind.i64 t504], Value.string t581, Value.bool false, Value.bool false, undef, undef, undef, undef, undef, undef, undef, undef, undef, undef, undef, undef, undef, undef, undef, undef, undef, undef, undef, undef, undef, undef, undef, undef, undef, undef, undef, undef, undef, undef, undef, undef, undef, undef, undef, undef, undef, undef, undef, undef, undef, undef, undef, undef, undef, undef, undef, undef, undef, undef, undef, undef, undef, undef, undef, undef, undef, undef, undef, undef, undef, undef, undef, undef, undef, undef, undef, undef, undef, undef, undef, undef, undef, undef, undef, undef, undef, undef, undef, undef, undef, undef, undef, undef, undef, undef, undef, undef, undef, undef, undef, undef, undef, undef, undef, undef, undef, undef, undef, undef, undef, undef, undef, undef, undef, undef, undef, undef, undef, undef, undef, undef, undef, undef, undef, undef, undef, undef, undef, undef, undef, undef, undef, undef, undef, undef, undef, undef, undef, undef, undef, undef, undef, undef, undef, undef, undef, undef, undef, undef, undef, undef, undef], []⟩ w155 := by
 (try dsimp only)
 conv => arg 2; whnf
 go_upto_if 176 with (fail)
 go_cut [] (fun wc => ∃ (kq : Nat), Az (laws_FnMatrices.j0 kq t533 t555 t501 t502 t503 t504 t523 t524 t525 t526 t527 t528 t531 t532 t552 t553 = some r) ∧ Az (kq ≤ k) ∧ Az (wc.heap[gb509]? = some (.cells #[.int .i64 t501, .int .i64 t502, .int .i64 t503, .int .i64 t504] 25 (0, 0))) ∧ Az (wc.heap[gb510]? = some (.cells #[.int .i64 t505, .int .i64 t506, .int .i64 t507, .int .i64 t508] 25 (0, 0))) ∧ Az (wc.heap[gb516]? = some (.cells #[.int .i64 t511, .int .i64 t512, .int .i64 t513, .int .i64 t514] 25 (0, 0))) ∧ Az (wc.heap[gb522]? = some (.cells #[.int .i64 t517, .int .i64 t518, .int .i64 t519, .int .i64 t520] 25 (0, 0))) ∧ Az (wc.heap[gb529]? = some (.cells #[.int .i64 t523, .int .i64 t524, .int .i64 t525, .int .i64 t526] 25 (0, 0))) ∧ Az (wc.heap[gb530]? = some (.cells #[.int .i64 t527, .int .i64 t528] 35 (0, 0))) ∧ Az (wc.heap[gb534]? = some (.cells #[.int .i64 t531, .int .i64 t532] 35 (0, 0))) ∧ Az (wc.heap[gb538]? = some (.cells #[.int .i64 t535, .int .i64 t536] 35 (0, 0))) ∧ Az (wc.heap[gb545]? = some (.cells #[.int .i64 t540, .int .i64 t541, .int .i64 t542, .int .i64 t543] 25 (0, 0))) ∧ Az (wc.heap[gb551]? = some (.cells #[.int .i64 t546, .int .i64 t547, .int .i64 t548, .int .i64 t549] 25 (0, 0))) ∧ Az (wc.heap[gb554]? = some (.cells #[.int .i64 t552, .int .i64 t553] 35 (0, 0))) ∧ Az (Below w.heap.size w wc))
 case first =>
  have H := HC45.out
  clear HC45
  by_cases c156 : t515 = true
  rotate_left
  ·replace c156 := Bool.eq_false_iff.mpr c156
   subst c156
   rw [if_neg (show ¬ (false = true) by decide)] at H
   have H' := Az.mk H
   clear H
   go_wp2
   go_meet
   case rel => exact ⟨_, H', ⟨by first | omega | exact Nat.le_refl _⟩, ⟨bk1 BK509⟩, ⟨bk1 BK510⟩, ⟨bk1 BK516⟩, ⟨bk1 BK522⟩, ⟨bk1 BK529⟩, ⟨bk1 BK530⟩, ⟨bk1 BK534⟩, ⟨bk1 BK538⟩, ⟨bk1 BK545⟩, ⟨bk1 BK551⟩, ⟨bk1 BK554⟩, ⟨bw_30⟩⟩
  subst c156
  rw [if_pos rfl] at H
  replace H := bez H
  obtain ⟨⟨t582, t583, t584⟩, A157, H⟩ := H
  try dsimp only at H
  replace H := bez H
  obtain ⟨⟨t586, t587, t588⟩, A158, H⟩ := H
  try dsimp only at H
  replace H := bez H
  obtain ⟨⟨t590, t591, t592⟩, A159, H⟩ := H
  try dsimp only at H
  by_cases c160 : t584 = true
  rotate_left
  ·replace c160 := Bool.eq_false_iff.mpr c160
   subst c160
   rw [if_neg (show ¬ (false = true) by decide)] at H
   have H' := Az.mk H
   clear H
   have hnb417 := NB510_509.out
   have hnc417 := NB509_510.out
   have hnb418 := NB510_516.out
   have hnc418 := NB516_510.out
   have hnb419 := NB510_522.out
   have hnc419 := NB522_510.out
   have hnb420 := NB510_529.out
   have hnc420 := NB529_510.out
   have hnb421 := NB510_530.out
   have hnc421 := NB530_510.out
   have hnb422 := NB510_534.out
   have hnc422 := NB534_510.out
   have hnb423 := NB510_538.out
   have hnc423 := NB538_510.out
   have hnb424 := NB510_545.out
   have hnc424 := NB545_510.out
   have hnb425 := NB510_551.out
   have hnc425 := NB551_510.out
   have hnb426 := NB510_554.out
   have hnc426 := NB554_510.out
   have hcz427_0 := bkc0 BK510
   have hcz427_1 := bkc1 BK510
   have hcz427_2 := bkc2 BK510
   have hcz427_3 := bkc3 BK510
   have hfz427_0 := bkF BK510.out 0
   have hfz427_1 := bkF BK510.out 1
   have hfz427_2 := bkF BK510.out 2
   have hfz427_3 := bkF BK510.out 3
   have hnb428 := NB530_509.out
   have hnc428 := NB509_530.out
   have hnb429 := NB530_516.out
   have hnc429 := NB516_530.out
   have hnb430 := NB530_522.out
   have hnc430 := NB522_530.out
   have hnb431 := NB530_529.out
   have hnc431 := NB529_530.out
   have hnb432 := NB530_534.out
   have hnc432 := NB534_530.out
   have hnb433 := NB530_538.out
   have hnc433 := NB538_530.out
   have hnb434 := NB530_545.out
   have hnc434 := NB545_530.out
   have hnb435 := NB530_551.out
   have hnc435 := NB551_530.out
   have hnb436 := NB530_554.out
   have hnc436 := NB554_530.out
   have hcz437_0 := bkc0 BK530
   have hcz437_1 := bkc1 BK530
   have hfz437_0 := bkF BK530.out 0
   have hfz437_1 := bkF BK530.out 1
   go_wp2_with (first | ((with_reducible refine gtC (f := 13) rfl ?_); refine clz Tryd.func13 (some 180) #[.agg #[.int .i64 t505, .int .i64 t506, .int .i64 t507, .int .i64 t508], .agg #[.int .i64 t527, .int .i64 t528]] ?_; (with_reducible refine (impl_MoveSlope.calls k t505 t506 t507 t508 t527 t528 t582 t583 false _ A157.out).mono ?_); rintro e w438 ⟨rfl, hb⟩; refine ⟨_, rfl, ?_⟩; replace HO575 := Az.mk (Kd.R_below z30_0 hb); replace HO578 := Az.mk (Kd.R_below z30_1 hb); replace BK509 := bkz BK509 hb; replace BK510 := bkz BK510 hb; replace BK516 := bkz BK516 hb; replace BK522 := bkz BK522 hb; replace BK529 := bkz BK529 hb; replace BK530 := bkz BK530 hb; replace BK534 := bkz BK534 hb; replace BK538 := bkz BK538 hb; replace BK545 := bkz BK545 hb; replace BK551 := bkz BK551 hb; replace BK554 := bkz BK554 hb; replace HB := Az.mk (bwT bw_30 hb); (try clear hb)) | ((with_reducible refine gtD (N := 22) rfl ?_); (try (refine gate_guard (by rfl) ?_; dsimp only)); refine bx (N := 22) (cs := #[.int .i64 0, .int .i64 0]) (t := 35) ?_; intro gb585 hg w439 hbox hb; replace HO575 := Az.mk (Kd.R_below (Kd.R_elderB z30_0 gb585 (Nat.le_of_eq hg.symm)) hb); replace HO578 := Az.mk (Kd.R_below (Kd.R_elderB z30_1 gb585 (Nat.le_of_eq hg.symm)) hb); have BK585 := Az.mk (hbox); have GW585 := gwz hg bw_30; have GE585 := gwz hg bw_30; replace HB := Az.mk (bwT bw_30 hb); have NB509_585 := nlt BK509 hg; have NB585_509 := ngt BK509 hg; replace BK509 := bkz BK509 hb; have NB510_585 := nlt BK510 hg; have NB585_510 := ngt BK510 hg; replace BK510 := bkz BK510 hb; have NB516_585 := nlt BK516 hg; have NB585_516 := ngt BK516 hg; replace BK516 := bkz BK516 hb; have NB522_585 := nlt BK522 hg; have NB585_522 := ngt BK522 hg; replace BK522 := bkz BK522 hb; have NB529_585 := nlt BK529 hg; have NB585_529 := ngt BK529 hg; replace BK529 := bkz BK529 hb; have NB530_585 := nlt BK530 hg; have NB585_530 := ngt BK530 hg; replace BK530 := bkz BK530 hb; have NB534_585 := nlt BK534 hg; have NB585_534 := ngt BK534 hg; replace BK534 := bkz BK534 hb; have NB538_585 := nlt BK538 hg; have NB585_538 := ngt BK538 hg; replace BK538 := bkz BK538 hb; have NB545_585 := nlt BK545 hg; have NB585_545 := ngt BK545 hg; replace BK545 := bkz BK545 hb; have NB551_585 := nlt BK551 hg; have NB585_551 := ngt BK551 hg; replace BK551 := bkz BK551 hb; have NB554_585 := nlt BK554 hg; have NB585_554 := ngt BK554 hg; replace BK554 := bkz BK554 hb; clear hb hbox hg; have hnb440 := NB585_509.out; have hnc440 := NB509_585.out; have hnb441 := NB585_510.out; have hnc441 := NB510_585.out; have hnb442 := NB585_516.out; have hnc442 := NB516_585.out; have hnb443 := NB585_522.out; have hnc443 := NB522_585.out; have hnb444 := NB585_529.out; have hnc444 := NB529_585.out; have hnb445 := NB585_530.out; have hnc445 := NB530_585.out; have hnb446 := NB585_534.out; have hnc446 := NB534_585.out; have hnb447 := NB585_538.out; have hnc447 := NB538_585.out; have hnb448 := NB585_545.out; have hnc448 := NB545_585.out; have hnb449 := NB585_551.out; have hnc449 := NB551_585.out; have hnb450 := NB585_554.out; have hnc450 := NB554_585.out; obtain ⟨hcz451_0, hcz451_1, hfz451_0, hfz451_1⟩ := bq2 BK585; have hnb452 := NB509_516.out; have hnc452 := NB516_509.out; have hnb453 := NB509_522.out; have hnc453 := NB522_509.out; have hnb454 := NB509_529.out; have hnc454 := NB529_509.out; have hnb455 := NB509_534.out; have hnc455 := NB534_509.out; have hnb456 := NB509_538.out; have hnc456 := NB538_509.out; have hnb457 := NB509_545.out; have hnc457 := NB545_509.out; have hnb458 := NB509_551.out; have hnc458 := NB551_509.out; have hnb459 := NB509_554.out; have hnc459 := NB554_509.out; obtain ⟨hcz460_0, hcz460_1, hcz460_2, hcz460_3, hfz460_0, hfz460_1, hfz460_2, hfz460_3⟩ := bq4 BK509) | ((with_reducible refine gtC (f := 13) rfl ?_); refine clz Tryd.func13 (some 186) #[.agg #[.int .i64 t501, .int .i64 t502, .int .i64 t503, .int .i64 t504], .agg #[.int .i64 t582, .int .i64 t583]] ?_; (with_reducible refine (impl_MoveSlope.calls k t501 t502 t503 t504 t582 t583 t586 t587 t588 _ A158.out).mono ?_); rintro e w461 ⟨rfl, hb⟩; refine ⟨_, rfl, ?_⟩; replace HO575 := Az.mk (Kd.R_below z30_2 hb); replace HO578 := Az.mk (Kd.R_below z30_3 hb); replace BK509 := Az.mk (bkB (g := gb509) (o := .cells #[.int .i64 t501, .int .i64 t502, .int .i64 t503, .int .i64 t504] 25 (0, 0)) bkv hb); replace BK510 := Az.mk (bkB (g := gb510) (o := .cells #[.int .i64 t505, .int .i64 t506, .int .i64 t507, .int .i64 t508] 25 (0, 0)) bkv hb); replace BK516 := Az.mk (bkB (g := gb516) (o := .cells #[.int .i64 t511, .int .i64 t512, .int .i64 t513, .int .i64 t514] 25 (0, 0)) bkv hb); replace BK522 := Az.mk (bkB (g := gb522) (o := .cells #[.int .i64 t517, .int .i64 t518, .int .i64 t519, .int .i64 t520] 25 (0, 0)) bkv hb); replace BK529 := Az.mk (bkB (g := gb529) (o := .cells #[.int .i64 t523, .int .i64 t524, .int .i64 t525, .int .i64 t526] 25 (0, 0)) bkv hb); replace BK530 := Az.mk (bkB (g := gb530) (o := .cells #[.int .i64 t527, .int .i64 t528] 35 (0, 0)) bkv hb); replace BK534 := Az.mk (bkB (g := gb534) (o := .cells #[.int .i64 t531, .int .i64 t532] 35 (0, 0)) bkv hb); replace BK538 := Az.mk (bkB (g := gb538) (o := .cells #[.int .i64 t535, .int .i64 t536] 35 (0, 0)) bkv hb); replace BK545 := Az.mk (bkB (g := gb545) (o := .cells #[.int .i64 t540, .int .i64 t541, .int .i64 t542, .int .i64 t543] 25 (0, 0)) bkv hb); replace BK551 := Az.mk (bkB (g := gb551) (o := .cells #[.int .i64 t546, .int .i64 t547, .int .i64 t548, .int .i64 t549] 25 (0, 0)) bkv hb); replace BK554 := Az.mk (bkB (g := gb554) (o := .cells #[.int .i64 t552, .int .i64 t553] 35 (0, 0)) bkv hb); replace BK585 := Az.mk (bkB (g := gb585) (o := .cells #[.int .i64 t582, .int .i64 t583] 35 (0, 0)) bkv hb); replace HB := Az.mk (bwT bw_30 hb); (try clear hb); (try clear hk)) | ((with_reducible refine gtD (N := 24) rfl ?_); (try (refine gate_guard (by rfl) ?_; dsimp only)); refine bx (N := 24) (cs := #[.int .i64 0, .int .i64 0]) (t := 35) ?_; intro gb589 hg w462 hbox hb; replace HO575 := Az.mk (Kd.R_below (Kd.R_elderB z30_0 gb589 (Nat.le_of_eq hg.symm)) hb); replace HO578 := Az.mk (Kd.R_below (Kd.R_elderB z30_1 gb589 (Nat.le_of_eq hg.symm)) hb); have BK589 := Az.mk (hbox); have GW589 := gwz hg bw_30; have GE589 := gwz hg bw_30; replace HB := Az.mk (bwT bw_30 hb); have NB509_589 := nlt BK509 hg; have NB589_509 := ngt BK509 hg; replace BK509 := bkz BK509 hb; have NB510_589 := nlt BK510 hg; have NB589_510 := ngt BK510 hg; replace BK510 := bkz BK510 hb; have NB516_589 := nlt BK516 hg; have NB589_516 := ngt BK516 hg; replace BK516 := bkz BK516 hb; have NB522_589 := nlt BK522 hg; have NB589_522 := ngt BK522 hg; replace BK522 := bkz BK522 hb; have NB529_589 := nlt BK529 hg; have NB589_529 := ngt BK529 hg; replace BK529 := bkz BK529 hb; have NB530_589 := nlt BK530 hg; have NB589_530 := ngt BK530 hg; replace BK530 := bkz BK530 hb; have NB534_589 := nlt BK534 hg; have NB589_534 := ngt BK534 hg; replace BK534 := bkz BK534 hb; have NB538_589 := nlt BK538 hg; have NB589_538 := ngt BK538 hg; replace BK538 := bkz BK538 hb; have NB545_589 := nlt BK545 hg; have NB589_545 := ngt BK545 hg; replace BK545 := bkz BK545 hb; have NB551_589 := nlt BK551 hg; have NB589_551 := ngt BK551 hg; replace BK551 := bkz BK551 hb; have NB554_589 := nlt BK554 hg; have NB589_554 := ngt BK554 hg; replace BK554 := bkz BK554 hb; have NB585_589 := nlt BK585 hg; have NB589_585 := ngt BK585 hg; replace BK585 := bkz BK585 hb; clear hb hbox hg; have hnb463 := NB589_509.out; have hnc463 := NB509_589.out; have hnb464 := NB589_510.out; have hnc464 := NB510_589.out; have hnb465 := NB589_516.out; have hnc465 := NB516_589.out; have hnb466 := NB589_522.out; have hnc466 := NB522_589.out; have hnb467 := NB589_529.out; have hnc467 := NB529_589.out; have hnb468 := NB589_530.out; have hnc468 := NB530_589.out; have hnb469 := NB589_534.out; have hnc469 := NB534_589.out; have hnb470 := NB589_538.out; have hnc470 := NB538_589.out; have hnb471 := NB589_545.out; have hnc471 := NB545_589.out; have hnb472 := NB589_551.out; have hnc472 := NB551_589.out; have hnb473 := NB589_554.out; have hnc473 := NB554_589.out; have hnb474 := NB589_585.out; have hnc474 := NB585_589.out; obtain ⟨hcz475_0, hcz475_1, hfz475_0, hfz475_1⟩ := bq2 BK589; have hnb476 := NB516_522.out; have hnc476 := NB522_516.out; have hnb477 := NB516_529.out; have hnc477 := NB529_516.out; have hnb478 := NB516_534.out; have hnc478 := NB534_516.out; have hnb479 := NB516_538.out; have hnc479 := NB538_516.out; have hnb480 := NB516_545.out; have hnc480 := NB545_516.out; have hnb481 := NB516_551.out; have hnc481 := NB551_516.out; have hnb482 := NB516_554.out; have hnc482 := NB554_516.out; obtain ⟨hcz483_0, hcz483_1, hcz483_2, hcz483_3, hfz483_0, hfz483_1, hfz483_2, hfz483_3⟩ := bq4 BK516; obtain ⟨hcz484_0, hcz484_1, hfz484_0, hfz484_1⟩ := bq2 BK530) | ((with_reducible refine gtC (f := 13) rfl ?_); refine clz Tryd.func13 (some 192) #[.agg #[.int .i64 t511, .int .i64 t512, .int .i64 t513, .int .i64 t514], .agg #[.int .i64 t527, .int .i64 t528]] ?_; (with_reducible refine (impl_MoveSlope.calls k t511 t512 t513 t514 t527 t528 t590 t591 t592 _ A159.out).mono ?_); rintro e w485 ⟨rfl, hb⟩; refine ⟨_, rfl, ?_⟩; replace HO575 := Az.mk (Kd.R_below z30_4 hb); replace HO578 := Az.mk (Kd.R_below z30_5 hb); replace BK509 := Az.mk (bkB (g := gb509) (o := .cells #[.int .i64 t501, .int .i64 t502, .int .i64 t503, .int .i64 t504] 25 (0, 0)) bkv hb); replace BK510 := Az.mk (bkB (g := gb510) (o := .cells #[.int .i64 t505, .int .i64 t506, .int .i64 t507, .int .i64 t508] 25 (0, 0)) bkv hb); replace BK516 := Az.mk (bkB (g := gb516) (o := .cells #[.int .i64 t511, .int .i64 t512, .int .i64 t513, .int .i64 t514] 25 (0, 0)) bkv hb); replace BK522 := Az.mk (bkB (g := gb522) (o := .cells #[.int .i64 t517, .int .i64 t518, .int .i64 t519, .int .i64 t520] 25 (0, 0)) bkv hb); replace BK529 := Az.mk (bkB (g := gb529) (o := .cells #[.int .i64 t523, .int .i64 t524, .int .i64 t525, .int .i64 t526] 25 (0, 0)) bkv hb); replace BK530 := Az.mk (bkB (g := gb530) (o := .cells #[.int .i64 t527, .int .i64 t528] 35 (0, 0)) bkv hb); replace BK534 := Az.mk (bkB (g := gb534) (o := .cells #[.int .i64 t531, .int .i64 t532] 35 (0, 0)) bkv hb); replace BK538 := Az.mk (bkB (g := gb538) (o := .cells #[.int .i64 t535, .int .i64 t536] 35 (0, 0)) bkv hb); replace BK545 := Az.mk (bkB (g := gb545) (o := .cells #[.int .i64 t540, .int .i64 t541, .int .i64 t542, .int .i64 t543] 25 (0, 0)) bkv hb); replace BK551 := Az.mk (bkB (g := gb551) (o := .cells #[.int .i64 t546, .int .i64 t547, .int .i64 t548, .int .i64 t549] 25 (0, 0)) bkv hb); replace BK554 := Az.mk (bkB (g := gb554) (o := .cells #[.int .i64 t552, .int .i64 t553] 35 (0, 0)) bkv hb); replace BK585 := Az.mk (bkB (g := gb585) (o := .cells #[.int .i64 t582, .int .i64 t583] 35 (0, 0)) bkv hb); replace BK589 := Az.mk (bkB (g := gb589) (o := .cells #[.int .i64 t586, .int .i64 t587] 35 (0, 0)) bkv hb); replace HB := Az.mk (bwT bw_30 hb); (try clear hb); (try clear hk)) | ((with_reducible refine gtD (N := 26) rfl ?_); (try (refine gate_guard (by rfl) ?_; dsimp only)); refine bx (N := 26) (cs := #[.int .i64 0, .int .i64 0]) (t := 35) ?_; intro gb593 hg w486 hbox hb; replace HO575 := Az.mk (Kd.R_below (Kd.R_elderB z30_0 gb593 (Nat.le_of_eq hg.symm)) hb); replace HO578 := Az.mk (Kd.R_below (Kd.R_elderB z30_1 gb593 (Nat.le_of_eq hg.symm)) hb); have BK593 := Az.mk (hbox); have GW593 := gwz hg bw_30; have GE593 := gwz hg bw_30; replace HB := Az.mk (bwT bw_30 hb); have NB509_593 := nlt BK509 hg; have NB593_509 := ngt BK509 hg; replace BK509 := bkz BK509 hb; have NB510_593 := nlt BK510 hg; have NB593_510 := ngt BK510 hg; replace BK510 := bkz BK510 hb; have NB516_593 := nlt BK516 hg; have NB593_516 := ngt BK516 hg; replace BK516 := bkz BK516 hb; have NB522_593 := nlt BK522 hg; have NB593_522 := ngt BK522 hg; replace BK522 := bkz BK522 hb; have NB529_593 := nlt BK529 hg; have NB593_529 := ngt BK529 hg; replace BK529 := bkz BK529 hb; have NB530_593 := nlt BK530 hg; have NB593_530 := ngt BK530 hg; replace BK530 := bkz BK530 hb; have NB534_593 := nlt BK534 hg; have NB593_534 := ngt BK534 hg; replace BK534 := bkz BK534 hb; have NB538_593 := nlt BK538 hg; have NB593_538 := ngt BK538 hg; replace BK538 := bkz BK538 hb; have NB545_593 := nlt BK545 hg; have NB593_545 := ngt BK545 hg; replace BK545 := bkz BK545 hb; have NB551_593 := nlt BK551 hg; have NB593_551 := ngt BK551 hg; replace BK551 := bkz BK551 hb; have NB554_593 := nlt BK554 hg; have NB593_554 := ngt BK554 hg; replace BK554 := bkz BK554 hb; have NB585_593 := nlt BK585 hg; have NB593_585 := ngt BK585 hg; replace BK585 := bkz BK585 hb; have NB589_593 := nlt BK589 hg; have NB593_589 := ngt BK589 hg; replace BK589 := bkz BK589 hb; clear hb hbox hg; have hnb487 := NB593_509.out; have hnc487 := NB509_593.out; have hnb488 := NB593_510.out; have hnc488 := NB510_593.out; have hnb489 := NB593_516.out; have hnc489 := NB516_593.out; have hnb490 := NB593_522.out; have hnc490 := NB522_593.out; have hnb491 := NB593_529.out; have hnc491 := NB529_593.out; have hnb492 := NB593_530.out; have hnc492 := NB530_593.out; have hnb493 := NB593_534.out; have hnc493 := NB534_593.out; have hnb494 := NB593_538.out; have hnc494 := NB538_593.out; have hnb495 := NB593_545.out; have hnc495 := NB545_593.out; have hnb496 := NB593_551.out; have hnc496 := NB551_593.out; have hnb497 := NB593_554.out; have hnc497 := NB554_593.out; have hnb498 := NB593_585.out; have hnc498 := NB585_593.out; have hnb499 := NB593_589.out; have hnc499 := NB589_593.out; obtain ⟨hcz500_0, hcz500_1, hfz500_0, hfz500_1⟩ := bq2 BK593))
   go_meet
   case rel => exact ⟨_, H', ⟨by first | omega | exact Nat.le_refl _⟩, ⟨bkv⟩, ⟨bkv⟩, ⟨bkv⟩, ⟨bkv⟩, ⟨bkv⟩, ⟨bkv⟩, ⟨bkv⟩, ⟨bkv⟩, ⟨bkv⟩, ⟨bkv⟩, ⟨bkv⟩, ⟨bw_30⟩⟩
  subst c160
  rw [if_pos rfl] at H
  by_cases c161 : t588 = true
  rotate_left
  ·replace c161 := Bool.eq_false_iff.mpr c161
   subst c161
   rw [if_neg (show ¬ (false = true) by decide)] at H
   have H' := Az.mk H
   clear H
   have hnb333 := NB510_509.out
   have hnc333 := NB509_510.out
   have hnb334 := NB510_516.out
   have hnc334 := NB516_510.out
   have hnb335 := NB510_522.out
   have hnc335 := NB522_510.out
   have hnb336 := NB510_529.out
   have hnc336 := NB529_510.out
   have hnb337 := NB510_530.out
   have hnc337 := NB530_510.out
   have hnb338 := NB510_534.out
   have hnc338 := NB534_510.out
   have hnb339 := NB510_538.out
   have hnc339 := NB538_510.out
   have hnb340 := NB510_545.out
   have hnc340 := NB545_510.out
   have hnb341 := NB510_551.out
   have hnc341 := NB551_510.out
   have hnb342 := NB510_554.out
   have hnc342 := NB554_510.out
   have hcz343_0 := bkc0 BK510
   have hcz343_1 := bkc1 BK510
   have hcz343_2 := bkc2 BK510
   have hcz343_3 := bkc3 BK510
   have hfz343_0 := bkF BK510.out 0
   have hfz343_1 := bkF BK510.out 1
   have hfz343_2 := bkF BK510.out 2
   have hfz343_3 := bkF BK510.out 3
   have hnb344 := NB530_509.out
   have hnc344 := NB509_530.out
   have hnb345 := NB530_516.out
   have hnc345 := NB516_530.out
   have hnb346 := NB530_522.out
   have hnc346 := NB522_530.out
   have hnb347 := NB530_529.out
   have hnc347 := NB529_530.out
   have hnb348 := NB530_534.out
   have hnc348 := NB534_530.out
   have hnb349 := NB530_538.out
   have hnc349 := NB538_530.out
   have hnb350 := NB530_545.out
   have hnc350 := NB545_530.out
   have hnb351 := NB530_551.out
   have hnc351 := NB551_530.out
   have hnb352 := NB530_554.out
   have hnc352 := NB554_530.out
   have hcz353_0 := bkc0 BK530
   have hcz353_1 := bkc1 BK530
   have hfz353_0 := bkF BK530.out 0
   have hfz353_1 := bkF BK530.out 1
   go_wp2_with (first | ((with_reducible refine gtC (f := 13) rfl ?_); refine clz Tryd.func13 (some 180) #[.agg #[.int .i64 t505, .int .i64 t506, .int .i64 t507, .int .i64 t508], .agg #[.int .i64 t527, .int .i64 t528]] ?_; (with_reducible refine (impl_MoveSlope.calls k t505 t506 t507 t508 t527 t528 t582 t583 true _ A157.out).mono ?_); rintro e w354 ⟨rfl, hb⟩; refine ⟨_, rfl, ?_⟩; replace HO575 := Az.mk (Kd.R_below z30_0 hb); replace HO578 := Az.mk (Kd.R_below z30_1 hb); replace BK509 := bkz BK509 hb; replace BK510 := bkz BK510 hb; replace BK516 := bkz BK516 hb; replace BK522 := bkz BK522 hb; replace BK529 := bkz BK529 hb; replace BK530 := bkz BK530 hb; replace BK534 := bkz BK534 hb; replace BK538 := bkz BK538 hb; replace BK545 := bkz BK545 hb; replace BK551 := bkz BK551 hb; replace BK554 := bkz BK554 hb; replace HB := Az.mk (bwT bw_30 hb); (try clear hb)) | ((with_reducible refine gtD (N := 22) rfl ?_); (try (refine gate_guard (by rfl) ?_; dsimp only)); refine bx (N := 22) (cs := #[.int .i64 0, .int .i64 0]) (t := 35) ?_; intro gb585 hg w355 hbox hb; replace HO575 := Az.mk (Kd.R_below (Kd.R_elderB z30_0 gb585 (Nat.le_of_eq hg.symm)) hb); replace HO578 := Az.mk (Kd.R_below (Kd.R_elderB z30_1 gb585 (Nat.le_of_eq hg.symm)) hb); have BK585 := Az.mk (hbox); have GW585 := gwz hg bw_30; have GE585 := gwz hg bw_30; replace HB := Az.mk (bwT bw_30 hb); have NB509_585 := nlt BK509 hg; have NB585_509 := ngt BK509 hg; replace BK509 := bkz BK509 hb; have NB510_585 := nlt BK510 hg; have NB585_510 := ngt BK510 hg; replace BK510 := bkz BK510 hb; have NB516_585 := nlt BK516 hg; have NB585_516 := ngt BK516 hg; replace BK516 := bkz BK516 hb; have NB522_585 := nlt BK522 hg; have NB585_522 := ngt BK522 hg; replace BK522 := bkz BK522 hb; have NB529_585 := nlt BK529 hg; have NB585_529 := ngt BK529 hg; replace BK529 := bkz BK529 hb; have NB530_585 := nlt BK530 hg; have NB585_530 := ngt BK530 hg; replace BK530 := bkz BK530 hb; have NB534_585 := nlt BK534 hg; have NB585_534 := ngt BK534 hg; replace BK534 := bkz BK534 hb; have NB538_585 := nlt BK538 hg; have NB585_538 := ngt BK538 hg; replace BK538 := bkz BK538 hb; have NB545_585 := nlt BK545 hg; have NB585_545 := ngt BK545 hg; replace BK545 := bkz BK545 hb; have NB551_585 := nlt BK551 hg; have NB585_551 := ngt BK551 hg; replace BK551 := bkz BK551 hb; have NB554_585 := nlt BK554 hg; have NB585_554 := ngt BK554 hg; replace BK554 := bkz BK554 hb; clear hb hbox hg; have hnb356 := NB585_509.out; have hnc356 := NB509_585.out; have hnb357 := NB585_510.out; have hnc357 := NB510_585.out; have hnb358 := NB585_516.out; have hnc358 := NB516_585.out; have hnb359 := NB585_522.out; have hnc359 := NB522_585.out; have hnb360 := NB585_529.out; have hnc360 := NB529_585.out; have hnb361 := NB585_530.out; have hnc361 := NB530_585.out; have hnb362 := NB585_534.out; have hnc362 := NB534_585.out; have hnb363 := NB585_538.out; have hnc363 := NB538_585.out; have hnb364 := NB585_545.out; have hnc364 := NB545_585.out; have hnb365 := NB585_551.out; have hnc365 := NB551_585.out; have hnb366 := NB585_554.out; have hnc366 := NB554_585.out; obtain ⟨hcz367_0, hcz367_1, hfz367_0, hfz367_1⟩ := bq2 BK585; have hnb368 := NB509_516.out; have hnc368 := NB516_509.out; have hnb369 := NB509_522.out; have hnc369 := NB522_509.out; have hnb370 := NB509_529.out; have hnc370 := NB529_509.out; have hnb371 := NB509_534.out; have hnc371 := NB534_509.out; have hnb372 := NB509_538.out; have hnc372 := NB538_509.out; have hnb373 := NB509_545.out; have hnc373 := NB545_509.out; have hnb374 := NB509_551.out; have hnc374 := NB551_509.out; have hnb375 := NB509_554.out; have hnc375 := NB554_509.out; obtain ⟨hcz376_0, hcz376_1, hcz376_2, hcz376_3, hfz376_0, hfz376_1, hfz376_2, hfz376_3⟩ := bq4 BK509) | ((with_reducible refine gtC (f := 13) rfl ?_); refine clz Tryd.func13 (some 186) #[.agg #[.int .i64 t501, .int .i64 t502, .int .i64 t503, .int .i64 t504], .agg #[.int .i64 t582, .int .i64 t583]] ?_; (with_reducible refine (impl_MoveSlope.calls k t501 t502 t503 t504 t582 t583 t586 t587 false _ A158.out).mono ?_); rintro e w377 ⟨rfl, hb⟩; refine ⟨_, rfl, ?_⟩; replace HO575 := Az.mk (Kd.R_below z30_2 hb); replace HO578 := Az.mk (Kd.R_below z30_3 hb); replace BK509 := Az.mk (bkB (g := gb509) (o := .cells #[.int .i64 t501, .int .i64 t502, .int .i64 t503, .int .i64 t504] 25 (0, 0)) bkv hb); replace BK510 := Az.mk (bkB (g := gb510) (o := .cells #[.int .i64 t505, .int .i64 t506, .int .i64 t507, .int .i64 t508] 25 (0, 0)) bkv hb); replace BK516 := Az.mk (bkB (g := gb516) (o := .cells #[.int .i64 t511, .int .i64 t512, .int .i64 t513, .int .i64 t514] 25 (0, 0)) bkv hb); replace BK522 := Az.mk (bkB (g := gb522) (o := .cells #[.int .i64 t517, .int .i64 t518, .int .i64 t519, .int .i64 t520] 25 (0, 0)) bkv hb); replace BK529 := Az.mk (bkB (g := gb529) (o := .cells #[.int .i64 t523, .int .i64 t524, .int .i64 t525, .int .i64 t526] 25 (0, 0)) bkv hb); replace BK530 := Az.mk (bkB (g := gb530) (o := .cells #[.int .i64 t527, .int .i64 t528] 35 (0, 0)) bkv hb); replace BK534 := Az.mk (bkB (g := gb534) (o := .cells #[.int .i64 t531, .int .i64 t532] 35 (0, 0)) bkv hb); replace BK538 := Az.mk (bkB (g := gb538) (o := .cells #[.int .i64 t535, .int .i64 t536] 35 (0, 0)) bkv hb); replace BK545 := Az.mk (bkB (g := gb545) (o := .cells #[.int .i64 t540, .int .i64 t541, .int .i64 t542, .int .i64 t543] 25 (0, 0)) bkv hb); replace BK551 := Az.mk (bkB (g := gb551) (o := .cells #[.int .i64 t546, .int .i64 t547, .int .i64 t548, .int .i64 t549] 25 (0, 0)) bkv hb); replace BK554 := Az.mk (bkB (g := gb554) (o := .cells #[.int .i64 t552, .int .i64 t553] 35 (0, 0)) bkv hb); replace BK585 := Az.mk (bkB (g := gb585) (o := .cells #[.int .i64 t582, .int .i64 t583] 35 (0, 0)) bkv hb); replace HB := Az.mk (bwT bw_30 hb); (try clear hb); (try clear hk)) | ((with_reducible refine gtD (N := 24) rfl ?_); (try (refine gate_guard (by rfl) ?_; dsimp only)); refine bx (N := 24) (cs := #[.int .i64 0, .int .i64 0]) (t := 35) ?_; intro gb589 hg w378 hbox hb; replace HO575 := Az.mk (Kd.R_below (Kd.R_elderB z30_0 gb589 (Nat.le_of_eq hg.symm)) hb); replace HO578 := Az.mk (Kd.R_below (Kd.R_elderB z30_1 gb589 (Nat.le_of_eq hg.symm)) hb); have BK589 := Az.mk (hbox); have GW589 := gwz hg bw_30; have GE589 := gwz hg bw_30; replace HB := Az.mk (bwT bw_30 hb); have NB509_589 := nlt BK509 hg; have NB589_509 := ngt BK509 hg; replace BK509 := bkz BK509 hb; have NB510_589 := nlt BK510 hg; have NB589_510 := ngt BK510 hg; replace BK510 := bkz BK510 hb; have NB516_589 := nlt BK516 hg; have NB589_516 := ngt BK516 hg; replace BK516 := bkz BK516 hb; have NB522_589 := nlt BK522 hg; have NB589_522 := ngt BK522 hg; replace BK522 := bkz BK522 hb; have NB529_589 := nlt BK529 hg; have NB589_529 := ngt BK529 hg; replace BK529 := bkz BK529 hb; have NB530_589 := nlt BK530 hg; have NB589_530 := ngt BK530 hg; replace BK530 := bkz BK530 hb; have NB534_589 := nlt BK534 hg; have NB589_534 := ngt BK534 hg; replace BK534 := bkz BK534 hb; have NB538_589 := nlt BK538 hg; have NB589_538 := ngt BK538 hg; replace BK538 := bkz BK538 hb; have NB545_589 := nlt BK545 hg; have NB589_545 := ngt BK545 hg; replace BK545 := bkz BK545 hb; have NB551_589 := nlt BK551 hg; have NB589_551 := ngt BK551 hg; replace BK551 := bkz BK551 hb; have NB554_589 := nlt BK554 hg; have NB589_554 := ngt BK554 hg; replace BK554 := bkz BK554 hb; have NB585_589 := nlt BK585 hg; have NB589_585 := ngt BK585 hg; replace BK585 := bkz BK585 hb; clear hb hbox hg; have hnb379 := NB589_509.out; have hnc379 := NB509_589.out; have hnb380 := NB589_510.out; have hnc380 := NB510_589.out; have hnb381 := NB589_516.out; have hnc381 := NB516_589.out; have hnb382 := NB589_522.out; have hnc382 := NB522_589.out; have hnb383 := NB589_529.out; have hnc383 := NB529_589.out; have hnb384 := NB589_530.out; have hnc384 := NB530_589.out; have hnb385 := NB589_534.out; have hnc385 := NB534_589.out; have hnb386 := NB589_538.out; have hnc386 := NB538_589.out; have hnb387 := NB589_545.out; have hnc387 := NB545_589.out; have hnb388 := NB589_551.out; have hnc388 := NB551_589.out; have hnb389 := NB589_554.out; have hnc389 := NB554_589.out; have hnb390 := NB589_585.out; have hnc390 := NB585_589.out; obtain ⟨hcz391_0, hcz391_1, hfz391_0, hfz391_1⟩ := bq2 BK589; have hnb392 := NB516_522.out; have hnc392 := NB522_516.out; have hnb393 := NB516_529.out; have hnc393 := NB529_516.out; have hnb394 := NB516_534.out; have hnc394 := NB534_516.out; have hnb395 := NB516_538.out; have hnc395 := NB538_516.out; have hnb396 := NB516_545.out; have hnc396 := NB545_516.out; have hnb397 := NB516_551.out; have hnc397 := NB551_516.out; have hnb398 := NB516_554.out; have hnc398 := NB554_516.out; obtain ⟨hcz399_0, hcz399_1, hcz399_2, hcz399_3, hfz399_0, hfz399_1, hfz399_2, hfz399_3⟩ := bq4 BK516; obtain ⟨hcz400_0, hcz400_1, hfz400_0, hfz400_1⟩ := bq2 BK530) | ((with_reducible refine gtC (f := 13) rfl ?_); refine clz Tryd.func13 (some 192) #[.agg #[.int .i64 t511, .int .i64 t512, .int .i64 t513, .int .i64 t514], .agg #[.int .i64 t527, .int .i64 t528]] ?_; (with_reducible refine (impl_MoveSlope.calls k t511 t512 t513 t514 t527 t528 t590 t591 t592 _ A159.out).mono ?_); rintro e w401 ⟨rfl, hb⟩; refine ⟨_, rfl, ?_⟩; replace HO575 := Az.mk (Kd.R_below z30_4 hb); replace HO578 := Az.mk (Kd.R_below z30_5 hb); replace BK509 := Az.mk (bkB (g := gb509) (o := .cells #[.int .i64 t501, .int .i64 t502, .int .i64 t503, .int .i64 t504] 25 (0, 0)) bkv hb); replace BK510 := Az.mk (bkB (g := gb510) (o := .cells #[.int .i64 t505, .int .i64 t506, .int .i64 t507, .int .i64 t508] 25 (0, 0)) bkv hb); replace BK516 := Az.mk (bkB (g := gb516) (o := .cells #[.int .i64 t511, .int .i64 t512, .int .i64 t513, .int .i64 t514] 25 (0, 0)) bkv hb); replace BK522 := Az.mk (bkB (g := gb522) (o := .cells #[.int .i64 t517, .int .i64 t518, .int .i64 t519, .int .i64 t520] 25 (0, 0)) bkv hb); replace BK529 := Az.mk (bkB (g := gb529) (o := .cells #[.int .i64 t523, .int .i64 t524, .int .i64 t525, .int .i64 t526] 25 (0, 0)) bkv hb); replace BK530 := Az.mk (bkB (g := gb530) (o := .cells #[.int .i64 t527, .int .i64 t528] 35 (0, 0)) bkv hb); replace BK534 := Az.mk (bkB (g := gb534) (o := .cells #[.int .i64 t531, .int .i64 t532] 35 (0, 0)) bkv hb); replace BK538 := Az.mk (bkB (g := gb538) (o := .cells #[.int .i64 t535, .int .i64 t536] 35 (0, 0)) bkv hb); replace BK545 := Az.mk (bkB (g := gb545) (o := .cells #[.int .i64 t540, .int .i64 t541, .int .i64 t542, .int .i64 t543] 25 (0, 0)) bkv hb); replace BK551 := Az.mk (bkB (g := gb551) (o := .cells #[.int .i64 t546, .int .i64 t547, .int .i64 t548, .int .i64 t549] 25 (0, 0)) bkv hb); replace BK554 := Az.mk (bkB (g := gb554) (o := .cells #[.int .i64 t552, .int .i64 t553] 35 (0, 0)) bkv hb); replace BK585 := Az.mk (bkB (g := gb585) (o := .cells #[.int .i64 t582, .int .i64 t583] 35 (0, 0)) bkv hb); replace BK589 := Az.mk (bkB (g := gb589) (o := .cells #[.int .i64 t586, .int .i64 t587] 35 (0, 0)) bkv hb); replace HB := Az.mk (bwT bw_30 hb); (try clear hb); (try clear hk)) | ((with_reducible refine gtD (N := 26) rfl ?_); (try (refine gate_guard (by rfl) ?_; dsimp only)); refine bx (N := 26) (cs := #[.int .i64 0, .int .i64 0]) (t := 35) ?_; intro gb593 hg w402 hbox hb; replace HO575 := Az.mk (Kd.R_below (Kd.R_elderB z30_0 gb593 (Nat.le_of_eq hg.symm)) hb); replace HO578 := Az.mk (Kd.R_below (Kd.R_elderB z30_1 gb593 (Nat.le_of_eq hg.symm)) hb); have BK593 := Az.mk (hbox); have GW593 := gwz hg bw_30; have GE593 := gwz hg bw_30; replace HB := Az.mk (bwT bw_30 hb); have NB509_593 := nlt BK509 hg; have NB593_509 := ngt BK509 hg; replace BK509 := bkz BK509 hb; have NB510_593 := nlt BK510 hg; have NB593_510 := ngt BK510 hg; replace BK510 := bkz BK510 hb; have NB516_593 := nlt BK516 hg; have NB593_516 := ngt BK516 hg; replace BK516 := bkz BK516 hb; have NB522_593 := nlt BK522 hg; have NB593_522 := ngt BK522 hg; replace BK522 := bkz BK522 hb; have NB529_593 := nlt BK529 hg; have NB593_529 := ngt BK529 hg; replace BK529 := bkz BK529 hb; have NB530_593 := nlt BK530 hg; have NB593_530 := ngt BK530 hg; replace BK530 := bkz BK530 hb; have NB534_593 := nlt BK534 hg; have NB593_534 := ngt BK534 hg; replace BK534 := bkz BK534 hb; have NB538_593 := nlt BK538 hg; have NB593_538 := ngt BK538 hg; replace BK538 := bkz BK538 hb; have NB545_593 := nlt BK545 hg; have NB593_545 := ngt BK545 hg; replace BK545 := bkz BK545 hb; have NB551_593 := nlt BK551 hg; have NB593_551 := ngt BK551 hg; replace BK551 := bkz BK551 hb; have NB554_593 := nlt BK554 hg; have NB593_554 := ngt BK554 hg; replace BK554 := bkz BK554 hb; have NB585_593 := nlt BK585 hg; have NB593_585 := ngt BK585 hg; replace BK585 := bkz BK585 hb; have NB589_593 := nlt BK589 hg; have NB593_589 := ngt BK589 hg; replace BK589 := bkz BK589 hb; clear hb hbox hg; have hnb403 := NB593_509.out; have hnc403 := NB509_593.out; have hnb404 := NB593_510.out; have hnc404 := NB510_593.out; have hnb405 := NB593_516.out; have hnc405 := NB516_593.out; have hnb406 := NB593_522.out; have hnc406 := NB522_593.out; have hnb407 := NB593_529.out; have hnc407 := NB529_593.out; have hnb408 := NB593_530.out; have hnc408 := NB530_593.out; have hnb409 := NB593_534.out; have hnc409 := NB534_593.out; have hnb410 := NB593_538.out; have hnc410 := NB538_593.out; have hnb411 := NB593_545.out; have hnc411 := NB545_593.out; have hnb412 := NB593_551.out; have hnc412 := NB551_593.out; have hnb413 := NB593_554.out; have hnc413 := NB554_593.out; have hnb414 := NB593_585.out; have hnc414 := NB585_593.out; have hnb415 := NB593_589.out; have hnc415 := NB589_593.out; obtain ⟨hcz416_0, hcz416_1, hfz416_0, hfz416_1⟩ := bq2 BK593))
   go_meet
   case rel => exact ⟨_, H', ⟨by first | omega | exact Nat.le_refl _⟩, ⟨bkv⟩, ⟨bkv⟩, ⟨bkv⟩, ⟨bkv⟩, ⟨bkv⟩, ⟨bkv⟩, ⟨bkv⟩, ⟨bkv⟩, ⟨bkv⟩, ⟨bkv⟩, ⟨bkv⟩, ⟨bw_30⟩⟩
  subst c161
  rw [if_pos rfl] at H
  by_cases c162 : t592 = true
  rotate_left
  ·replace c162 := Bool.eq_false_iff.mpr c162
   subst c162
   rw [if_neg (show ¬ (false = true) by decide)] at H
   have H' := Az.mk H
   clear H
   have hnb249 := NB510_509.out
   have hnc249 := NB509_510.out
   have hnb250 := NB510_516.out
   have hnc250 := NB516_510.out
   have hnb251 := NB510_522.out
   have hnc251 := NB522_510.out
   have hnb252 := NB510_529.out
   have hnc252 := NB529_510.out
   have hnb253 := NB510_530.out
   have hnc253 := NB530_510.out
   have hnb254 := NB510_534.out
   have hnc254 := NB534_510.out
   have hnb255 := NB510_538.out
   have hnc255 := NB538_510.out
   have hnb256 := NB510_545.out
   have hnc256 := NB545_510.out
   have hnb257 := NB510_551.out
   have hnc257 := NB551_510.out
   have hnb258 := NB510_554.out
   have hnc258 := NB554_510.out
   have hcz259_0 := bkc0 BK510
   have hcz259_1 := bkc1 BK510
   have hcz259_2 := bkc2 BK510
   have hcz259_3 := bkc3 BK510
   have hfz259_0 := bkF BK510.out 0
   have hfz259_1 := bkF BK510.out 1
   have hfz259_2 := bkF BK510.out 2
   have hfz259_3 := bkF BK510.out 3
   have hnb260 := NB530_509.out
   have hnc260 := NB509_530.out
   have hnb261 := NB530_516.out
   have hnc261 := NB516_530.out
   have hnb262 := NB530_522.out
   have hnc262 := NB522_530.out
   have hnb263 := NB530_529.out
   have hnc263 := NB529_530.out
   have hnb264 := NB530_534.out
   have hnc264 := NB534_530.out
   have hnb265 := NB530_538.out
   have hnc265 := NB538_530.out
   have hnb266 := NB530_545.out
   have hnc266 := NB545_530.out
   have hnb267 := NB530_551.out
   have hnc267 := NB551_530.out
   have hnb268 := NB530_554.out
   have hnc268 := NB554_530.out
   have hcz269_0 := bkc0 BK530
   have hcz269_1 := bkc1 BK530
   have hfz269_0 := bkF BK530.out 0
   have hfz269_1 := bkF BK530.out 1
   go_wp2_with (first | ((with_reducible refine gtC (f := 13) rfl ?_); refine clz Tryd.func13 (some 180) #[.agg #[.int .i64 t505, .int .i64 t506, .int .i64 t507, .int .i64 t508], .agg #[.int .i64 t527, .int .i64 t528]] ?_; (with_reducible refine (impl_MoveSlope.calls k t505 t506 t507 t508 t527 t528 t582 t583 true _ A157.out).mono ?_); rintro e w270 ⟨rfl, hb⟩; refine ⟨_, rfl, ?_⟩; replace HO575 := Az.mk (Kd.R_below z30_0 hb); replace HO578 := Az.mk (Kd.R_below z30_1 hb); replace BK509 := bkz BK509 hb; replace BK510 := bkz BK510 hb; replace BK516 := bkz BK516 hb; replace BK522 := bkz BK522 hb; replace BK529 := bkz BK529 hb; replace BK530 := bkz BK530 hb; replace BK534 := bkz BK534 hb; replace BK538 := bkz BK538 hb; replace BK545 := bkz BK545 hb; replace BK551 := bkz BK551 hb; replace BK554 := bkz BK554 hb; replace HB := Az.mk (bwT bw_30 hb); (try clear hb)) | ((with_reducible refine gtD (N := 22) rfl ?_); (try (refine gate_guard (by rfl) ?_; dsimp only)); refine bx (N := 22) (cs := #[.int .i64 0, .int .i64 0]) (t := 35) ?_; intro gb585 hg w271 hbox hb; replace HO575 := Az.mk (Kd.R_below (Kd.R_elderB z30_0 gb585 (Nat.le_of_eq hg.symm)) hb); replace HO578 := Az.mk (Kd.R_below (Kd.R_elderB z30_1 gb585 (Nat.le_of_eq hg.symm)) hb); have BK585 := Az.mk (hbox); have GW585 := gwz hg bw_30; have GE585 := gwz hg bw_30; replace HB := Az.mk (bwT bw_30 hb); have NB509_585 := nlt BK509 hg; have NB585_509 := ngt BK509 hg; replace BK509 := bkz BK509 hb; have NB510_585 := nlt BK510 hg; have NB585_510 := ngt BK510 hg; replace BK510 := bkz BK510 hb; have NB516_585 := nlt BK516 hg; have NB585_516 := ngt BK516 hg; replace BK516 := bkz BK516 hb; have NB522_585 := nlt BK522 hg; have NB585_522 := ngt BK522 hg; replace BK522 := bkz BK522 hb; have NB529_585 := nlt BK529 hg; have NB585_529 := ngt BK529 hg; replace BK529 := bkz BK529 hb; have NB530_585 := nlt BK530 hg; have NB585_530 := ngt BK530 hg; replace BK530 := bkz BK530 hb; have NB534_585 := nlt BK534 hg; have NB585_534 := ngt BK534 hg; replace BK534 := bkz BK534 hb; have NB538_585 := nlt BK538 hg; have NB585_538 := ngt BK538 hg; replace BK538 := bkz BK538 hb; have NB545_585 := nlt BK545 hg; have NB585_545 := ngt BK545 hg; replace BK545 := bkz BK545 hb; have NB551_585 := nlt BK551 hg; have NB585_551 := ngt BK551 hg; replace BK551 := bkz BK551 hb; have NB554_585 := nlt BK554 hg; have NB585_554 := ngt BK554 hg; replace BK554 := bkz BK554 hb; clear hb hbox hg; have hnb272 := NB585_509.out; have hnc272 := NB509_585.out; have hnb273 := NB585_510.out; have hnc273 := NB510_585.out; have hnb274 := NB585_516.out; have hnc274 := NB516_585.out; have hnb275 := NB585_522.out; have hnc275 := NB522_585.out; have hnb276 := NB585_529.out; have hnc276 := NB529_585.out; have hnb277 := NB585_530.out; have hnc277 := NB530_585.out; have hnb278 := NB585_534.out; have hnc278 := NB534_585.out; have hnb279 := NB585_538.out; have hnc279 := NB538_585.out; have hnb280 := NB585_545.out; have hnc280 := NB545_585.out; have hnb281 := NB585_551.out; have hnc281 := NB551_585.out; have hnb282 := NB585_554.out; have hnc282 := NB554_585.out; obtain ⟨hcz283_0, hcz283_1, hfz283_0, hfz283_1⟩ := bq2 BK585; have hnb284 := NB509_516.out; have hnc284 := NB516_509.out; have hnb285 := NB509_522.out; have hnc285 := NB522_509.out; have hnb286 := NB509_529.out; have hnc286 := NB529_509.out; have hnb287 := NB509_534.out; have hnc287 := NB534_509.out; have hnb288 := NB509_538.out; have hnc288 := NB538_509.out; have hnb289 := NB509_545.out; have hnc289 := NB545_509.out; have hnb290 := NB509_551.out; have hnc290 := NB551_509.out; have hnb291 := NB509_554.out; have hnc291 := NB554_509.out; obtain ⟨hcz292_0, hcz292_1, hcz292_2, hcz292_3, hfz292_0, hfz292_1, hfz292_2, hfz292_3⟩ := bq4 BK509) | ((with_reducible refine gtC (f := 13) rfl ?_); refine clz Tryd.func13 (some 186) #[.agg #[.int .i64 t501, .int .i64 t502, .int .i64 t503, .int .i64 t504], .agg #[.int .i64 t582, .int .i64 t583]] ?_; (with_reducible refine (impl_MoveSlope.calls k t501 t502 t503 t504 t582 t583 t586 t587 true _ A158.out).mono ?_); rintro e w293 ⟨rfl, hb⟩; refine ⟨_, rfl, ?_⟩; replace HO575 := Az.mk (Kd.R_below z30_2 hb); replace HO578 := Az.mk (Kd.R_below z30_3 hb); replace BK509 := Az.mk (bkB (g := gb509) (o := .cells #[.int .i64 t501, .int .i64 t502, .int .i64 t503, .int .i64 t504] 25 (0, 0)) bkv hb); replace BK510 := Az.mk (bkB (g := gb510) (o := .cells #[.int .i64 t505, .int .i64 t506, .int .i64 t507, .int .i64 t508] 25 (0, 0)) bkv hb); replace BK516 := Az.mk (bkB (g := gb516) (o := .cells #[.int .i64 t511, .int .i64 t512, .int .i64 t513, .int .i64 t514] 25 (0, 0)) bkv hb); replace BK522 := Az.mk (bkB (g := gb522) (o := .cells #[.int .i64 t517, .int .i64 t518, .int .i64 t519, .int .i64 t520] 25 (0, 0)) bkv hb); replace BK529 := Az.mk (bkB (g := gb529) (o := .cells #[.int .i64 t523, .int .i64 t524, .int .i64 t525, .int .i64 t526] 25 (0, 0)) bkv hb); replace BK530 := Az.mk (bkB (g := gb530) (o := .cells #[.int .i64 t527, .int .i64 t528] 35 (0, 0)) bkv hb); replace BK534 := Az.mk (bkB (g := gb534) (o := .cells #[.int .i64 t531, .int .i64 t532] 35 (0, 0)) bkv hb); replace BK538 := Az.mk (bkB (g := gb538) (o := .cells #[.int .i64 t535, .int .i64 t536] 35 (0, 0)) bkv hb); replace BK545 := Az.mk (bkB (g := gb545) (o := .cells #[.int .i64 t540, .int .i64 t541, .int .i64 t542, .int .i64 t543] 25 (0, 0)) bkv hb); replace BK551 := Az.mk (bkB (g := gb551) (o := .cells #[.int .i64 t546, .int .i64 t547, .int .i64 t548, .int .i64 t549] 25 (0, 0)) bkv hb); replace BK554 := Az.mk (bkB (g := gb554) (o := .cells #[.int .i64 t552, .int .i64 t553] 35 (0, 0)) bkv hb); replace BK585 := Az.mk (bkB (g := gb585) (o := .cells #[.int .i64 t582, .int .i64 t583] 35 (0, 0)) bkv hb); replace HB := Az.mk (bwT bw_30 hb); (try clear hb); (try clear hk)) | ((with_reducible refine gtD (N := 24) rfl ?_); (try (refine gate_guard (by rfl) ?_; dsimp only)); refine bx (N := 24) (cs := #[.int .i64 0, .int .i64 0]) (t := 35) ?_; intro gb589 hg w294 hbox hb; replace HO575 := Az.mk (Kd.R_below (Kd.R_elderB z30_0 gb589 (Nat.le_of_eq hg.symm)) hb); replace HO578 := Az.mk (Kd.R_below (Kd.R_elderB z30_1 gb589 (Nat.le_of_eq hg.symm)) hb); have BK589 := Az.mk (hbox); have GW589 := gwz hg bw_30; have GE589 := gwz hg bw_30; replace HB := Az.mk (bwT bw_30 hb); have NB509_589 := nlt BK509 hg; have NB589_509 := ngt BK509 hg; replace BK509 := bkz BK509 hb; have NB510_589 := nlt BK510 hg; have NB589_510 := ngt BK510 hg; replace BK510 := bkz BK510 hb; have NB516_589 := nlt BK516 hg; have NB589_516 := ngt BK516 hg; replace BK516 := bkz BK516 hb; have NB522_589 := nlt BK522 hg; have NB589_522 := ngt BK522 hg; replace BK522 := bkz BK522 hb; have NB529_589 := nlt BK529 hg; have NB589_529 := ngt BK529 hg; replace BK529 := bkz BK529 hb; have NB530_589 := nlt BK530 hg; have NB589_530 := ngt BK530 hg; replace BK530 := bkz BK530 hb; have NB534_589 := nlt BK534 hg; have NB589_534 := ngt BK534 hg; replace BK534 := bkz BK534 hb; have NB538_589 := nlt BK538 hg; have NB589_538 := ngt BK538 hg; replace BK538 := bkz BK538 hb; have NB545_589 := nlt BK545 hg; have NB589_545 := ngt BK545 hg; replace BK545 := bkz BK545 hb; have NB551_589 := nlt BK551 hg; have NB589_551 := ngt BK551 hg; replace BK551 := bkz BK551 hb; have NB554_589 := nlt BK554 hg; have NB589_554 := ngt BK554 hg; replace BK554 := bkz BK554 hb; have NB585_589 := nlt BK585 hg; have NB589_585 := ngt BK585 hg; replace BK585 := bkz BK585 hb; clear hb hbox hg; have hnb295 := NB589_509.out; have hnc295 := NB509_589.out; have hnb296 := NB589_510.out; have hnc296 := NB510_589.out; have hnb297 := NB589_516.out; have hnc297 := NB516_589.out; have hnb298 := NB589_522.out; have hnc298 := NB522_589.out; have hnb299 := NB589_529.out; have hnc299 := NB529_589.out; have hnb300 := NB589_530.out; have hnc300 := NB530_589.out; have hnb301 := NB589_534.out; have hnc301 := NB534_589.out; have hnb302 := NB589_538.out; have hnc302 := NB538_589.out; have hnb303 := NB589_545.out; have hnc303 := NB545_589.out; have hnb304 := NB589_551.out; have hnc304 := NB551_589.out; have hnb305 := NB589_554.out; have hnc305 := NB554_589.out; have hnb306 := NB589_585.out; have hnc306 := NB585_589.out; obtain ⟨hcz307_0, hcz307_1, hfz307_0, hfz307_1⟩ := bq2 BK589; have hnb308 := NB516_522.out; have hnc308 := NB522_516.out; have hnb309 := NB516_529.out; have hnc309 := NB529_516.out; have hnb310 := NB516_534.out; have hnc310 := NB534_516.out; have hnb311 := NB516_538.out; have hnc311 := NB538_516.out; have hnb312 := NB516_545.out; have hnc312 := NB545_516.out; have hnb313 := NB516_551.out; have hnc313 := NB551_516.out; have hnb314 := NB516_554.out; have hnc314 := NB554_516.out; obtain ⟨hcz315_0, hcz315_1, hcz315_2, hcz315_3, hfz315_0, hfz315_1, hfz315_2, hfz315_3⟩ := bq4 BK516; obtain ⟨hcz316_0, hcz316_1, hfz316_0, hfz316_1⟩ := bq2 BK530) | ((with_reducible refine gtC (f := 13) rfl ?_); refine clz Tryd.func13 (some 192) #[.agg #[.int .i64 t511, .int .i64 t512, .int .i64 t513, .int .i64 t514], .agg #[.int .i64 t527, .int .i64 t528]] ?_; (with_reducible refine (impl_MoveSlope.calls k t511 t512 t513 t514 t527 t528 t590 t591 false _ A159.out).mono ?_); rintro e w317 ⟨rfl, hb⟩; refine ⟨_, rfl, ?_⟩; replace HO575 := Az.mk (Kd.R_below z30_4 hb); replace HO578 := Az.mk (Kd.R_below z30_5 hb); replace BK509 := Az.mk (bkB (g := gb509) (o := .cells #[.int .i64 t501, .int .i64 t502, .int .i64 t503, .int .i64 t504] 25 (0, 0)) bkv hb); replace BK510 := Az.mk (bkB (g := gb510) (o := .cells #[.int .i64 t505, .int .i64 t506, .int .i64 t507, .int .i64 t508] 25 (0, 0)) bkv hb); replace BK516 := Az.mk (bkB (g := gb516) (o := .cells #[.int .i64 t511, .int .i64 t512, .int .i64 t513, .int .i64 t514] 25 (0, 0)) bkv hb); replace BK522 := Az.mk (bkB (g := gb522) (o := .cells #[.int .i64 t517, .int .i64 t518, .int .i64 t519, .int .i64 t520] 25 (0, 0)) bkv hb); replace BK529 := Az.mk (bkB (g := gb529) (o := .cells #[.int .i64 t523, .int .i64 t524, .int .i64 t525, .int .i64 t526] 25 (0, 0)) bkv hb); replace BK530 := Az.mk (bkB (g := gb530) (o := .cells #[.int .i64 t527, .int .i64 t528] 35 (0, 0)) bkv hb); replace BK534 := Az.mk (bkB (g := gb534) (o := .cells #[.int .i64 t531, .int .i64 t532] 35 (0, 0)) bkv hb); replace BK538 := Az.mk (bkB (g := gb538) (o := .cells #[.int .i64 t535, .int .i64 t536] 35 (0, 0)) bkv hb); replace BK545 := Az.mk (bkB (g := gb545) (o := .cells #[.int .i64 t540, .int .i64 t541, .int .i64 t542, .int .i64 t543] 25 (0, 0)) bkv hb); replace BK551 := Az.mk (bkB (g := gb551) (o := .cells #[.int .i64 t546, .int .i64 t547, .int .i64 t548, .int .i64 t549] 25 (0, 0)) bkv hb); replace BK554 := Az.mk (bkB (g := gb554) (o := .cells #[.int .i64 t552, .int .i64 t553] 35 (0, 0)) bkv hb); replace BK585 := Az.mk (bkB (g := gb585) (o := .cells #[.int .i64 t582, .int .i64 t583] 35 (0, 0)) bkv hb); replace BK589 := Az.mk (bkB (g := gb589) (o := .cells #[.int .i64 t586, .int .i64 t587] 35 (0, 0)) bkv hb); replace HB := Az.mk (bwT bw_30 hb); (try clear hb); (try clear hk)) | ((with_reducible refine gtD (N := 26) rfl ?_); (try (refine gate_guard (by rfl) ?_; dsimp only)); refine bx (N := 26) (cs := #[.int .i64 0, .int .i64 0]) (t := 35) ?_; intro gb593 hg w318 hbox hb; replace HO575 := Az.mk (Kd.R_below (Kd.R_elderB z30_0 gb593 (Nat.le_of_eq hg.symm)) hb); replace HO578 := Az.mk (Kd.R_below (Kd.R_elderB z30_1 gb593 (Nat.le_of_eq hg.symm)) hb); have BK593 := Az.mk (hbox); have GW593 := gwz hg bw_30; have GE593 := gwz hg bw_30; replace HB := Az.mk (bwT bw_30 hb); have NB509_593 := nlt BK509 hg; have NB593_509 := ngt BK509 hg; replace BK509 := bkz BK509 hb; have NB510_593 := nlt BK510 hg; have NB593_510 := ngt BK510 hg; replace BK510 := bkz BK510 hb; have NB516_593 := nlt BK516 hg; have NB593_516 := ngt BK516 hg; replace BK516 := bkz BK516 hb; have NB522_593 := nlt BK522 hg; have NB593_522 := ngt BK522 hg; replace BK522 := bkz BK522 hb; have NB529_593 := nlt BK529 hg; have NB593_529 := ngt BK529 hg; replace BK529 := bkz BK529 hb; have NB530_593 := nlt BK530 hg; have NB593_530 := ngt BK530 hg; replace BK530 := bkz BK530 hb; have NB534_593 := nlt BK534 hg; have NB593_534 := ngt BK534 hg; replace BK534 := bkz BK534 hb; have NB538_593 := nlt BK538 hg; have NB593_538 := ngt BK538 hg; replace BK538 := bkz BK538 hb; have NB545_593 := nlt BK545 hg; have NB593_545 := ngt BK545 hg; replace BK545 := bkz BK545 hb; have NB551_593 := nlt BK551 hg; have NB593_551 := ngt BK551 hg; replace BK551 := bkz BK551 hb; have NB554_593 := nlt BK554 hg; have NB593_554 := ngt BK554 hg; replace BK554 := bkz BK554 hb; have NB585_593 := nlt BK585 hg; have NB593_585 := ngt BK585 hg; replace BK585 := bkz BK585 hb; have NB589_593 := nlt BK589 hg; have NB593_589 := ngt BK589 hg; replace BK589 := bkz BK589 hb; clear hb hbox hg; have hnb319 := NB593_509.out; have hnc319 := NB509_593.out; have hnb320 := NB593_510.out; have hnc320 := NB510_593.out; have hnb321 := NB593_516.out; have hnc321 := NB516_593.out; have hnb322 := NB593_522.out; have hnc322 := NB522_593.out; have hnb323 := NB593_529.out; have hnc323 := NB529_593.out; have hnb324 := NB593_530.out; have hnc324 := NB530_593.out; have hnb325 := NB593_534.out; have hnc325 := NB534_593.out; have hnb326 := NB593_538.out; have hnc326 := NB538_593.out; have hnb327 := NB593_545.out; have hnc327 := NB545_593.out; have hnb328 := NB593_551.out; have hnc328 := NB551_593.out; have hnb329 := NB593_554.out; have hnc329 := NB554_593.out; have hnb330 := NB593_585.out; have hnc330 := NB585_593.out; have hnb331 := NB593_589.out; have hnc331 := NB589_593.out; obtain ⟨hcz332_0, hcz332_1, hfz332_0, hfz332_1⟩ := bq2 BK593))
   go_meet
   case rel => exact ⟨_, H', ⟨by first | omega | exact Nat.le_refl _⟩, ⟨bkv⟩, ⟨bkv⟩, ⟨bkv⟩, ⟨bkv⟩, ⟨bkv⟩, ⟨bkv⟩, ⟨bkv⟩, ⟨bkv⟩, ⟨bkv⟩, ⟨bkv⟩, ⟨bkv⟩, ⟨bw_30⟩⟩
  subst c162
  rw [if_pos rfl] at H
  by_cases c163 : (!(t586 == t590) || (!(t587 == t591))) = true
  ·rw [if_pos c163] at H
   exact absurd H (by simp)
  rw [if_neg c163] at H
  have c163b0 : (!(t586 == t590) || (!(t587 == t591))) = false := by simpa using c163
  clear c163
  (first | rw [c163b0] | (simp only [i64_w, i32_w]; rw [c163b0]) | skip)
  have H' := Az.mk H
  clear H
  have hnb164 := NB510_509.out
  have hnc164 := NB509_510.out
  have hnb165 := NB510_516.out
  have hnc165 := NB516_510.out
  have hnb166 := NB510_522.out
  have hnc166 := NB522_510.out
  have hnb167 := NB510_529.out
  have hnc167 := NB529_510.out
  have hnb168 := NB510_530.out
  have hnc168 := NB530_510.out
  have hnb169 := NB510_534.out
  have hnc169 := NB534_510.out
  have hnb170 := NB510_538.out
  have hnc170 := NB538_510.out
  have hnb171 := NB510_545.out
  have hnc171 := NB545_510.out
  have hnb172 := NB510_551.out
  have hnc172 := NB551_510.out
  have hnb173 := NB510_554.out
  have hnc173 := NB554_510.out
  have hcz174_0 := bkc0 BK510
  have hcz174_1 := bkc1 BK510
  have hcz174_2 := bkc2 BK510
  have hcz174_3 := bkc3 BK510
  have hfz174_0 := bkF BK510.out 0
  have hfz174_1 := bkF BK510.out 1
  have hfz174_2 := bkF BK510.out 2
  have hfz174_3 := bkF BK510.out 3
  have hnb175 := NB530_509.out
  have hnc175 := NB509_530.out
  have hnb176 := NB530_516.out
  have hnc176 := NB516_530.out
  have hnb177 := NB530_522.out
  have hnc177 := NB522_530.out
  have hnb178 := NB530_529.out
  have hnc178 := NB529_530.out
  have hnb179 := NB530_534.out
  have hnc179 := NB534_530.out
  have hnb180 := NB530_538.out
  have hnc180 := NB538_530.out
  have hnb181 := NB530_545.out
  have hnc181 := NB545_530.out
  have hnb182 := NB530_551.out
  have hnc182 := NB551_530.out
  have hnb183 := NB530_554.out
  have hnc183 := NB554_530.out
  have hcz184_0 := bkc0 BK530
  have hcz184_1 := bkc1 BK530
  have hfz184_0 := bkF BK530.out 0
  have hfz184_1 := bkF BK530.out 1
  go_wp2_with (first | ((with_reducible refine gtC (f := 13) rfl ?_); refine clz Tryd.func13 (some 180) #[.agg #[.int .i64 t505, .int .i64 t506, .int .i64 t507, .int .i64 t508], .agg #[.int .i64 t527, .int .i64 t528]] ?_; (with_reducible refine (impl_MoveSlope.calls k t505 t506 t507 t508 t527 t528 t582 t583 true _ A157.out).mono ?_); rintro e w185 ⟨rfl, hb⟩; refine ⟨_, rfl, ?_⟩; replace HO575 := Az.mk (Kd.R_below z30_0 hb); replace HO578 := Az.mk (Kd.R_below z30_1 hb); replace BK509 := bkz BK509 hb; replace BK510 := bkz BK510 hb; replace BK516 := bkz BK516 hb; replace BK522 := bkz BK522 hb; replace BK529 := bkz BK529 hb; replace BK530 := bkz BK530 hb; replace BK534 := bkz BK534 hb; replace BK538 := bkz BK538 hb; replace BK545 := bkz BK545 hb; replace BK551 := bkz BK551 hb; replace BK554 := bkz BK554 hb; replace HB := Az.mk (bwT bw_30 hb); (try clear hb)) | ((with_reducible refine gtD (N := 22) rfl ?_); (try (refine gate_guard (by rfl) ?_; dsimp only)); refine bx (N := 22) (cs := #[.int .i64 0, .int .i64 0]) (t := 35) ?_; intro gb585 hg w186 hbox hb; replace HO575 := Az.mk (Kd.R_below (Kd.R_elderB z30_0 gb585 (Nat.le_of_eq hg.symm)) hb); replace HO578 := Az.mk (Kd.R_below (Kd.R_elderB z30_1 gb585 (Nat.le_of_eq hg.symm)) hb); have BK585 := Az.mk (hbox); have GW585 := gwz hg bw_30; have GE585 := gwz hg bw_30; replace HB := Az.mk (bwT bw_30 hb); have NB509_585 := nlt BK509 hg; have NB585_509 := ngt BK509 hg; replace BK509 := bkz BK509 hb; have NB510_585 := nlt BK510 hg; have NB585_510 := ngt BK510 hg; replace BK510 := bkz BK510 hb; have NB516_585 := nlt BK516 hg; have NB585_516 := ngt BK516 hg; replace BK516 := bkz BK516 hb; have NB522_585 := nlt BK522 hg; have NB585_522 := ngt BK522 hg; replace BK522 := bkz BK522 hb; have NB529_585 := nlt BK529 hg; have NB585_529 := ngt BK529 hg; replace BK529 := bkz BK529 hb; have NB530_585 := nlt BK530 hg; have NB585_530 := ngt BK530 hg; replace BK530 := bkz BK530 hb; have NB534_585 := nlt BK534 hg; have NB585_534 := ngt BK534 hg; replace BK534 := bkz BK534 hb; have NB538_585 := nlt BK538 hg; have NB585_538 := ngt BK538 hg; replace BK538 := bkz BK538 hb; have NB545_585 := nlt BK545 hg; have NB585_545 := ngt BK545 hg; replace BK545 := bkz BK545 hb; have NB551_585 := nlt BK551 hg; have NB585_551 := ngt BK551 hg; replace BK551 := bkz BK551 hb; have NB554_585 := nlt BK554 hg; have NB585_554 := ngt BK554 hg; replace BK554 := bkz BK554 hb; clear hb hbox hg; have hnb187 := NB585_509.out; have hnc187 := NB509_585.out; have hnb188 := NB585_510.out; have hnc188 := NB510_585.out; have hnb189 := NB585_516.out; have hnc189 := NB516_585.out; have hnb190 := NB585_522.out; have hnc190 := NB522_585.out; have hnb191 := NB585_529.out; have hnc191 := NB529_585.out; have hnb192 := NB585_530.out; have hnc192 := NB530_585.out; have hnb193 := NB585_534.out; have hnc193 := NB534_585.out; have hnb194 := NB585_538.out; have hnc194 := NB538_585.out; have hnb195 := NB585_545.out; have hnc195 := NB545_585.out; have hnb196 := NB585_551.out; have hnc196 := NB551_585.out; have hnb197 := NB585_554.out; have hnc197 := NB554_585.out; obtain ⟨hcz198_0, hcz198_1, hfz198_0, hfz198_1⟩ := bq2 BK585; have hnb199 := NB509_516.out; have hnc199 := NB516_509.out; have hnb200 := NB509_522.out; have hnc200 := NB522_509.out; have hnb201 := NB509_529.out; have hnc201 := NB529_509.out; have hnb202 := NB509_534.out; have hnc202 := NB534_509.out; have hnb203 := NB509_538.out; have hnc203 := NB538_509.out; have hnb204 := NB509_545.out; have hnc204 := NB545_509.out; have hnb205 := NB509_551.out; have hnc205 := NB551_509.out; have hnb206 := NB509_554.out; have hnc206 := NB554_509.out; obtain ⟨hcz207_0, hcz207_1, hcz207_2, hcz207_3, hfz207_0, hfz207_1, hfz207_2, hfz207_3⟩ := bq4 BK509) | ((with_reducible refine gtC (f := 13) rfl ?_); refine clz Tryd.func13 (some 186) #[.agg #[.int .i64 t501, .int .i64 t502, .int .i64 t503, .int .i64 t504], .agg #[.int .i64 t582, .int .i64 t583]] ?_; (with_reducible refine (impl_MoveSlope.calls k t501 t502 t503 t504 t582 t583 t586 t587 true _ A158.out).mono ?_); rintro e w208 ⟨rfl, hb⟩; refine ⟨_, rfl, ?_⟩; replace HO575 := Az.mk (Kd.R_below z30_2 hb); replace HO578 := Az.mk (Kd.R_below z30_3 hb); replace BK509 := Az.mk (bkB (g := gb509) (o := .cells #[.int .i64 t501, .int .i64 t502, .int .i64 t503, .int .i64 t504] 25 (0, 0)) bkv hb); replace BK510 := Az.mk (bkB (g := gb510) (o := .cells #[.int .i64 t505, .int .i64 t506, .int .i64 t507, .int .i64 t508] 25 (0, 0)) bkv hb); replace BK516 := Az.mk (bkB (g := gb516) (o := .cells #[.int .i64 t511, .int .i64 t512, .int .i64 t513, .int .i64 t514] 25 (0, 0)) bkv hb); replace BK522 := Az.mk (bkB (g := gb522) (o := .cells #[.int .i64 t517, .int .i64 t518, .int .i64 t519, .int .i64 t520] 25 (0, 0)) bkv hb); replace BK529 := Az.mk (bkB (g := gb529) (o := .cells #[.int .i64 t523, .int .i64 t524, .int .i64 t525, .int .i64 t526] 25 (0, 0)) bkv hb); replace BK530 := Az.mk (bkB (g := gb530) (o := .cells #[.int .i64 t527, .int .i64 t528] 35 (0, 0)) bkv hb); replace BK534 := Az.mk (bkB (g := gb534) (o := .cells #[.int .i64 t531, .int .i64 t532] 35 (0, 0)) bkv hb); replace BK538 := Az.mk (bkB (g := gb538) (o := .cells #[.int .i64 t535, .int .i64 t536] 35 (0, 0)) bkv hb); replace BK545 := Az.mk (bkB (g := gb545) (o := .cells #[.int .i64 t540, .int .i64 t541, .int .i64 t542, .int .i64 t543] 25 (0, 0)) bkv hb); replace BK551 := Az.mk (bkB (g := gb551) (o := .cells #[.int .i64 t546, .int .i64 t547, .int .i64 t548, .int .i64 t549] 25 (0, 0)) bkv hb); replace BK554 := Az.mk (bkB (g := gb554) (o := .cells #[.int .i64 t552, .int .i64 t553] 35 (0, 0)) bkv hb); replace BK585 := Az.mk (bkB (g := gb585) (o := .cells #[.int .i64 t582, .int .i64 t583] 35 (0, 0)) bkv hb); replace HB := Az.mk (bwT bw_30 hb); (try clear hb); (try clear hk)) | ((with_reducible refine gtD (N := 24) rfl ?_); (try (refine gate_guard (by rfl) ?_; dsimp only)); refine bx (N := 24) (cs := #[.int .i64 0, .int .i64 0]) (t := 35) ?_; intro gb589 hg w209 hbox hb; replace HO575 := Az.mk (Kd.R_below (Kd.R_elderB z30_0 gb589 (Nat.le_of_eq hg.symm)) hb); replace HO578 := Az.mk (Kd.R_below (Kd.R_elderB z30_1 gb589 (Nat.le_of_eq hg.symm)) hb); have BK589 := Az.mk (hbox); have GW589 := gwz hg bw_30; have GE589 := gwz hg bw_30; replace HB := Az.mk (bwT bw_30 hb); have NB509_589 := nlt BK509 hg; have NB589_509 := ngt BK509 hg; replace BK509 := bkz BK509 hb; have NB510_589 := nlt BK510 hg; have NB589_510 := ngt BK510 hg; replace BK510 := bkz BK510 hb; have NB516_589 := nlt BK516 hg; have NB589_516 := ngt BK516 hg; replace BK516 := bkz BK516 hb; have NB522_589 := nlt BK522 hg; have NB589_522 := ngt BK522 hg; replace BK522 := bkz BK522 hb; have NB529_589 := nlt BK529 hg; have NB589_529 := ngt BK529 hg; replace BK529 := bkz BK529 hb; have NB530_589 := nlt BK530 hg; have NB589_530 := ngt BK530 hg; replace BK530 := bkz BK530 hb; have NB534_589 := nlt BK534 hg; have NB589_534 := ngt BK534 hg; replace BK534 := bkz BK534 hb; have NB538_589 := nlt BK538 hg; have NB589_538 := ngt BK538 hg; replace BK538 := bkz BK538 hb; have NB545_589 := nlt BK545 hg; have NB589_545 := ngt BK545 hg; replace BK545 := bkz BK545 hb; have NB551_589 := nlt BK551 hg; have NB589_551 := ngt BK551 hg; replace BK551 := bkz BK551 hb; have NB554_589 := nlt BK554 hg; have NB589_554 := ngt BK554 hg; replace BK554 := bkz BK554 hb; have NB585_589 := nlt BK585 hg; have NB589_585 := ngt BK585 hg; replace BK585 := bkz BK585 hb; clear hb hbox hg; have hnb210 := NB589_509.out; have hnc210 := NB509_589.out; have hnb211 := NB589_510.out; have hnc211 := NB510_589.out; have hnb212 := NB589_516.out; have hnc212 := NB516_589.out; have hnb213 := NB589_522.out; have hnc213 := NB522_589.out; have hnb214 := NB589_529.out; have hnc214 := NB529_589.out; have hnb215 := NB589_530.out; have hnc215 := NB530_589.out; have hnb216 := NB589_534.out; have hnc216 := NB534_589.out; have hnb217 := NB589_538.out; have hnc217 := NB538_589.out; have hnb218 := NB589_545.out; have hnc218 := NB545_589.out; have hnb219 := NB589_551.out; have hnc219 := NB551_589.out; have hnb220 := NB589_554.out; have hnc220 := NB554_589.out; have hnb221 := NB589_585.out; have hnc221 := NB585_589.out; obtain ⟨hcz222_0, hcz222_1, hfz222_0, hfz222_1⟩ := bq2 BK589; have hnb223 := NB516_522.out; have hnc223 := NB522_516.out; have hnb224 := NB516_529.out; have hnc224 := NB529_516.out; have hnb225 := NB516_534.out; have hnc225 := NB534_516.out; have hnb226 := NB516_538.out; have hnc226 := NB538_516.out; have hnb227 := NB516_545.out; have hnc227 := NB545_516.out; have hnb228 := NB516_551.out; have hnc228 := NB551_516.out; have hnb229 := NB516_554.out; have hnc229 := NB554_516.out; obtain ⟨hcz230_0, hcz230_1, hcz230_2, hcz230_3, hfz230_0, hfz230_1, hfz230_2, hfz230_3⟩ := bq4 BK516; obtain ⟨hcz231_0, hcz231_1, hfz231_0, hfz231_1⟩ := bq2 BK530) | ((with_reducible refine gtC (f := 13) rfl ?_); refine clz Tryd.func13 (some 192) #[.agg #[.int .i64 t511, .int .i64 t512, .int .i64 t513, .int .i64 t514], .agg #[.int .i64 t527, .int .i64 t528]] ?_; (with_reducible refine (impl_MoveSlope.calls k t511 t512 t513 t514 t527 t528 t590 t591 true _ A159.out).mono ?_); rintro e w232 ⟨rfl, hb⟩; refine ⟨_, rfl, ?_⟩; replace HO575 := Az.mk (Kd.R_below z30_4 hb); replace HO578 := Az.mk (Kd.R_below z30_5 hb); replace BK509 := Az.mk (bkB (g := gb509) (o := .cells #[.int .i64 t501, .int .i64 t502, .int .i64 t503, .int .i64 t504] 25 (0, 0)) bkv hb); replace BK510 := Az.mk (bkB (g := gb510) (o := .cells #[.int .i64 t505, .int .i64 t506, .int .i64 t507, .int .i64 t508] 25 (0, 0)) bkv hb); replace BK516 := Az.mk (bkB (g := gb516) (o := .cells #[.int .i64 t511, .int .i64 t512, .int .i64 t513, .int .i64 t514] 25 (0, 0)) bkv hb); replace BK522 := Az.mk (bkB (g := gb522) (o := .cells #[.int .i64 t517, .int .i64 t518, .int .i64 t519, .int .i64 t520] 25 (0, 0)) bkv hb); replace BK529 := Az.mk (bkB (g := gb529) (o := .cells #[.int .i64 t523, .int .i64 t524, .int .i64 t525, .int .i64 t526] 25 (0, 0)) bkv hb); replace BK530 := Az.mk (bkB (g := gb530) (o := .cells #[.int .i64 t527, .int .i64 t528] 35 (0, 0)) bkv hb); replace BK534 := Az.mk (bkB (g := gb534) (o := .cells #[.int .i64 t531, .int .i64 t532] 35 (0, 0)) bkv hb); replace BK538 := Az.mk (bkB (g := gb538) (o := .cells #[.int .i64 t535, .int .i64 t536] 35 (0, 0)) bkv hb); replace BK545 := Az.mk (bkB (g := gb545) (o := .cells #[.int .i64 t540, .int .i64 t541, .int .i64 t542, .int .i64 t543] 25 (0, 0)) bkv hb); replace BK551 := Az.mk (bkB (g := gb551) (o := .cells #[.int .i64 t546, .int .i64 t547, .int .i64 t548, .int .i64 t549] 25 (0, 0)) bkv hb); replace BK554 := Az.mk (bkB (g := gb554) (o := .cells #[.int .i64 t552, .int .i64 t553] 35 (0, 0)) bkv hb); replace BK585 := Az.mk (bkB (g := gb585) (o := .cells #[.int .i64 t582, .int .i64 t583] 35 (0, 0)) bkv hb); replace BK589 := Az.mk (bkB (g := gb589) (o := .cells #[.int .i64 t586, .int .i64 t587] 35 (0, 0)) bkv hb); replace HB := Az.mk (bwT bw_30 hb); (try clear hb); (try clear hk)) | ((with_reducible refine gtD (N := 26) rfl ?_); (try (refine gate_guard (by rfl) ?_; dsimp only)); refine bx (N := 26) (cs := #[.int .i64 0, .int .i64 0]) (t := 35) ?_; intro gb593 hg w233 hbox hb; replace HO575 := Az.mk (Kd.R_below (Kd.R_elderB z30_0 gb593 (Nat.le_of_eq hg.symm)) hb); replace HO578 := Az.mk (Kd.R_below (Kd.R_elderB z30_1 gb593 (Nat.le_of_eq hg.symm)) hb); have BK593 := Az.mk (hbox); have GW593 := gwz hg bw_30; have GE593 := gwz hg bw_30; replace HB := Az.mk (bwT bw_30 hb); have NB509_593 := nlt BK509 hg; have NB593_509 := ngt BK509 hg; replace BK509 := bkz BK509 hb; have NB510_593 := nlt BK510 hg; have NB593_510 := ngt BK510 hg; replace BK510 := bkz BK510 hb; have NB516_593 := nlt BK516 hg; have NB593_516 := ngt BK516 hg; replace BK516 := bkz BK516 hb; have NB522_593 := nlt BK522 hg; have NB593_522 := ngt BK522 hg; replace BK522 := bkz BK522 hb; have NB529_593 := nlt BK529 hg; have NB593_529 := ngt BK529 hg; replace BK529 := bkz BK529 hb; have NB530_593 := nlt BK530 hg; have NB593_530 := ngt BK530 hg; replace BK530 := bkz BK530 hb; have NB534_593 := nlt BK534 hg; have NB593_534 := ngt BK534 hg; replace BK534 := bkz BK534 hb; have NB538_593 := nlt BK538 hg; have NB593_538 := ngt BK538 hg; replace BK538 := bkz BK538 hb; have NB545_593 := nlt BK545 hg; have NB593_545 := ngt BK545 hg; replace BK545 := bkz BK545 hb; have NB551_593 := nlt BK551 hg; have NB593_551 := ngt BK551 hg; replace BK551 := bkz BK551 hb; have NB554_593 := nlt BK554 hg; have NB593_554 := ngt BK554 hg; replace BK554 := bkz BK554 hb; have NB585_593 := nlt BK585 hg; have NB593_585 := ngt BK585 hg; replace BK585 := bkz BK585 hb; have NB589_593 := nlt BK589 hg; have NB593_589 := ngt BK589 hg; replace BK589 := bkz BK589 hb; clear hb hbox hg; have hnb234 := NB593_509.out; have hnc234 := NB509_593.out; have hnb235 := NB593_510.out; have hnc235 := NB510_593.out; have hnb236 := NB593_516.out; have hnc236 := NB516_593.out; have hnb237 := NB593_522.out; have hnc237 := NB522_593.out; have hnb238 := NB593_529.out; have hnc238 := NB529_593.out; have hnb239 := NB593_530.out; have hnc239 := NB530_593.out; have hnb240 := NB593_534.out; have hnc240 := NB534_593.out; have hnb241 := NB593_538.out; have hnc241 := NB538_593.out; have hnb242 := NB593_545.out; have hnc242 := NB545_593.out; have hnb243 := NB593_551.out; have hnc243 := NB551_593.out; have hnb244 := NB593_554.out; have hnc244 := NB554_593.out; have hnb245 := NB593_585.out; have hnc245 := NB585_593.out; have hnb246 := NB593_589.out; have hnc246 := NB589_593.out; obtain ⟨hcz247_0, hcz247_1, hfz247_0, hfz247_1⟩ := bq2 BK593; obtain ⟨hcz248_0, hcz248_1, hfz248_0, hfz248_1⟩ := bq2 BK589))
  go_meet
  case rel => exact ⟨_, H', ⟨by first | omega | exact Nat.le_refl _⟩, ⟨bkv⟩, ⟨bkv⟩, ⟨bkv⟩, ⟨bkv⟩, ⟨bkv⟩, ⟨bkv⟩, ⟨bkv⟩, ⟨bkv⟩, ⟨bkv⟩, ⟨bkv⟩, ⟨bkv⟩, ⟨bw_30⟩⟩
 clear HC45
 try clear c156
 try clear c160
 try clear c161
 try clear c162
 try clear c163
 try clear c163b0
 try clear hcz174_0
 try clear hcz174_1
 try clear hcz174_2
 try clear hcz174_3
 try clear hcz184_0
 try clear hcz184_1
 try clear hcz198_0
 try clear hcz198_1
 try clear hcz207_0
 try clear hcz207_1
 try clear hcz207_2
 try clear hcz207_3
 try clear hcz222_0
 try clear hcz222_1
 try clear hcz230_0
 try clear hcz230_1
 try clear hcz230_2
 try clear hcz230_3
 try clear hcz231_0
 try clear hcz231_1
 try clear hcz247_0
 try clear hcz247_1
 try clear hcz248_0
 try clear hcz248_1
 try clear hcz259_0
 try clear hcz259_1
 try clear hcz259_2
 try clear hcz259_3
 try clear hcz269_0
 try clear hcz269_1
 try clear hcz283_0
 try clear hcz283_1
 try clear hcz292_0
 try clear hcz292_1
 try clear hcz292_2
 try clear hcz292_3
 try clear hcz307_0
 try clear hcz307_1
 try clear hcz315_0
 try clear hcz315_1
 try clear hcz315_2
 try clear hcz315_3
 try clear hcz316_0
 try clear hcz316_1
 try clear hcz332_0
 try clear hcz332_1
 try clear hcz343_0
 try clear hcz343_1
 try clear hcz343_2
 try clear hcz343_3
 try clear hcz353_0
 try clear hcz353_1
 try clear hcz367_0
 try clear hcz367_1
 try clear hcz376_0
 try clear hcz376_1
 try clear hcz376_2
 try clear hcz376_3
 try clear hcz391_0
 try clear hcz391_1
 try clear hcz399_0
 try clear hcz399_1
 try clear hcz399_2
 try clear hcz399_3
 try clear hcz400_0
 try clear hcz400_1
 try clear hcz416_0
 try clear hcz416_1
 try clear hcz427_0
 try clear hcz427_1
 try clear hcz427_2
 try clear hcz427_3
 try clear hcz437_0
 try clear hcz437_1
 try clear hcz451_0
 try clear hcz451_1
 try clear hcz460_0
 try clear hcz460_1
 try clear hcz460_2
 try clear hcz460_3
 try clear hcz475_0
 try clear hcz475_1
 try clear hcz483_0
 try clear hcz483_1
 try clear hcz483_2
 try clear hcz483_3
 try clear hcz484_0
 try clear hcz484_1
 try clear hcz500_0
 try clear hcz500_1
 try clear hfz174_0
 try clear hfz174_1
 try clear hfz174_2
 try clear hfz174_3
 try clear hfz184_0
 try clear hfz184_1
 try clear hfz198_0
 try clear hfz198_1
 try clear hfz207_0
 try clear hfz207_1
 try clear hfz207_2
 try clear hfz207_3
 try clear hfz222_0
 try clear hfz222_1
 try clear hfz230_0
 try clear hfz230_1
 try clear hfz230_2
 try clear hfz230_3
 try clear hfz231_0
 try clear hfz231_1
 try clear hfz247_0
 try clear hfz247_1
 try clear hfz248_0
 try clear hfz248_1
 try clear hfz259_0
 try clear hfz259_1
 try clear hfz259_2
 try clear hfz259_3
 try clear hfz269_0
 try clear hfz269_1
 try clear hfz283_0
 try clear hfz283_1
 try clear hfz292_0
 try clear hfz292_1
 try clear hfz292_2
 try clear hfz292_3
 try clear hfz307_0
 try clear hfz307_1
 try clear hfz315_0
 try clear hfz315_1
 try clear hfz315_2
 try clear hfz315_3
 try clear hfz316_0
 try clear hfz316_1
 try clear hfz332_0
 try clear hfz332_1
 try clear hfz343_0
 try clear hfz343_1
 try clear hfz343_2
 try clear hfz343_3
 try clear hfz353_0
 try clear hfz353_1
 try clear hfz367_0
 try clear hfz367_1
 try clear hfz376_0
 try clear hfz376_1
 try clear hfz376_2
 try clear hfz376_3
 try clear hfz391_0
 try clear hfz391_1
 try clear hfz399_0
 try clear hfz399_1
 try clear hfz399_2
 try clear hfz399_3
 try clear hfz400_0
 try clear hfz400_1
 try clear hfz416_0
 try clear hfz416_1
 try clear hfz427_0
 try clear hfz427_1
 try clear hfz427_2
 try clear hfz427_3
 try clear hfz437_0
 try clear hfz437_1
 try clear hfz451_0
 try clear hfz451_1
 try clear hfz460_0
 try clear hfz460_1
 try clear hfz460_2
 try clear hfz460_3
 try clear hfz475_0
 try clear hfz475_1
 try clear hfz483_0
 try clear hfz483_1
 try clear hfz483_2
 try clear hfz483_3
 try clear hfz484_0
 try clear hfz484_1
 try clear hfz500_0
 try clear hfz500_1
 obtain ⟨kq, HA, HJ44, BK509, BK510, BK516, BK522, BK529, BK530, BK534, BK538, BK545, BK551, BK554, HB⟩ := hcut
 cases kq with
 | zero => exact absurd HA.out (by simp [laws_FnMatrices.j0])
 | succ kj44 =>
  have H := HA.out
  clear HA
  simp only [laws_FnMatrices.j0] at H
  have HC501 := Az.mk H
  clear H
  rename_i Kt at_
  have AT := Az.mk at_
  clear at_
  exact AT.out _ _ (laws_FnMatrices.p22 k A0 c0 l0 r w HT t501 t502 t503 t504 t505 t506 t507 t508 t511 t512 t513 t514 t515 t517 t518 t519 t520 t521 t523 t524 t525 t526 t527 t528 t531 t532 t533 t535 t536 t537 t539 t540 t541 t542 t543 t544 t546 t547 t548 t549 t550 t552 t553 t555 gb509 GE509 gb510 GE510 NB509_510 NB510_509 gb516 GE516 NB509_516 NB516_509 gb522 GE522 NB509_522 NB522_509 gb529 GE529 NB509_529 NB529_509 gb530 GE530 NB509_530 NB530_509 NB510_530 NB530_510 NB516_530 NB530_516 NB522_530 NB530_522 NB529_530 NB530_529 gb534 GE534 NB509_534 NB534_509 NB530_534 NB534_530 gb538 GE538 NB509_538 NB538_509 NB530_538 NB538_530 gb545 GE545 NB509_545 NB545_509 NB530_545 NB545_530 gb551 GE551 NB509_551 NB551_509 NB530_551 NB551_530 gb554 GE554 NB509_554 NB554_509 NB510_554 NB554_510 NB516_554 NB554_516 NB522_554 NB554_522 NB529_554 NB554_529 NB530_554 NB554_530 NB534_554 NB554_534 NB538_554 NB554_538 NB545_554 NB554_545 NB551_554 NB554_551 wc u2 u22 u23 u24 u25 u26 u27 u40 u41 u42 u43 u44 u45 u46 u47 u48 u49 u50 u51 u52 u53 u54 u55 u56 u57 u58 u59 u60 u61 u62 u63 u64 u65 u66 u67 u68 u69 u70 u71 u72 u73 u74 u75 u76 u77 u78 u79 u80 u81 u82 u83 u84 u85 u86 u87 u88 u89 u90 u91 u92 u93 u94 u95 u96 u97 u98 u99 u100 u101 u102 u103 u104 u105 u106 u107 u108 u109 u110 u111 u112 u113 u114 u115 u116 u117 u118 u119 u120 u121 u122 u123 u124 u125 u126 u127 u128 u129 u130 u131 u132 u133 u134 u135 u136 u137 u138 u139 u140 u141 u142 u143 u144 u145 u146 u147 u148 u149 u150 u151 u152 u153 u154 u155 u156 u157 u158 u159 u160 u161 u162 u163 u164 u165 u166 u167 u168 u169 u170 u171 u172 u173 u174 u175 u176 u177 u178 u179 u180 u181 u182 u183 u184 u185 u186 u187 u188 u189 u190 u191 u192 u193 u194 u195 u196 u197 u198 u199 u200 u201 u202 u203 u204 u205 u206 u207 u208 u209 u210 u211 u212 u213 u214 u215 u216 u217 u218 u219 u220 u221 u222 u223 u224 u225 u226 u227 u228 u229 u230 u231 u232 u233 u234 u235 u236 u237 u238 u239 u240 u241 u242 u243 u244 u245 u246 u247 u248 u249 u250 u251 u252 u253 u254 u255 u256 u257 u258 u259 u260 u261 u262 u263 u264 u265 u266 u267 u268 u269 u270 u271 u272 u273 u274 u275 u276 u277 u278 u279 u280 u281 u282 u283 u284 u285 u286 u287 u288 u289 u290 u291 u292 u293 u294 u295 u296 u297 u298 u299 u300 u301 u302 u303 u304 u305 u306 u307 u308 u309 u310 u311 u312 u313 u314 u315 u316 u317 u318 BK509 BK510 BK516 BK522 BK529 BK530 BK534 BK538 BK545 BK551 BK554 HB kj44 HJ44 HC501)
end Go.Proofs.YtnoiijdffdpabaaDoor.P

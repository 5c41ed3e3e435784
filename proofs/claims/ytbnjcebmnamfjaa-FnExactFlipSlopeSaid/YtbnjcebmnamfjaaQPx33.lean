-- By this session's driver (wip/tools/mk.py) of the kit's print program, over several statements at once. Not trusted: Lean checks it.
import Derived.Test.YtbnjcebmnamfjaaQPx0
import Derived.Test.YtbnjcebmnamfjaaQPx2
namespace Go.Proofs.Ytbnjcebmnamfjaa.P
open Go.RowKit Go.Proofs.YtbnjcebmnamfjaaW.PrintWords Go.Proofs.YtbnjcebmnamfjaaW.PrintLast Go.Proofs.YtbnjcebmnamfjaaW.PrintMore
attribute [local go_sem] max2_int min2_int max_two min_two max_three min_three max_four min_four   -- for this text's walks alone
set_option linter.unusedVariables false
set_option linter.unusedSimpArgs false

/-! ### spec_TurnsTo: function 67 -/
mutual
def spec_TurnsTo.j0 : Nat → ByteArray → Bool → Int → Int → Option (ByteArray)
 | 0, _, _, _, _ => none
 | k + 1, x3, x16, x626000, x626001 => if x16 = true then (some x3) else (spec_TurnsTo.l0 k x3 x626000 x626001)
def spec_TurnsTo.l0 : Nat → ByteArray → Int → Int → Option (ByteArray)
 | 0, _, _, _ => none
 | k + 1, x3, x626000, x626001 => if x626000 = x626001 then (if (x3.size : Int) > 24 then (some (⟨#[]⟩ : ByteArray)) else (some x3)) else (if x626000 > x626001 then (if x3.size + 1 ≤ 9223372036854775807 then (spec_TurnsTo.l0 k (x3 ++ (⟨#[82]⟩ : ByteArray)) (wrap64 (x626000 - x626001)) x626001) else (none)) else (if x3.size + 1 ≤ 9223372036854775807 then (spec_TurnsTo.l0 k (x3 ++ (⟨#[76]⟩ : ByteArray)) x626000 (wrap64 (x626001 - x626000))) else (none)))
end
def spec_TurnsTo.f (k : Nat) (a0_0 : Int) (a0_1 : Int) : Option (ByteArray) := (spec_IsSlope.f k a0_0 a0_1).bind fun t626 => (if t626 = true then (if a0_0 < 1 then (spec_TurnsTo.j0 k (⟨#[]⟩ : ByteArray) true a0_0 a0_1) else (spec_TurnsTo.j0 k (⟨#[]⟩ : ByteArray) (decide (a0_1 < 1)) a0_0 a0_1)) else (spec_TurnsTo.j0 k (⟨#[]⟩ : ByteArray) true a0_0 a0_1))
theorem spec_TurnsTo.mono_l : ∀ k, (∀ y0 y1 y2 y3, LeO (spec_TurnsTo.j0 k y0 y1 y2 y3) (spec_TurnsTo.j0 (k + 1) y0 y1 y2 y3)) ∧ (∀ y0 y1 y2, LeO (spec_TurnsTo.l0 k y0 y1 y2) (spec_TurnsTo.l0 (k + 1) y0 y1 y2))
 | 0 => ⟨fun _ _ _ _ r h => by simp [spec_TurnsTo.j0] at h, fun _ _ _ r h => by simp [spec_TurnsTo.l0] at h⟩
 | k + 1 => by
  obtain ⟨ih0, ih1⟩ := spec_TurnsTo.mono_l k
  refine ⟨?_, ?_⟩
  ·intro y0 y1 y2 y3
   unfold spec_TurnsTo.j0
   repeat' first
   | (with_reducible exact ih0 _ _ _ _)
   | (with_reducible exact ih1 _ _ _)
   | (with_reducible exact spec_IsSlope.mono _ _ _)
   | (with_reducible exact LeO.refl _)
   | (with_reducible exact LeO.none _)
   | (with_reducible refine LeO.ite ?_ ?_)
   | (with_reducible refine LeO.bind ?_ (fun _ => ?_))
   | exact ih0 _ _ _ _
   | exact ih1 _ _ _
   | exact spec_IsSlope.mono _ _ _
   | exact LeO.none _
   | refine LeO.ite ?_ ?_
   | refine LeO.bind ?_ (fun _ => ?_)
  ·intro y0 y1 y2
   unfold spec_TurnsTo.l0
   repeat' first
   | (with_reducible exact ih0 _ _ _ _)
   | (with_reducible exact ih1 _ _ _)
   | (with_reducible exact spec_IsSlope.mono _ _ _)
   | (with_reducible exact LeO.refl _)
   | (with_reducible exact LeO.none _)
   | (with_reducible refine LeO.ite ?_ ?_)
   | (with_reducible refine LeO.bind ?_ (fun _ => ?_))
   | exact ih0 _ _ _ _
   | exact ih1 _ _ _
   | exact spec_IsSlope.mono _ _ _
   | exact LeO.none _
   | refine LeO.ite ?_ ?_
   | refine LeO.bind ?_ (fun _ => ?_)
theorem spec_TurnsTo.mono : ∀ a0 a1 k, LeO (spec_TurnsTo.f k a0 a1) (spec_TurnsTo.f (k + 1) a0 a1) := by
 intro a0 a1 k
 obtain ⟨ih0, ih1⟩ := spec_TurnsTo.mono_l k
 unfold spec_TurnsTo.f
 repeat' first
   | (with_reducible exact ih0 _ _ _ _)
   | (with_reducible exact ih1 _ _ _)
   | (with_reducible exact spec_IsSlope.mono _ _ _)
   | (with_reducible exact LeO.refl _)
   | (with_reducible exact LeO.none _)
   | (with_reducible refine LeO.ite ?_ ?_)
   | (with_reducible refine LeO.bind ?_ (fun _ => ?_))
   | exact ih0 _ _ _ _
   | exact ih1 _ _ _
   | exact spec_IsSlope.mono _ _ _
   | exact LeO.none _
   | refine LeO.ite ?_ ?_
   | refine LeO.bind ?_ (fun _ => ?_)
set_option maxHeartbeats 8000000 in
set_option maxRecDepth 100000 in
theorem spec_TurnsTo.calls (k : Nat) (a0_0 : Int) (a0_1 : Int) (r : ByteArray) (w : World) (h : spec_TurnsTo.f k a0_0 a0_1 = some r) :
  Calls Try.prog 67 #[.agg #[.int .i64 a0_0, .int .i64 a0_1]] w fun e w' => e = .returned (.string r) ∧ Below w.heap.size w w' := by
 have hu25 := Try.underlying25
 have HB := Az.mk (Below.refl w.heap.size w)
 have H : ((spec_IsSlope.f k a0_0 a0_1).bind fun t626 => (if t626 = true then (if a0_0 < 1 then (spec_TurnsTo.j0 k (⟨#[]⟩ : ByteArray) true a0_0 a0_1) else (spec_TurnsTo.j0 k (⟨#[]⟩ : ByteArray) (decide (a0_1 < 1)) a0_0 a0_1)) else (spec_TurnsTo.j0 k (⟨#[]⟩ : ByteArray) true a0_0 a0_1))) = some r := h
 clear h
 have HC2 := Az.mk H
 clear H
 go_enter Try.func67, Try.ntmps67
 go_upto_region 2 with (first | ((with_reducible refine gtD (N := 1) rfl ?_); refine bxE ?hg (N := 1) ?hd (cs := #[.int .i64 a0_0, .int .i64 a0_1]) (t := 25) ?hr ?_; (case hd => rfl); (case hg => rfl); (case hr => first | (go_simp; done) | (go_simp; rfl)); intro gb625 hg w3 hbox hb; have n0_ := Az.mk (bwT (by repeat (first | (with_reducible first | exact HB.out | apply bwA | apply pbN | apply bwD) | exact HB.out)) hb); have n1_ := Az.mk (hbox); have n2_ := Az.mk ((by rw [hg]; exact (bwZ (by repeat (first | (with_reducible first | exact HB.out | apply bwA | apply pbN | apply bwD) | exact HB.out))) : w.heap.size ≤ gb625)); have n3_ := Az.mk ((by rw [hg]; exact (bwZ (by repeat (first | (with_reducible first | exact HB.out | apply bwA | apply pbN | apply bwD) | exact HB.out))) : w.heap.size ≤ gb625)); clear HB; have HB := n0_; have BK625 := n1_; have GW625 := n2_; have GE625 := n3_; clear n0_ n1_ n2_ n3_; clear hb hbox hg))
 (try simp only [Act.put, List.setIfInBounds_toArray, List.set_cons_zero, List.set_cons_succ])
 go_cut [16] (fun v16 wc => ∃ (kq : Nat) (x16_1 : Bool), v16 = .bool x16_1 ∧ Az (spec_TurnsTo.j0 kq (⟨#[]⟩ : ByteArray) x16_1 a0_0 a0_1 = some r) ∧ Az (kq ≤ k) ∧ Az (wc.heap[gb625]? = some (.cells #[.int .i64 a0_0, .int .i64 a0_1] 25 (0, 0))) ∧ Az (Below w.heap.size w wc))
 case first =>
  have H := HC2.out
  clear HC2
  replace H := Option.bind_eq_some_iff.mp H
  obtain ⟨t626, A40, H⟩ := H
  replace H : (if t626 = true then (if a0_0 < 1 then (spec_TurnsTo.j0 k (⟨#[]⟩ : ByteArray) true a0_0 a0_1) else (spec_TurnsTo.j0 k (⟨#[]⟩ : ByteArray) (decide (a0_1 < 1)) a0_0 a0_1)) else (spec_TurnsTo.j0 k (⟨#[]⟩ : ByteArray) true a0_0 a0_1)) = some r := H
  have A4 := Az.mk A40
  clear A40
  by_cases c5 : t626 = true
  ·subst c5
   have H1 : (if a0_0 < 1 then (spec_TurnsTo.j0 k (⟨#[]⟩ : ByteArray) true a0_0 a0_1) else (spec_TurnsTo.j0 k (⟨#[]⟩ : ByteArray) (decide (a0_1 < 1)) a0_0 a0_1)) = some r := by rw [if_pos rfl] at H; exact H
   clear H
   have H := H1
   clear H1
   by_cases c6 : a0_0 < 1
   ·rw [if_pos c6] at H
    have c6b0 : decide (a0_0 < 1) = true := decide_eq_true c6
    clear c6
    (first | rw [c6b0] | (simp only [i64_w, i32_w]; rw [c6b0]) | skip)
    have H' := Az.mk H
    clear H
    have hcz7_0 : w3.cell? ⟨gb625, 0, none⟩ = some (.int .i64 a0_0) := (bkC BK625.out 0).trans rfl
    have hcz7_1 : w3.cell? ⟨gb625, 1, none⟩ = some (.int .i64 a0_1) := (bkC BK625.out 1).trans rfl
    have hfz7_0 := bkF BK625.out 0
    have hfz7_1 := bkF BK625.out 1
    go_wp2_with (first | ((with_reducible refine gtC (f := 33) rfl ?_); refine goesL_ (some 5) rfl rfl Try.func33 (by kernel_rfl) rfl #[.agg #[.int .i64 a0_0, .int .i64 a0_1]] rfl (by (try simp only [List.map_toArray, List.map_cons, List.map_nil]); first | done | rfl | (simp only [List.length_drop, List.length_take]; rfl)) ?_; (with_reducible refine (spec_IsSlope.calls k a0_0 a0_1 true _ A4.out).mono ?_); rintro e w8 ⟨rfl, hb⟩; refine ⟨_, rfl, ?_⟩; have n0_ := Az.mk (bkB (g := gb625) (o := .cells #[.int .i64 a0_0, .int .i64 a0_1] 25 (0, 0)) (by (with_reducible repeat (first | refine bkN ?_ _ | refine bkD ?_ | refine bkA ?_ _)); exact BK625.out) hb); have n1_ := Az.mk (bwT (by repeat (first | (with_reducible first | exact HB.out | apply bwA | apply pbN | apply bwD | refine bwS ?_ GE625.out) | exact HB.out)) hb); clear BK625; clear HB; have BK625 := n0_; have HB := n1_; clear n0_ n1_; (try clear hb); (try clear hb2); (try clear hk); (try clear hi); have hcz9_0 : w8.cell? ⟨gb625, 0, none⟩ = some (.int .i64 a0_0) := (bkC BK625.out 0).trans rfl; have hcz9_1 : w8.cell? ⟨gb625, 1, none⟩ = some (.int .i64 a0_1) := (bkC BK625.out 1).trans rfl; have hfz9_0 := bkF BK625.out 0; have hfz9_1 := bkF BK625.out 1))
    go_meet
    case rel => exact ⟨_, (true), (by first | rfl | (simp; done) | (simp [*]; done)), H', ⟨by first | omega | exact Nat.le_refl _⟩, ⟨by (with_reducible repeat (first | refine bkN ?_ _ | refine bkD ?_ | refine bkA ?_ _)); exact BK625.out⟩, ⟨by repeat (first | (with_reducible first | exact HB.out | apply bwA | apply pbN | apply bwD | refine bwS ?_ GE625.out) | exact HB.out)⟩⟩
   ·rw [if_neg c6] at H
    have c6b0 : decide (a0_0 < 1) = false := decide_eq_false c6
    clear c6
    (first | rw [c6b0] | (simp only [i64_w, i32_w]; rw [c6b0]) | skip)
    have H' := Az.mk H
    clear H
    have hcz10_0 : w3.cell? ⟨gb625, 0, none⟩ = some (.int .i64 a0_0) := (bkC BK625.out 0).trans rfl
    have hcz10_1 : w3.cell? ⟨gb625, 1, none⟩ = some (.int .i64 a0_1) := (bkC BK625.out 1).trans rfl
    have hfz10_0 := bkF BK625.out 0
    have hfz10_1 := bkF BK625.out 1
    go_wp2_with (first | ((with_reducible refine gtC (f := 33) rfl ?_); refine goesL_ (some 5) rfl rfl Try.func33 (by kernel_rfl) rfl #[.agg #[.int .i64 a0_0, .int .i64 a0_1]] rfl (by (try simp only [List.map_toArray, List.map_cons, List.map_nil]); first | done | rfl | (simp only [List.length_drop, List.length_take]; rfl)) ?_; (with_reducible refine (spec_IsSlope.calls k a0_0 a0_1 true _ A4.out).mono ?_); rintro e w11 ⟨rfl, hb⟩; refine ⟨_, rfl, ?_⟩; have n0_ := Az.mk (bkB (g := gb625) (o := .cells #[.int .i64 a0_0, .int .i64 a0_1] 25 (0, 0)) (by (with_reducible repeat (first | refine bkN ?_ _ | refine bkD ?_ | refine bkA ?_ _)); exact BK625.out) hb); have n1_ := Az.mk (bwT (by repeat (first | (with_reducible first | exact HB.out | apply bwA | apply pbN | apply bwD | refine bwS ?_ GE625.out) | exact HB.out)) hb); clear BK625; clear HB; have BK625 := n0_; have HB := n1_; clear n0_ n1_; (try clear hb); (try clear hb2); (try clear hk); (try clear hi); have hcz12_0 : w11.cell? ⟨gb625, 0, none⟩ = some (.int .i64 a0_0) := (bkC BK625.out 0).trans rfl; have hcz12_1 : w11.cell? ⟨gb625, 1, none⟩ = some (.int .i64 a0_1) := (bkC BK625.out 1).trans rfl; have hfz12_0 := bkF BK625.out 0; have hfz12_1 := bkF BK625.out 1))
    go_meet
    case rel => exact ⟨_, (decide (a0_1 < 1)), (by first | rfl | (simp; done) | (simp [*]; done)), H', ⟨by first | omega | exact Nat.le_refl _⟩, ⟨by (with_reducible repeat (first | refine bkN ?_ _ | refine bkD ?_ | refine bkA ?_ _)); exact BK625.out⟩, ⟨by repeat (first | (with_reducible first | exact HB.out | apply bwA | apply pbN | apply bwD | refine bwS ?_ GE625.out) | exact HB.out)⟩⟩
  ·replace c5 := Bool.eq_false_iff.mpr c5
   subst c5
   have H1 : (spec_TurnsTo.j0 k (⟨#[]⟩ : ByteArray) true a0_0 a0_1) = some r := by rw [if_neg (show ¬ (false = true) by decide)] at H; exact H
   clear H
   have H := H1
   clear H1
   have H' := Az.mk H
   clear H
   have hcz13_0 : w3.cell? ⟨gb625, 0, none⟩ = some (.int .i64 a0_0) := (bkC BK625.out 0).trans rfl
   have hcz13_1 : w3.cell? ⟨gb625, 1, none⟩ = some (.int .i64 a0_1) := (bkC BK625.out 1).trans rfl
   have hfz13_0 := bkF BK625.out 0
   have hfz13_1 := bkF BK625.out 1
   go_wp2_with (first | ((with_reducible refine gtC (f := 33) rfl ?_); refine goesL_ (some 5) rfl rfl Try.func33 (by kernel_rfl) rfl #[.agg #[.int .i64 a0_0, .int .i64 a0_1]] rfl (by (try simp only [List.map_toArray, List.map_cons, List.map_nil]); first | done | rfl | (simp only [List.length_drop, List.length_take]; rfl)) ?_; (with_reducible refine (spec_IsSlope.calls k a0_0 a0_1 false _ A4.out).mono ?_); rintro e w14 ⟨rfl, hb⟩; refine ⟨_, rfl, ?_⟩; have n0_ := Az.mk (bkB (g := gb625) (o := .cells #[.int .i64 a0_0, .int .i64 a0_1] 25 (0, 0)) (by (with_reducible repeat (first | refine bkN ?_ _ | refine bkD ?_ | refine bkA ?_ _)); exact BK625.out) hb); have n1_ := Az.mk (bwT (by repeat (first | (with_reducible first | exact HB.out | apply bwA | apply pbN | apply bwD | refine bwS ?_ GE625.out) | exact HB.out)) hb); clear BK625; clear HB; have BK625 := n0_; have HB := n1_; clear n0_ n1_; (try clear hb); (try clear hb2); (try clear hk); (try clear hi)))
   go_meet
   case rel => exact ⟨_, (true), (by first | rfl | (simp; done) | (simp [*]; done)), H', ⟨by first | omega | exact Nat.le_refl _⟩, ⟨by (with_reducible repeat (first | refine bkN ?_ _ | refine bkD ?_ | refine bkA ?_ _)); exact BK625.out⟩, ⟨by repeat (first | (with_reducible first | exact HB.out | apply bwA | apply pbN | apply bwD | refine bwS ?_ GE625.out) | exact HB.out)⟩⟩
 case rest =>
  clear HC2
  try clear p2
  try clear c3
  try clear c5
  try clear c6
  try clear c6b0
  try clear hcz10_0
  try clear hcz10_1
  try clear hcz12_0
  try clear hcz12_1
  try clear hcz13_0
  try clear hcz13_1
  try clear hcz7_0
  try clear hcz7_1
  try clear hcz9_0
  try clear hcz9_1
  try clear hfz10_0
  try clear hfz10_1
  try clear hfz12_0
  try clear hfz12_1
  try clear hfz13_0
  try clear hfz13_1
  try clear hfz7_0
  try clear hfz7_1
  try clear hfz9_0
  try clear hfz9_1
  obtain ⟨kq, x16_1, rfl, HA, HJ1, BK625, HB⟩ := hcut
  cases kq with
  | zero => exact absurd HA.out (by simp [spec_TurnsTo.j0])
  | succ kj1 =>
   have H := HA.out
   clear HA
   simp only [spec_TurnsTo.j0] at H
   by_cases c15 : x16_1 = true
   ·subst c15
    have H1 : (some (⟨#[]⟩ : ByteArray)) = some r := by rw [if_pos rfl] at H; exact H
    clear H
    have H := H1
    clear H1
    obtain rfl := Option.some.inj H
    go_wp2
    go_ret
    exact ⟨by first | rfl | (simp [eWn, eWs] <;> rfl) | (simp [*, eWn, eWs] <;> rfl), by repeat (first | (with_reducible first | exact HB.out | apply bwA | apply pbN | apply bwD | refine bwS ?_ GE625.out) | exact HB.out)⟩
   ·replace c15 := Bool.eq_false_iff.mpr c15
    subst c15
    have H1 : (spec_TurnsTo.l0 kj1 (⟨#[]⟩ : ByteArray) a0_0 a0_1) = some r := by rw [if_neg (show ¬ (false = true) by decide)] at H; exact H
    clear H
    have H := H1
    clear H1
    have H' := Az.mk H
    clear H
    go_wp2
    go_loopg [3] kj1 (fun kq v3 w' => ∃ (x3_2 : ByteArray) (x626000_2 : Int) (x626001_2 : Int), v3 = .string x3_2 ∧ Az (spec_TurnsTo.l0 kq x3_2 x626000_2 x626001_2 = some r) ∧ Az (kq ≤ kj1) ∧ Az (w'.heap[gb625]? = some (.cells #[.int .i64 x626000_2, .int .i64 x626001_2] 25 (0, 0))) ∧ Az (Below w.heap.size w w'))
    case atStart => exact ⟨((⟨#[]⟩ : ByteArray)), (a0_0), (a0_1), (by first | rfl | (simp; done) | (simp [*]; done)), H', ⟨Nat.le_refl _⟩, ⟨by (with_reducible repeat (first | refine bkN ?_ _ | refine bkD ?_ | refine bkA ?_ _)); exact BK625.out⟩, ⟨by repeat (first | (with_reducible first | exact HB.out | apply bwA | apply pbN | apply bwD | refine bwS ?_ GE625.out) | exact HB.out)⟩⟩
    case round =>
     clear H'
     try clear c1
     try clear p2
     try clear c3
     try clear c5
     try clear c6
     try clear c6b0
     try clear c15
     try clear hcz10_0
     try clear hcz10_1
     try clear hcz12_0
     try clear hcz12_1
     try clear hcz13_0
     try clear hcz13_1
     try clear hcz7_0
     try clear hcz7_1
     try clear hcz9_0
     try clear hcz9_1
     try clear hfz10_0
     try clear hfz10_1
     try clear hfz12_0
     try clear hfz12_1
     try clear hfz13_0
     try clear hfz13_1
     try clear hfz7_0
     try clear hfz7_1
     try clear hfz9_0
     try clear hfz9_1
     try clear p2
     obtain ⟨x3_2, x626000_2, x626001_2, rfl, HA, HK2, BK625, HB⟩ := hrel
     cases gk with
     | zero => exact absurd HA.out (by simp [spec_TurnsTo.l0])
     | succ k2 =>
      have H := HA.out
      clear HA
      simp only [spec_TurnsTo.l0] at H
      by_cases c16 : x626000_2 = x626001_2
      ·rw [if_pos c16] at H
       have c16b0 : (x626000_2 == x626001_2) = true := beq_iff_eq.mpr c16
       have c16b1 : (x626000_2 != x626001_2) = false := bne_eq_false_iff_eq.mpr c16
       clear c16
       by_cases c17 : (x3_2.size : Int) > 24
       ·rw [if_pos c17] at H
        have c17b0 : decide (24 < (x3_2.size : Int)) = true := decide_eq_true c17
        have c17b1 : decide (24 < x3_2.size) = true := decide_eq_true (by omega)
        clear c17
        obtain rfl := Option.some.inj H
        have hcz18_0 : wr.cell? ⟨gb625, 0, none⟩ = some (.int .i64 x626000_2) := (bkC BK625.out 0).trans rfl
        have hcz18_1 : wr.cell? ⟨gb625, 1, none⟩ = some (.int .i64 x626001_2) := (bkC BK625.out 1).trans rfl
        have hfz18_0 := bkF BK625.out 0
        have hfz18_1 := bkF BK625.out 1
        go_wp2
        go_ret
        exact ⟨by first | rfl | (simp [eWn, eWs] <;> rfl) | (simp [*, eWn, eWs] <;> rfl), by repeat (first | (with_reducible first | exact HB.out | apply bwA | apply pbN | apply bwD | refine bwS ?_ GE625.out) | exact HB.out)⟩
       ·rw [if_neg c17] at H
        have c17b0 : decide (24 < (x3_2.size : Int)) = false := decide_eq_false c17
        have c17b1 : decide (24 < x3_2.size) = false := decide_eq_false (by omega)
        clear c17
        obtain rfl := Option.some.inj H
        have hcz19_0 : wr.cell? ⟨gb625, 0, none⟩ = some (.int .i64 x626000_2) := (bkC BK625.out 0).trans rfl
        have hcz19_1 : wr.cell? ⟨gb625, 1, none⟩ = some (.int .i64 x626001_2) := (bkC BK625.out 1).trans rfl
        have hfz19_0 := bkF BK625.out 0
        have hfz19_1 := bkF BK625.out 1
        go_wp2
        go_ret
        exact ⟨by first | rfl | (simp [eWn, eWs] <;> rfl) | (simp [*, eWn, eWs] <;> rfl), by repeat (first | (with_reducible first | exact HB.out | apply bwA | apply pbN | apply bwD | refine bwS ?_ GE625.out) | exact HB.out)⟩
      ·rw [if_neg c16] at H
       have c16b0 : (x626000_2 == x626001_2) = false := beq_eq_false_iff_ne.mpr c16
       have c16b1 : (x626000_2 != x626001_2) = true := bne_iff_ne.mpr c16
       by_cases c20 : x626000_2 > x626001_2
       ·rw [if_pos c20] at H
        have c20b0 : decide (x626001_2 < x626000_2) = true := decide_eq_true c20
        clear c20
        by_cases c21 : x3_2.size + 1 ≤ 9223372036854775807
        ·rw [if_pos c21] at H
         have c21b0 := eq_true c21
         have c21b1 : decide (x3_2.size + 1 ≤ 9223372036854775807) = true := decide_eq_true c21
         try have c21b2 : (9223372036854775807 < x3_2.size + 1) = False := eq_false (Nat.not_lt.2 c21)
         have H' := Az.mk H
         clear H
         have hcz22_0 : wr.cell? ⟨gb625, 0, none⟩ = some (.int .i64 x626000_2) := (bkC BK625.out 0).trans rfl
         have hcz22_1 : wr.cell? ⟨gb625, 1, none⟩ = some (.int .i64 x626001_2) := (bkC BK625.out 1).trans rfl
         have hfz22_0 := bkF BK625.out 0
         have hfz22_1 := bkF BK625.out 1
         go_wp2
         go_roundg k2
         case measure => have := HJ1.out; have := HK2.out; omega
         case rel => exact ⟨(x3_2 ++ (⟨#[82]⟩ : ByteArray)), (wrap64 (x626000_2 - x626001_2)), (x626001_2), (by first | rfl | (simp; done) | (simp [*]; done)), H', ⟨by have := HJ1.out; have := HK2.out; omega⟩, ⟨by (with_reducible repeat (first | refine bkN ?_ _ | refine bkD ?_ | refine bkA ?_ _)); refine bkp (cs := #[.int .i64 x626000_2, .int .i64 x626001_2]) ?_ 0 _ rfl; (with_reducible repeat (first | refine bkN ?_ _ | refine bkD ?_ | refine bkA ?_ _)); exact BK625.out⟩, ⟨by repeat (first | (with_reducible first | exact HB.out | apply bwA | apply pbN | apply bwD | refine bwS ?_ GE625.out) | exact HB.out)⟩⟩
        ·rw [if_neg c21] at H
         exact absurd H (by simp)
       ·rw [if_neg c20] at H
        have c20b0 : decide (x626001_2 < x626000_2) = false := decide_eq_false c20
        clear c20
        by_cases c23 : x3_2.size + 1 ≤ 9223372036854775807
        ·rw [if_pos c23] at H
         have c23b0 := eq_true c23
         have c23b1 : decide (x3_2.size + 1 ≤ 9223372036854775807) = true := decide_eq_true c23
         try have c23b2 : (9223372036854775807 < x3_2.size + 1) = False := eq_false (Nat.not_lt.2 c23)
         have H' := Az.mk H
         clear H
         have hcz24_0 : wr.cell? ⟨gb625, 0, none⟩ = some (.int .i64 x626000_2) := (bkC BK625.out 0).trans rfl
         have hcz24_1 : wr.cell? ⟨gb625, 1, none⟩ = some (.int .i64 x626001_2) := (bkC BK625.out 1).trans rfl
         have hfz24_0 := bkF BK625.out 0
         have hfz24_1 := bkF BK625.out 1
         go_wp2
         go_roundg k2
         case measure => have := HJ1.out; have := HK2.out; omega
         case rel => exact ⟨(x3_2 ++ (⟨#[76]⟩ : ByteArray)), (x626000_2), (wrap64 (x626001_2 - x626000_2)), (by first | rfl | (simp; done) | (simp [*]; done)), H', ⟨by have := HJ1.out; have := HK2.out; omega⟩, ⟨by (with_reducible repeat (first | refine bkN ?_ _ | refine bkD ?_ | refine bkA ?_ _)); refine bkp (cs := #[.int .i64 x626000_2, .int .i64 x626001_2]) ?_ 1 _ rfl; (with_reducible repeat (first | refine bkN ?_ _ | refine bkD ?_ | refine bkA ?_ _)); exact BK625.out⟩, ⟨by repeat (first | (with_reducible first | exact HB.out | apply bwA | apply pbN | apply bwD | refine bwS ?_ GE625.out) | exact HB.out)⟩⟩
        ·rw [if_neg c23] at H
         exact absurd H (by simp)

end Go.Proofs.Ytbnjcebmnamfjaa.P

-- By this session's driver (wip/tools/mk.py) of the kit's print program, over several statements at once. Not trusted: Lean checks it.
import Derived.Test.YtigcjehokbgclaaQWZip
import Derived.Test.YtigcjehokbgclaaQPx0
import Derived.Test.YtigcjehokbgclaaQPx16
import Derived.Test.YtigcjehokbgclaaQPx17
namespace Go.Proofs.Ytigcjehokbgclaa.P
open Go.RowKit Go.Proofs.YtigcjehokbgclaaW.PrintWords Go.Proofs.YtigcjehokbgclaaW.PrintLast Go.Proofs.YtigcjehokbgclaaW.PrintMore
attribute [local go_sem] max2_int min2_int max_two min_two max_three min_three max_four min_four   -- for this text's walks alone
set_option linter.unusedVariables false
set_option linter.unusedSimpArgs false
open Bool renaming true → T, false → F
theorem bw_18 {n : Nat} {v v' : World} (h : Below n v v' := by repeat (first | (with_reducible first | exact HB.out | apply bwA | apply pbN | apply bwD | refine bwS ?_ GE437.out | refine bwS ?_ GE438.out | refine bwS ?_ GE448.out) | exact HB.out)) : Below n v v' := h
theorem ln_18 {P : Prop} (h : P := by (try simp only [List.map_toArray, List.map_cons, List.map_nil]); first | done | rfl | (simp only [List.length_drop, List.length_take]; rfl)) : P := h
theorem z18_1 {p : Prop} (h : p := by simp only [putAll, Act.put, List.setIfInBounds_toArray, List.set_cons_zero, List.set_cons_succ]) : p := h
theorem z18_0 {p : Prop} (h : p := by kernel_rfl) : p := h

/-! ### spec_TurnsOf: function 60 -/
mutual
def spec_TurnsOf.l0 : Nat → ByteArray → Int → Int → Int → Int → Int → Option (Int × Int × Int × Int × Bool)
 | 0, _, _, _, _, _, _ => none
 | k + 1, x0, x5, x439000, x439001, x439002, x439003 => if x5 < (x0.size : Int) then (spec_TurnsOf.j1 k x0 x5 (decide ((x0.size : Int) ≤ 24)) x439000 x439001 x439002 x439003) else (spec_TurnsOf.j1 k x0 x5 false x439000 x439001 x439002 x439003)
def spec_TurnsOf.j1 : Nat → ByteArray → Int → Bool → Int → Int → Int → Int → Option (Int × Int × Int × Int × Bool)
 | 0, _, _, _, _, _, _, _ => none
 | k + 1, x0, x5, x17, x439000, x439001, x439002, x439003 => if x17 = true then (if 0 ≤ x5 then (if x5 < (x0.size : Int) then ((spec_l13Turn.f (bt x0 x5)).bind fun bt439 => ((spec_TimesMatrix.f k x439000 x439001 x439002 x439003 bt439.1 bt439.2.1 bt439.2.2.1 bt439.2.2.2).bind fun bt443 => (if bt443.2.2.2.2 = true then (spec_TurnsOf.l0 k x0 (wrap64 (x5 + 1)) bt443.1 bt443.2.1 bt443.2.2.1 bt443.2.2.2.1) else (some (0, 0, 0, 0, false))))) else (none)) else (none)) else (if (x0.size : Int) > 24 then (some (0, 0, 0, 0, false)) else (some (x439000, x439001, x439002, x439003, true)))
end
def spec_TurnsOf.f (k : Nat) (a0 : ByteArray) : Option (Int × Int × Int × Int × Bool) := spec_TurnsOf.l0 k a0 0 1 0 0 1
theorem spec_TurnsOf.mono_l : ∀ k, (∀ y0 y1 y2 y3 y4 y5, LeO (spec_TurnsOf.l0 k y0 y1 y2 y3 y4 y5) (spec_TurnsOf.l0 (k + 1) y0 y1 y2 y3 y4 y5)) ∧ (∀ y0 y1 y2 y3 y4 y5 y6, LeO (spec_TurnsOf.j1 k y0 y1 y2 y3 y4 y5 y6) (spec_TurnsOf.j1 (k + 1) y0 y1 y2 y3 y4 y5 y6))
 | 0 => ⟨fun _ _ _ _ _ _ r h => by simp [spec_TurnsOf.l0] at h, fun _ _ _ _ _ _ _ r h => by simp [spec_TurnsOf.j1] at h⟩
 | k + 1 => by
  obtain ⟨ih0, ih1⟩ := spec_TurnsOf.mono_l k
  have i0 := fun z0 z1 z2 z3 z4 z5 => MoO.mk (ih0 z0 z1 z2 z3 z4 z5)
  have i1 := fun z0 z1 z2 z3 z4 z5 z6 => MoO.mk (ih1 z0 z1 z2 z3 z4 z5 z6)
  refine ⟨?_, ?_⟩
  ·intro y0 y1 y2 y3 y4 y5
   unfold spec_TurnsOf.l0
   exact mo_
  intro y0 y1 y2 y3 y4 y5 y6
  unfold spec_TurnsOf.j1
  exact mo_
theorem spec_TurnsOf.mono : ∀ a0 k, LeO (spec_TurnsOf.f k a0) (spec_TurnsOf.f (k + 1) a0) := by
 intro a0 k
 obtain ⟨ih0, ih1⟩ := spec_TurnsOf.mono_l k
 have i0 := fun z0 z1 z2 z3 z4 z5 => MoO.mk (ih0 z0 z1 z2 z3 z4 z5)
 have i1 := fun z0 z1 z2 z3 z4 z5 z6 => MoO.mk (ih1 z0 z1 z2 z3 z4 z5 z6)
 unfold spec_TurnsOf.f
 exact mo_
instance spec_TurnsOf.mi {a0 k} : MoO (spec_TurnsOf.f k a0) (spec_TurnsOf.f (k + 1) a0) := ⟨spec_TurnsOf.mono _ _⟩
def spec_TurnsOf.T5 : Bool × List (List Nat × List Nat) := (true, [([], []), ([], []), ([], []), ([1, 2], [1, 2]), ([3], [3]), ([0, 4, 4], [0, 4]), ([5], [5]), ([6], [6]), ([6], [6]), ([], []), ([9, 7, 5, 0, 1, 2, 3, 4, 5, 6, 7, 9], [7, 9]), ([8, 10, 0, 1, 2, 3, 4, 5, 6, 7, 8, 9, 10], [8])])
def spec_TurnsOf.B5 : List Nat := [0, 0, 0, 6, 14, 31, 63, 127, 127, 0, 767, 2047]
theorem spec_TurnsOf.tab5 : rtab .any (opsOf Try.f60 5) = spec_TurnsOf.T5 := by kernel_rfl
theorem spec_TurnsOf.bits5 : waitsOk spec_TurnsOf.T5.2 spec_TurnsOf.B5 = true := by kernel_rfl
set_option maxHeartbeats 8000000 in
set_option maxRecDepth 100000 in
theorem spec_TurnsOf.calls (k : Nat) (a0 : ByteArray) (r1 : Int) (r2 : Int) (r3 : Int) (r4 : Int) (r5 : Bool) (w : World) (h : spec_TurnsOf.f k a0 = some (r1, r2, r3, r4, r5)) :
  Calls Try.prog 60 #[.string a0] w fun e w' => e = .returned (.tuple #[.agg #[.int .i64 r1, .int .i64 r2, .int .i64 r3, .int .i64 r4], .bool r5]) ∧ Below w.heap.size w w' := by
 have hu41 := Try.underlying41
 have HB := Az.mk (Below.refl w.heap.size w)
 have H : (spec_TurnsOf.l0 k a0 0 1 0 0 1) = some (r1, r2, r3, r4, r5) := h
 clear h
 have H' := Az.mk H
 clear H
 go_enter Try.func60, Try.ntmps60
 go_wp2_with (first | ((with_reducible refine gtD (N := 2) rfl ?_); (try (refine gate_guard (by rfl) ?_; dsimp only)); refine bx (N := 2) (cs := #[.int .i64 0, .int .i64 0, .int .i64 0, .int .i64 0]) (t := 41) ?_; intro gb437 hg w2 hbox hb; have BK437 := Az.mk (hbox); have GW437 := gwz hg bw_18; have GE437 := gwz hg bw_18; replace HB := Az.mk (bwT bw_18 hb); clear hb hbox hg) | ((with_reducible refine gtD (N := 4) rfl ?_); (try (refine gate_guard (by rfl) ?_; dsimp only)); refine bx (N := 4) (cs := #[.int .i64 0, .int .i64 0, .int .i64 0, .int .i64 0]) (t := 41) ?_; intro gb438 hg w3 hbox hb; have BK438 := Az.mk (hbox); have GW438 := gwz hg bw_18; have GE438 := gwz hg bw_18; replace HB := Az.mk (bwT bw_18 hb); have NB437_438 := nlt BK437 hg; have NB438_437 := ngt BK437 hg; replace BK437 := bkz BK437 hb; clear hb hbox hg; have hnb4 := NB438_437.out; have hnc4 := NB437_438.out; obtain ⟨hcz5_0, hcz5_1, hcz5_2, hcz5_3, hfz5_0, hfz5_1, hfz5_2, hfz5_3⟩ := bq4 BK438))
 go_loopg [5] k (fun kq v5 w' => ∃ (x5_1 : Int) (x438000_1 : Int) (x438001_1 : Int) (x438002_1 : Int) (x438003_1 : Int) (x439000_1 : Int) (x439001_1 : Int) (x439002_1 : Int) (x439003_1 : Int), v5 = .int .i64 x5_1 ∧ Az (spec_TurnsOf.l0 kq a0 x5_1 x439000_1 x439001_1 x439002_1 x439003_1 = some (r1, r2, r3, r4, r5)) ∧ Az (kq ≤ k) ∧ Az (w'.heap[gb437]? = some (.cells #[.int .i64 x438000_1, .int .i64 x438001_1, .int .i64 x438002_1, .int .i64 x438003_1] 41 (0, 0))) ∧ Az (w'.heap[gb438]? = some (.cells #[.int .i64 x439000_1, .int .i64 x439001_1, .int .i64 x439002_1, .int .i64 x439003_1] 41 (0, 0))) ∧ Az (Below w.heap.size w w'))
 case atStart => exact ⟨(0), (0), (0), (0), (0), (1), (0), (0), (1), rq2, H', ⟨Nat.le_refl _⟩, ⟨bkv⟩, ⟨bkv⟩, ⟨bw_18⟩⟩
 clear H'
 try clear hcz5_0
 try clear hcz5_1
 try clear hcz5_2
 try clear hcz5_3
 try clear hfz5_0
 try clear hfz5_1
 try clear hfz5_2
 try clear hfz5_3
 obtain ⟨x5_1, x438000_1, x438001_1, x438002_1, x438003_1, x439000_1, x439001_1, x439002_1, x439003_1, rfl, HA, HK1, BK437, BK438, HB⟩ := hrel
 cases gk with
 | zero => exact absurd HA.out (by simp [spec_TurnsOf.l0])
 | succ k1 =>
  have H := HA.out
  clear HA
  simp only [spec_TurnsOf.l0] at H
  have HC6 := Az.mk H
  clear H
  go_upto_region 3 with (fail)
  go_cut [17] (fun v17 wc => ∃ (kq : Nat) (x17_5 : Bool), v17 = .bool x17_5 ∧ Az (spec_TurnsOf.j1 kq a0 x5_1 x17_5 x439000_1 x439001_1 x439002_1 x439003_1 = some (r1, r2, r3, r4, r5)) ∧ Az (kq ≤ k1) ∧ Az (wc.heap[gb437]? = some (.cells #[.int .i64 x438000_1, .int .i64 x438001_1, .int .i64 x438002_1, .int .i64 x438003_1] 41 (0, 0))) ∧ Az (wc.heap[gb438]? = some (.cells #[.int .i64 x439000_1, .int .i64 x439001_1, .int .i64 x439002_1, .int .i64 x439003_1] 41 (0, 0))) ∧ Az (Below w.heap.size w wc))
  case first =>
   have H := HC6.out
   clear HC6
   by_cases c7 : x5_1 < (a0.size : Int)
   ·rw [if_pos c7] at H
    have c7b0 : decide (x5_1 < (a0.size : Int)) = true := decide_eq_true c7
    clear c7
    (first | rw [c7b0] | (simp only [i64_w, i32_w]; rw [c7b0]) | skip)
    have H' := Az.mk H
    clear H
    go_wp2
    go_meet
    case rel => exact ⟨_, (decide ((a0.size : Int) ≤ 24)), rq2, H', ⟨by have := HK1.out; first | omega | exact Nat.le_refl _⟩, ⟨bk1 BK437⟩, ⟨bk1 BK438⟩, ⟨bw_18⟩⟩
   rw [if_neg c7] at H
   have c7b0 : decide (x5_1 < (a0.size : Int)) = false := decide_eq_false c7
   clear c7
   (first | rw [c7b0] | (simp only [i64_w, i32_w]; rw [c7b0]) | skip)
   have H' := Az.mk H
   clear H
   go_wp2
   go_meet
   case rel => exact ⟨_, (false), rq2, H', ⟨by have := HK1.out; first | omega | exact Nat.le_refl _⟩, ⟨bk1 BK437⟩, ⟨bk1 BK438⟩, ⟨bw_18⟩⟩
  clear HC6
  try clear c7
  try clear c7b0
  try clear hcz5_0
  try clear hcz5_1
  try clear hcz5_2
  try clear hcz5_3
  try clear hfz5_0
  try clear hfz5_1
  try clear hfz5_2
  try clear hfz5_3
  obtain ⟨kq, x17_5, rfl, HA, HJ5, BK437, BK438, HB⟩ := hcut
  cases kq with
  | zero => exact absurd HA.out (by simp [spec_TurnsOf.j1])
  | succ kj5 =>
   have H := HA.out
   clear HA
   simp only [spec_TurnsOf.j1] at H
   by_cases c8 : x17_5 = true
   rotate_left
   ·replace c8 := Bool.eq_false_iff.mpr c8
    subst c8
    rw [if_neg (show ¬ (false = true) by decide)] at H
    by_cases c41 : (a0.size : Int) > 24
    ·rw [if_pos c41] at H
     have c41b0 : decide (24 < (a0.size : Int)) = true := decide_eq_true c41
     have c41b1 : decide (24 < a0.size) = true := decide_eq_true (by omega)
     clear c41
     simp only [Option.some.injEq, Prod.mk.injEq] at H
     obtain ⟨rfl, rfl, rfl, rfl, rfl⟩ := H
     have hnb42 := NB437_438.out
     have hnc42 := NB438_437.out
     have hcz43_0 := bkc0 BK437
     have hcz43_1 := bkc1 BK437
     have hcz43_2 := bkc2 BK437
     have hcz43_3 := bkc3 BK437
     have hfz43_0 := bkF BK437.out 0
     have hfz43_1 := bkF BK437.out 1
     have hfz43_2 := bkF BK437.out 2
     have hfz43_3 := bkF BK437.out 3
     go_wp2
     refine bodyPost_ret (results_ct rfl _ _ gb437 41 #[.int .i64 0, .int .i64 0, .int .i64 0, .int .i64 0] (0, 0) _ rfl bkv Try.underlying41 rfl z18_0) rfl ?_
     exact ⟨rq1, bw_18⟩
    rw [if_neg c41] at H
    have c41b0 : decide (24 < (a0.size : Int)) = false := decide_eq_false c41
    have c41b1 : decide (24 < a0.size) = false := decide_eq_false (by omega)
    clear c41
    simp only [Option.some.injEq, Prod.mk.injEq] at H
    obtain ⟨rfl, rfl, rfl, rfl, rfl⟩ := H
    have hnb44 := NB438_437.out
    have hnc44 := NB437_438.out
    have hcz45_0 := bkc0 BK438
    have hcz45_1 := bkc1 BK438
    have hcz45_2 := bkc2 BK438
    have hcz45_3 := bkc3 BK438
    have hfz45_0 := bkF BK438.out 0
    have hfz45_1 := bkF BK438.out 1
    have hfz45_2 := bkF BK438.out 2
    have hfz45_3 := bkF BK438.out 3
    have hcz46_0 := bkc0 BK437
    have hcz46_1 := bkc1 BK437
    have hcz46_2 := bkc2 BK437
    have hcz46_3 := bkc3 BK437
    have hfz46_0 := bkF BK437.out 0
    have hfz46_1 := bkF BK437.out 1
    have hfz46_2 := bkF BK437.out 2
    have hfz46_3 := bkF BK437.out 3
    go_wp2
    refine bodyPost_ret (results_ct rfl _ _ gb437 41 #[.int .i64 x439000_1, .int .i64 x439001_1, .int .i64 x439002_1, .int .i64 x439003_1] (0, 0) _ rfl bkv Try.underlying41 rfl z18_0) rfl ?_
    exact ⟨rq1, bw_18⟩
   subst c8
   rw [if_pos rfl] at H
   by_cases c9 : 0 ≤ x5_1
   rotate_left
   ·rw [if_neg c9] at H
    exact absurd H (by simp)
   rw [if_pos c9] at H
   have c9b0 : decide (0 ≤ x5_1) = true := decide_eq_true c9
   clear c9
   by_cases c10 : x5_1 < (a0.size : Int)
   rotate_left
   ·rw [if_neg c10] at H
    exact absurd H (by simp)
   rw [if_pos c10] at H
   have c10b0 : decide (x5_1 < (a0.size : Int)) = true := decide_eq_true c10
   clear c10
   replace H := bez H
   obtain ⟨⟨t439, t440, t441, t442⟩, A12, H⟩ := H
   try dsimp only at H
   replace H := bez H
   obtain ⟨⟨t443, t444, t445, t446, t447⟩, A13, H⟩ := H
   try dsimp only at H
   by_cases c14 : t447 = true
   rotate_left
   ·replace c14 := Bool.eq_false_iff.mpr c14
    subst c14
    rw [if_neg (show ¬ (false = true) by decide)] at H
    simp only [Option.some.injEq, Prod.mk.injEq] at H
    obtain ⟨rfl, rfl, rfl, rfl, rfl⟩ := H
    try go_wp2
    replace BK437 := Az.mk (bkD BK437.out); replace BK438 := Az.mk (bkD BK438.out); replace HB := Az.mk (bwD HB.out)
    have p11 : 0 ≤ (x5_1 : Int) := of_decide_eq_true (by first | (with_reducible assumption) | assumption)
    have q11 : x5_1 < (a0.size : Int) := of_decide_eq_true (by first | (with_reducible assumption) | assumption)
    have hx11 := bt_at a0 x5_1
    replace p11 := eq_true p11
    replace q11 := eq_true q11
    refine start_ (n := 12) (S := fun w' => w'.cell? ⟨gb438, 0, none⟩ = some (.int .i64 x439000_1) ∧ w'.cell? ⟨gb438, 1, none⟩ = some (.int .i64 x439001_1) ∧ w'.cell? ⟨gb438, 2, none⟩ = some (.int .i64 x439002_1) ∧ w'.cell? ⟨gb438, 3, none⟩ = some (.int .i64 x439003_1)) (ds := []) #[F,F,F,F,F,F,F,F,F,F,F,F] z18_0 rfl rfl cs_ (fun hHeld => ?_); refine with_tabW spec_TurnsOf.tab5 spec_TurnsOf.bits5 (fun HT_ HW_ => ?_)
    generalize wc.drew = w29 at BK437 BK438 HB hHeld ⊢
    refine pu (i := 1) (N := some 22) #[F,T,F,F,F,F,F,F,F,F,F,F] (any_of HT_.out z18_0) ?_
    refine pu (i := 2) (N := some 23) #[F,T,T,F,F,F,F,F,F,F,F,F] (any_of HT_.out z18_0) ?_
    refine take_ (i := 0) (N := some 21) (v := ?_) (a' := ?_) #[T,T,T,F,F,F,F,F,F,F,F,F] rfl rfl (take_ofW HT_.out HW_.out z18_0) (fun _ _ _ h => h) (Or.inl ⟨by rfl, ?_⟩) hHeld ?_ ?_
    rotate_left
    ·rintro w' ⟨s0, s1, s2, s3⟩
     go_simp
     with_reducible rfl
    rotate_left
    ·exact acq
    refine take_ (i := 3) (N := some 24) (v := ?_) (a' := ?_) #[T,T,T,T,F,F,F,F,F,F,F,F] rfl rfl (take_ofW HT_.out HW_.out z18_0) (fun _ _ _ h => h) (Or.inl ⟨by rfl, ?_⟩) hHeld ?_ ?_
    rotate_left
    ·rintro w' ⟨s0, s1, s2, s3⟩
     go_simp
     with_reducible rfl
    rotate_left
    ·exact acq
    refine join_ (σ := Nat) 2 #[T,T,T,T,T,T,T,T,T,T,F,F] (fun s_ => [(25, .agg #[.int .i64 t439, .int .i64 t440, .int .i64 t441, .int .i64 t442]), (26, .tuple #[.agg #[.int .i64 t443, .int .i64 t444, .int .i64 t445, .int .i64 t446], .bool false]), (6, .pointer (some ⟨s_, 0, none⟩)), (20, .tuple #[.agg #[.int .i64 t443, .int .i64 t444, .int .i64 t445, .int .i64 t446], .bool false]), (27, .agg #[.int .i64 t443, .int .i64 t444, .int .i64 t445, .int .i64 t446]), (28, .bool false)]) (fun s_ w' => (w'.cell? ⟨gb438, 0, none⟩ = some (.int .i64 x439000_1) ∧ w'.cell? ⟨gb438, 1, none⟩ = some (.int .i64 x439001_1) ∧ w'.cell? ⟨gb438, 2, none⟩ = some (.int .i64 x439002_1) ∧ w'.cell? ⟨gb438, 3, none⟩ = some (.int .i64 x439003_1)) ∧ (w'.heap[gb437]? = some (.cells #[.int .i64 x438000_1, .int .i64 x438001_1, .int .i64 x438002_1, .int .i64 x438003_1] 41 (0, 0))) ∧ (w'.heap[gb438]? = some (.cells #[.int .i64 x439000_1, .int .i64 x439001_1, .int .i64 x439002_1, .int .i64 x439003_1] 41 (0, 0))) ∧ (w'.heap[s_]? = some (.cells #[.int .i64 0, .int .i64 0, .int .i64 0, .int .i64 0] 41 (0, 0))) ∧ (w.heap.size ≤ s_) ∧ (w.heap.size ≤ s_) ∧ (gb437 ≠ s_) ∧ (s_ ≠ gb437) ∧ (gb438 ≠ s_) ∧ (s_ ≠ gb438) ∧ (Below w.heap.size w w')) ?_ ?_
    rotate_left
    ·intro hCont
     refine two_ (i := 4) (j := 9) (Ni := some 25) (Nj := some 6) #[T,T,T,T,T,F,F,F,F,F,F,F] #[T,T,T,T,F,F,F,F,F,T,F,F] rfl rfl rfl rfl (two_of HT_.out z18_0) (by decide) (by decide) (fun K hK => ?_) (fun K hK => ?_)
     ·skip
      refine goes_ Try.func66 z18_0 rfl #[.int .u8 (bt a0 x5_1)] (by rfl) rfl rfl ln_18 ?_
      with_reducible refine (spec_l13Turn.calls (bt a0 x5_1) t439 t440 t441 t442 _ A12.out).mono ?_
      rintro e w30 ⟨rfl, hb⟩
      refine ⟨_, rfl, ?_⟩
      replace BK437 := bkz BK437 hb; replace BK438 := bkz BK438 hb; replace HB := Az.mk (bwT bw_18 hb)
      (try clear hb)
      (try clear hb2)
      (try clear hk)
      (try clear hi)
      refine hK.out _ _ cs_ (fun hHeld => ?_)
      clear hK K
      refine norm_ (a' := ?_) ?_ ?_
      rotate_left
      ·show Act.put _ (some 25) _ = _
       exact acq
      refine two_ (i := 5) (j := 9) (Ni := some 26) (Nj := some 6) #[T,T,T,T,T,T,F,F,F,F,F,F] #[T,T,T,T,T,F,F,F,F,T,F,F] rfl rfl rfl rfl (two_of HT_.out z18_0) (by decide) (by decide) (fun K hK => ?_) (fun K hK => ?_)
      ·skip
       refine goes_ Try.func65 z18_0 rfl #[.agg #[.int .i64 x439000_1, .int .i64 x439001_1, .int .i64 x439002_1, .int .i64 x439003_1], .agg #[.int .i64 t439, .int .i64 t440, .int .i64 t441, .int .i64 t442]] (by rfl) rfl rfl ln_18 ?_
       with_reducible refine (spec_TimesMatrix.calls kj5 x439000_1 x439001_1 x439002_1 x439003_1 t439 t440 t441 t442 t443 t444 t445 t446 false _ A13.out).mono ?_
       rintro e w31 ⟨rfl, hb⟩
       refine ⟨_, rfl, ?_⟩
       replace BK437 := bkz BK437 hb; replace BK438 := bkz BK438 hb; replace HB := Az.mk (bwT bw_18 hb)
       (try clear hb)
       (try clear hb2)
       (try clear hk)
       (try clear hi)
       refine hK.out _ _ cs_ (fun hHeld => ?_)
       clear hK K
       refine norm_ (a' := ?_) ?_ ?_
       rotate_left
       ·show Act.put _ (some 26) _ = _
        exact acq
       refine pu (i := 6) (N := some 20) #[T,T,T,T,T,T,T,F,F,F,F,F] (any_of HT_.out z18_0) ?_
       refine pu (i := 7) (N := some 27) #[T,T,T,T,T,T,T,T,F,F,F,F] (any_of HT_.out z18_0) ?_
       refine pu (i := 8) (N := some 28) #[T,T,T,T,T,T,T,T,T,F,F,F] (any_of HT_.out z18_0) ?_
       refine one_ (i := 9) (N := some 6) #[T,T,T,T,T,T,T,T,T,T,F,F] rfl rfl (one_of HT_.out z18_0) (by decide) (fun K hK => ?_)
       refine box_step ?hg (N := 6) ?hd (cs := #[.int .i64 0, .int .i64 0, .int .i64 0, .int .i64 0]) (t := 41) ?hr ?_; (case hd => rfl); (case hg => rfl); (case hr => first | (go_simp; done) | (go_simp; rfl))
       intro gb448 hg w32 hbox hb
       have BK448 := Az.mk (hbox); have GW448 := gwz hg bw_18; have GE448 := gwz hg bw_18; replace HB := Az.mk (bwT bw_18 hb); have NB437_448 := nlt BK437 hg; have NB448_437 := ngt BK437 hg; replace BK437 := bkz BK437 hb; have NB438_448 := nlt BK438 hg; have NB448_438 := ngt BK438 hg; replace BK438 := bkz BK438 hb
       clear hb hbox hg
       refine hK.out _ _ cs_ (fun hHeld => ?_)
       clear hK K
       refine norm_ (a' := ?_) ?_ ?_
       rotate_left
       ·show Act.put _ (some 6) _ = _
        exact acq
       exact norm_ z18_1 (hCont (gb448) _ ⟨hHeld, (bk1 BK437), (bk1 BK438), (bk1 BK448), GW448.out, GE448.out, NB437_448.out, NB448_437.out, NB438_448.out, NB448_438.out, bw_18⟩)
      skip
      refine box_step ?hg (N := 6) ?hd (cs := #[.int .i64 0, .int .i64 0, .int .i64 0, .int .i64 0]) (t := 41) ?hr ?_; (case hd => rfl); (case hg => rfl); (case hr => first | (go_simp; done) | (go_simp; rfl))
      intro gb448 hg w31 hbox hb
      have BK448 := Az.mk (hbox); have GW448 := gwz hg bw_18; have GE448 := gwz hg bw_18; replace HB := Az.mk (bwT bw_18 hb); have NB437_448 := nlt BK437 hg; have NB448_437 := ngt BK437 hg; replace BK437 := bkz BK437 hb; have NB438_448 := nlt BK438 hg; have NB448_438 := ngt BK438 hg; replace BK438 := bkz BK438 hb
      clear hb hbox hg
      refine hK.out _ _ cs_ (fun hHeld => ?_)
      clear hK K
      refine norm_ (a' := ?_) ?_ ?_
      rotate_left
      ·show Act.put _ (some 6) _ = _
       exact acq
      refine one_ (i := 5) (N := some 26) #[T,T,T,T,T,T,F,F,F,T,F,F] rfl rfl (one_of HT_.out z18_0) (by decide) (fun K hK => ?_)
      refine goes_ Try.func65 z18_0 rfl #[.agg #[.int .i64 x439000_1, .int .i64 x439001_1, .int .i64 x439002_1, .int .i64 x439003_1], .agg #[.int .i64 t439, .int .i64 t440, .int .i64 t441, .int .i64 t442]] (by rfl) rfl rfl ln_18 ?_
      with_reducible refine (spec_TimesMatrix.calls kj5 x439000_1 x439001_1 x439002_1 x439003_1 t439 t440 t441 t442 t443 t444 t445 t446 false _ A13.out).mono ?_
      rintro e w32 ⟨rfl, hb⟩
      refine ⟨_, rfl, ?_⟩
      replace BK437 := bkz BK437 hb; replace BK438 := bkz BK438 hb; replace BK448 := bkz BK448 hb; replace HB := Az.mk (bwT bw_18 hb)
      (try clear hb)
      (try clear hb2)
      (try clear hk)
      (try clear hi)
      refine hK.out _ _ cs_ (fun hHeld => ?_)
      clear hK K
      refine norm_ (a' := ?_) ?_ ?_
      rotate_left
      ·show Act.put _ (some 26) _ = _
       exact acq
      refine pu (i := 6) (N := some 20) #[T,T,T,T,T,T,T,F,F,T,F,F] (any_of HT_.out z18_0) ?_
      refine pu (i := 7) (N := some 27) #[T,T,T,T,T,T,T,T,F,T,F,F] (any_of HT_.out z18_0) ?_
      refine pu (i := 8) (N := some 28) #[T,T,T,T,T,T,T,T,T,T,F,F] (any_of HT_.out z18_0) ?_
      exact norm_ z18_1 (hCont (gb448) _ ⟨hHeld, (bk1 BK437), (bk1 BK438), (bk1 BK448), GW448.out, GE448.out, NB437_448.out, NB448_437.out, NB438_448.out, NB448_438.out, bw_18⟩)
     skip
     refine box_step ?hg (N := 6) ?hd (cs := #[.int .i64 0, .int .i64 0, .int .i64 0, .int .i64 0]) (t := 41) ?hr ?_; (case hd => rfl); (case hg => rfl); (case hr => first | (go_simp; done) | (go_simp; rfl))
     intro gb448 hg w30 hbox hb
     have BK448 := Az.mk (hbox); have GW448 := gwz hg bw_18; have GE448 := gwz hg bw_18; replace HB := Az.mk (bwT bw_18 hb); have NB437_448 := nlt BK437 hg; have NB448_437 := ngt BK437 hg; replace BK437 := bkz BK437 hb; have NB438_448 := nlt BK438 hg; have NB448_438 := ngt BK438 hg; replace BK438 := bkz BK438 hb
     clear hb hbox hg
     refine hK.out _ _ cs_ (fun hHeld => ?_)
     clear hK K
     refine norm_ (a' := ?_) ?_ ?_
     rotate_left
     ·show Act.put _ (some 6) _ = _
      exact acq
     refine one_ (i := 4) (N := some 25) #[T,T,T,T,T,F,F,F,F,T,F,F] rfl rfl (one_of HT_.out z18_0) (by decide) (fun K hK => ?_)
     refine goes_ Try.func66 z18_0 rfl #[.int .u8 (bt a0 x5_1)] (by rfl) rfl rfl ln_18 ?_
     with_reducible refine (spec_l13Turn.calls (bt a0 x5_1) t439 t440 t441 t442 _ A12.out).mono ?_
     rintro e w31 ⟨rfl, hb⟩
     refine ⟨_, rfl, ?_⟩
     replace BK437 := bkz BK437 hb; replace BK438 := bkz BK438 hb; replace BK448 := bkz BK448 hb; replace HB := Az.mk (bwT bw_18 hb)
     (try clear hb)
     (try clear hb2)
     (try clear hk)
     (try clear hi)
     refine hK.out _ _ cs_ (fun hHeld => ?_)
     clear hK K
     refine norm_ (a' := ?_) ?_ ?_
     rotate_left
     ·show Act.put _ (some 25) _ = _
      exact acq
     refine one_ (i := 5) (N := some 26) #[T,T,T,T,T,T,F,F,F,T,F,F] rfl rfl (one_of HT_.out z18_0) (by decide) (fun K hK => ?_)
     refine goes_ Try.func65 z18_0 rfl #[.agg #[.int .i64 x439000_1, .int .i64 x439001_1, .int .i64 x439002_1, .int .i64 x439003_1], .agg #[.int .i64 t439, .int .i64 t440, .int .i64 t441, .int .i64 t442]] (by rfl) rfl rfl ln_18 ?_
     with_reducible refine (spec_TimesMatrix.calls kj5 x439000_1 x439001_1 x439002_1 x439003_1 t439 t440 t441 t442 t443 t444 t445 t446 false _ A13.out).mono ?_
     rintro e w32 ⟨rfl, hb⟩
     refine ⟨_, rfl, ?_⟩
     replace BK437 := bkz BK437 hb; replace BK438 := bkz BK438 hb; replace BK448 := bkz BK448 hb; replace HB := Az.mk (bwT bw_18 hb)
     (try clear hb)
     (try clear hb2)
     (try clear hk)
     (try clear hi)
     refine hK.out _ _ cs_ (fun hHeld => ?_)
     clear hK K
     refine norm_ (a' := ?_) ?_ ?_
     rotate_left
     ·show Act.put _ (some 26) _ = _
      exact acq
     refine pu (i := 6) (N := some 20) #[T,T,T,T,T,T,T,F,F,T,F,F] (any_of HT_.out z18_0) ?_
     refine pu (i := 7) (N := some 27) #[T,T,T,T,T,T,T,T,F,T,F,F] (any_of HT_.out z18_0) ?_
     refine pu (i := 8) (N := some 28) #[T,T,T,T,T,T,T,T,T,T,F,F] (any_of HT_.out z18_0) ?_
     exact norm_ z18_1 (hCont (gb448) _ ⟨hHeld, (bk1 BK437), (bk1 BK438), (bk1 BK448), GW448.out, GE448.out, NB437_448.out, NB448_437.out, NB438_448.out, NB448_438.out, bw_18⟩)
    rintro gb448 w33 ⟨hS_, h0_, h1_, h2_, h3_, h4_, h5_, h6_, h7_, h8_, h9_⟩
    have n0_ : Az (w33.heap[gb437]? = some (.cells #[.int .i64 x438000_1, .int .i64 x438001_1, .int .i64 x438002_1, .int .i64 x438003_1] 41 (0, 0))) := ⟨h0_⟩
    have n1_ : Az (w33.heap[gb438]? = some (.cells #[.int .i64 x439000_1, .int .i64 x439001_1, .int .i64 x439002_1, .int .i64 x439003_1] 41 (0, 0))) := ⟨h1_⟩
    have n2_ : Az (w33.heap[gb448]? = some (.cells #[.int .i64 0, .int .i64 0, .int .i64 0, .int .i64 0] 41 (0, 0))) := ⟨h2_⟩
    have n3_ : Az (w.heap.size ≤ gb448) := ⟨h3_⟩
    have n4_ : Az (w.heap.size ≤ gb448) := ⟨h4_⟩
    have n5_ : Az (gb437 ≠ gb448) := ⟨h5_⟩
    have n6_ : Az (gb448 ≠ gb437) := ⟨h6_⟩
    have n7_ : Az (gb438 ≠ gb448) := ⟨h7_⟩
    have n8_ : Az (gb448 ≠ gb438) := ⟨h8_⟩
    have n9_ : Az (Below w.heap.size w w33) := ⟨h9_⟩
    clear BK437
    clear BK438
    clear HB
    clear h0_ h1_ h2_ h3_ h4_ h5_ h6_ h7_ h8_ h9_
    have BK437 := n0_
    have BK438 := n1_
    have BK448 := n2_
    have GW448 := n3_
    have GE448 := n4_
    have NB437_448 := n5_
    have NB448_437 := n6_
    have NB438_448 := n7_
    have NB448_438 := n8_
    have HB := n9_
    clear n0_ n1_ n2_ n3_ n4_ n5_ n6_ n7_ n8_ n9_
    have hHeld : w33.cell? ⟨gb438, 0, none⟩ = some (.int .i64 x439000_1) ∧ w33.cell? ⟨gb438, 1, none⟩ = some (.int .i64 x439001_1) ∧ w33.cell? ⟨gb438, 2, none⟩ = some (.int .i64 x439002_1) ∧ w33.cell? ⟨gb438, 3, none⟩ = some (.int .i64 x439003_1) := hS_
    refine norm_ (a' := ?_) ?_ ?_
    rotate_left
    ·simp only [putAll, Act.put, List.setIfInBounds_toArray, List.set_cons_zero, List.set_cons_succ]
     rfl
    refine one_ (i := 10) (N := none) #[T,T,T,T,T,T,T,T,T,T,T,F] rfl rfl (one_of HT_.out z18_0) (by decide) (fun K hK => ?_)
    have hs34 := bkc0 BK448
    have hfs34 := bkF BK448.out 0
    have hns34_0 := NB437_448.out
    have hns34_1 := NB438_448.out
    have hms34_0 := NB448_437.out
    have hms34_1 := NB448_438.out
    have hs35 := bkc1 BK448
    have hfs35 := bkF BK448.out 1
    have hns35_0 := NB437_448.out
    have hns35_1 := NB438_448.out
    have hms35_0 := NB448_437.out
    have hms35_1 := NB448_438.out
    have hs36 := bkc2 BK448
    have hfs36 := bkF BK448.out 2
    have hns36_0 := NB437_448.out
    have hns36_1 := NB438_448.out
    have hms36_0 := NB448_437.out
    have hms36_1 := NB448_438.out
    have hs37 := bkc3 BK448
    have hfs37 := bkF BK448.out 3
    have hns37_0 := NB437_448.out
    have hns37_1 := NB438_448.out
    have hms37_0 := NB448_437.out
    have hms37_1 := NB448_438.out
    refine skip_ (w1 := ?_) (by rfl) rfl ?_ ?_
    rotate_left
    ·go_simp
     rfl
    refine hK.out _ _ ⟨((cell_far (p := ⟨gb448, _, none⟩) NB438_448.out _).trans (((cell_far (p := ⟨gb448, _, none⟩) NB438_448.out _).trans (((cell_far (p := ⟨gb448, _, none⟩) NB438_448.out _).trans (((cell_far (p := ⟨gb448, _, none⟩) NB438_448.out _).trans (hHeld.1)))))))), ((cell_far (p := ⟨gb448, _, none⟩) NB438_448.out _).trans (((cell_far (p := ⟨gb448, _, none⟩) NB438_448.out _).trans (((cell_far (p := ⟨gb448, _, none⟩) NB438_448.out _).trans (((cell_far (p := ⟨gb448, _, none⟩) NB438_448.out _).trans (hHeld.2.1)))))))), ((cell_far (p := ⟨gb448, _, none⟩) NB438_448.out _).trans (((cell_far (p := ⟨gb448, _, none⟩) NB438_448.out _).trans (((cell_far (p := ⟨gb448, _, none⟩) NB438_448.out _).trans (((cell_far (p := ⟨gb448, _, none⟩) NB438_448.out _).trans (hHeld.2.2.1)))))))), ((cell_far (p := ⟨gb448, _, none⟩) NB438_448.out _).trans (((cell_far (p := ⟨gb448, _, none⟩) NB438_448.out _).trans (((cell_far (p := ⟨gb448, _, none⟩) NB438_448.out _).trans (((cell_far (p := ⟨gb448, _, none⟩) NB438_448.out _).trans (hHeld.2.2.2))))))))⟩ (fun hHeld => ?_)
    clear hK K
    refine pu (i := 11) (N := some 7) #[T,T,T,T,T,T,T,T,T,T,T,T] (any_of HT_.out z18_0) ?_
    refine done_ (done_of HT_.out z18_0) ?_
    have hnb38 := NB437_438.out
    have hnc38 := NB438_437.out
    have hnb39 := NB437_448.out
    have hnc39 := NB448_437.out
    have hcz40_0 := bkc0 BK437
    have hcz40_1 := bkc1 BK437
    have hcz40_2 := bkc2 BK437
    have hcz40_3 := bkc3 BK437
    have hfz40_0 := bkF BK437.out 0
    have hfz40_1 := bkF BK437.out 1
    have hfz40_2 := bkF BK437.out 2
    have hfz40_3 := bkF BK437.out 3
    try go_wp2
    refine bodyPost_ret (results_ct rfl _ _ gb437 41 #[.int .i64 0, .int .i64 0, .int .i64 0, .int .i64 0] (0, 0) _ rfl bkv Try.underlying41 rfl z18_0) rfl ?_
    exact ⟨rq1, bw_18⟩
   subst c14
   rw [if_pos rfl] at H
   have H' := Az.mk H
   clear H
   try go_wp2
   replace BK437 := Az.mk (bkD BK437.out); replace BK438 := Az.mk (bkD BK438.out); replace HB := Az.mk (bwD HB.out)
   have p11 : 0 ≤ (x5_1 : Int) := of_decide_eq_true (by first | (with_reducible assumption) | assumption)
   have q11 : x5_1 < (a0.size : Int) := of_decide_eq_true (by first | (with_reducible assumption) | assumption)
   have hx11 := bt_at a0 x5_1
   replace p11 := eq_true p11
   replace q11 := eq_true q11
   refine start_ (n := 12) (S := fun w' => w'.cell? ⟨gb438, 0, none⟩ = some (.int .i64 x439000_1) ∧ w'.cell? ⟨gb438, 1, none⟩ = some (.int .i64 x439001_1) ∧ w'.cell? ⟨gb438, 2, none⟩ = some (.int .i64 x439002_1) ∧ w'.cell? ⟨gb438, 3, none⟩ = some (.int .i64 x439003_1)) (ds := []) #[F,F,F,F,F,F,F,F,F,F,F,F] z18_0 rfl rfl cs_ (fun hHeld => ?_); refine with_tabW spec_TurnsOf.tab5 spec_TurnsOf.bits5 (fun HT_ HW_ => ?_)
   generalize wc.drew = w15 at BK437 BK438 HB hHeld ⊢
   refine pu (i := 1) (N := some 22) #[F,T,F,F,F,F,F,F,F,F,F,F] (any_of HT_.out z18_0) ?_
   refine pu (i := 2) (N := some 23) #[F,T,T,F,F,F,F,F,F,F,F,F] (any_of HT_.out z18_0) ?_
   refine take_ (i := 0) (N := some 21) (v := ?_) (a' := ?_) #[T,T,T,F,F,F,F,F,F,F,F,F] rfl rfl (take_ofW HT_.out HW_.out z18_0) (fun _ _ _ h => h) (Or.inl ⟨by rfl, ?_⟩) hHeld ?_ ?_
   rotate_left
   ·rintro w' ⟨s0, s1, s2, s3⟩
    go_simp
    with_reducible rfl
   rotate_left
   ·exact acq
   refine take_ (i := 3) (N := some 24) (v := ?_) (a' := ?_) #[T,T,T,T,F,F,F,F,F,F,F,F] rfl rfl (take_ofW HT_.out HW_.out z18_0) (fun _ _ _ h => h) (Or.inl ⟨by rfl, ?_⟩) hHeld ?_ ?_
   rotate_left
   ·rintro w' ⟨s0, s1, s2, s3⟩
    go_simp
    with_reducible rfl
   rotate_left
   ·exact acq
   refine join_ (σ := Nat) 2 #[T,T,T,T,T,T,T,T,T,T,F,F] (fun s_ => [(25, .agg #[.int .i64 t439, .int .i64 t440, .int .i64 t441, .int .i64 t442]), (26, .tuple #[.agg #[.int .i64 t443, .int .i64 t444, .int .i64 t445, .int .i64 t446], .bool true]), (6, .pointer (some ⟨s_, 0, none⟩)), (20, .tuple #[.agg #[.int .i64 t443, .int .i64 t444, .int .i64 t445, .int .i64 t446], .bool true]), (27, .agg #[.int .i64 t443, .int .i64 t444, .int .i64 t445, .int .i64 t446]), (28, .bool true)]) (fun s_ w' => (w'.cell? ⟨gb438, 0, none⟩ = some (.int .i64 x439000_1) ∧ w'.cell? ⟨gb438, 1, none⟩ = some (.int .i64 x439001_1) ∧ w'.cell? ⟨gb438, 2, none⟩ = some (.int .i64 x439002_1) ∧ w'.cell? ⟨gb438, 3, none⟩ = some (.int .i64 x439003_1)) ∧ (w'.heap[gb437]? = some (.cells #[.int .i64 x438000_1, .int .i64 x438001_1, .int .i64 x438002_1, .int .i64 x438003_1] 41 (0, 0))) ∧ (w'.heap[gb438]? = some (.cells #[.int .i64 x439000_1, .int .i64 x439001_1, .int .i64 x439002_1, .int .i64 x439003_1] 41 (0, 0))) ∧ (w'.heap[s_]? = some (.cells #[.int .i64 0, .int .i64 0, .int .i64 0, .int .i64 0] 41 (0, 0))) ∧ (w.heap.size ≤ s_) ∧ (w.heap.size ≤ s_) ∧ (gb437 ≠ s_) ∧ (s_ ≠ gb437) ∧ (gb438 ≠ s_) ∧ (s_ ≠ gb438) ∧ (Below w.heap.size w w')) ?_ ?_
   rotate_left
   ·intro hCont
    refine two_ (i := 4) (j := 9) (Ni := some 25) (Nj := some 6) #[T,T,T,T,T,F,F,F,F,F,F,F] #[T,T,T,T,F,F,F,F,F,T,F,F] rfl rfl rfl rfl (two_of HT_.out z18_0) (by decide) (by decide) (fun K hK => ?_) (fun K hK => ?_)
    ·skip
     refine goes_ Try.func66 z18_0 rfl #[.int .u8 (bt a0 x5_1)] (by rfl) rfl rfl ln_18 ?_
     with_reducible refine (spec_l13Turn.calls (bt a0 x5_1) t439 t440 t441 t442 _ A12.out).mono ?_
     rintro e w16 ⟨rfl, hb⟩
     refine ⟨_, rfl, ?_⟩
     replace BK437 := bkz BK437 hb; replace BK438 := bkz BK438 hb; replace HB := Az.mk (bwT bw_18 hb)
     (try clear hb)
     (try clear hb2)
     (try clear hk)
     (try clear hi)
     refine hK.out _ _ cs_ (fun hHeld => ?_)
     clear hK K
     refine norm_ (a' := ?_) ?_ ?_
     rotate_left
     ·show Act.put _ (some 25) _ = _
      exact acq
     refine two_ (i := 5) (j := 9) (Ni := some 26) (Nj := some 6) #[T,T,T,T,T,T,F,F,F,F,F,F] #[T,T,T,T,T,F,F,F,F,T,F,F] rfl rfl rfl rfl (two_of HT_.out z18_0) (by decide) (by decide) (fun K hK => ?_) (fun K hK => ?_)
     ·skip
      refine goes_ Try.func65 z18_0 rfl #[.agg #[.int .i64 x439000_1, .int .i64 x439001_1, .int .i64 x439002_1, .int .i64 x439003_1], .agg #[.int .i64 t439, .int .i64 t440, .int .i64 t441, .int .i64 t442]] (by rfl) rfl rfl ln_18 ?_
      with_reducible refine (spec_TimesMatrix.calls kj5 x439000_1 x439001_1 x439002_1 x439003_1 t439 t440 t441 t442 t443 t444 t445 t446 true _ A13.out).mono ?_
      rintro e w17 ⟨rfl, hb⟩
      refine ⟨_, rfl, ?_⟩
      replace BK437 := bkz BK437 hb; replace BK438 := bkz BK438 hb; replace HB := Az.mk (bwT bw_18 hb)
      (try clear hb)
      (try clear hb2)
      (try clear hk)
      (try clear hi)
      refine hK.out _ _ cs_ (fun hHeld => ?_)
      clear hK K
      refine norm_ (a' := ?_) ?_ ?_
      rotate_left
      ·show Act.put _ (some 26) _ = _
       exact acq
      refine pu (i := 6) (N := some 20) #[T,T,T,T,T,T,T,F,F,F,F,F] (any_of HT_.out z18_0) ?_
      refine pu (i := 7) (N := some 27) #[T,T,T,T,T,T,T,T,F,F,F,F] (any_of HT_.out z18_0) ?_
      refine pu (i := 8) (N := some 28) #[T,T,T,T,T,T,T,T,T,F,F,F] (any_of HT_.out z18_0) ?_
      refine one_ (i := 9) (N := some 6) #[T,T,T,T,T,T,T,T,T,T,F,F] rfl rfl (one_of HT_.out z18_0) (by decide) (fun K hK => ?_)
      refine box_step ?hg (N := 6) ?hd (cs := #[.int .i64 0, .int .i64 0, .int .i64 0, .int .i64 0]) (t := 41) ?hr ?_; (case hd => rfl); (case hg => rfl); (case hr => first | (go_simp; done) | (go_simp; rfl))
      intro gb448 hg w18 hbox hb
      have BK448 := Az.mk (hbox); have GW448 := gwz hg bw_18; have GE448 := gwz hg bw_18; replace HB := Az.mk (bwT bw_18 hb); have NB437_448 := nlt BK437 hg; have NB448_437 := ngt BK437 hg; replace BK437 := bkz BK437 hb; have NB438_448 := nlt BK438 hg; have NB448_438 := ngt BK438 hg; replace BK438 := bkz BK438 hb
      clear hb hbox hg
      refine hK.out _ _ cs_ (fun hHeld => ?_)
      clear hK K
      refine norm_ (a' := ?_) ?_ ?_
      rotate_left
      ·show Act.put _ (some 6) _ = _
       exact acq
      exact norm_ z18_1 (hCont (gb448) _ ⟨hHeld, (bk1 BK437), (bk1 BK438), (bk1 BK448), GW448.out, GE448.out, NB437_448.out, NB448_437.out, NB438_448.out, NB448_438.out, bw_18⟩)
     skip
     refine box_step ?hg (N := 6) ?hd (cs := #[.int .i64 0, .int .i64 0, .int .i64 0, .int .i64 0]) (t := 41) ?hr ?_; (case hd => rfl); (case hg => rfl); (case hr => first | (go_simp; done) | (go_simp; rfl))
     intro gb448 hg w17 hbox hb
     have BK448 := Az.mk (hbox); have GW448 := gwz hg bw_18; have GE448 := gwz hg bw_18; replace HB := Az.mk (bwT bw_18 hb); have NB437_448 := nlt BK437 hg; have NB448_437 := ngt BK437 hg; replace BK437 := bkz BK437 hb; have NB438_448 := nlt BK438 hg; have NB448_438 := ngt BK438 hg; replace BK438 := bkz BK438 hb
     clear hb hbox hg
     refine hK.out _ _ cs_ (fun hHeld => ?_)
     clear hK K
     refine norm_ (a' := ?_) ?_ ?_
     rotate_left
     ·show Act.put _ (some 6) _ = _
      exact acq
     refine one_ (i := 5) (N := some 26) #[T,T,T,T,T,T,F,F,F,T,F,F] rfl rfl (one_of HT_.out z18_0) (by decide) (fun K hK => ?_)
     refine goes_ Try.func65 z18_0 rfl #[.agg #[.int .i64 x439000_1, .int .i64 x439001_1, .int .i64 x439002_1, .int .i64 x439003_1], .agg #[.int .i64 t439, .int .i64 t440, .int .i64 t441, .int .i64 t442]] (by rfl) rfl rfl ln_18 ?_
     with_reducible refine (spec_TimesMatrix.calls kj5 x439000_1 x439001_1 x439002_1 x439003_1 t439 t440 t441 t442 t443 t444 t445 t446 true _ A13.out).mono ?_
     rintro e w18 ⟨rfl, hb⟩
     refine ⟨_, rfl, ?_⟩
     replace BK437 := bkz BK437 hb; replace BK438 := bkz BK438 hb; replace BK448 := bkz BK448 hb; replace HB := Az.mk (bwT bw_18 hb)
     (try clear hb)
     (try clear hb2)
     (try clear hk)
     (try clear hi)
     refine hK.out _ _ cs_ (fun hHeld => ?_)
     clear hK K
     refine norm_ (a' := ?_) ?_ ?_
     rotate_left
     ·show Act.put _ (some 26) _ = _
      exact acq
     refine pu (i := 6) (N := some 20) #[T,T,T,T,T,T,T,F,F,T,F,F] (any_of HT_.out z18_0) ?_
     refine pu (i := 7) (N := some 27) #[T,T,T,T,T,T,T,T,F,T,F,F] (any_of HT_.out z18_0) ?_
     refine pu (i := 8) (N := some 28) #[T,T,T,T,T,T,T,T,T,T,F,F] (any_of HT_.out z18_0) ?_
     exact norm_ z18_1 (hCont (gb448) _ ⟨hHeld, (bk1 BK437), (bk1 BK438), (bk1 BK448), GW448.out, GE448.out, NB437_448.out, NB448_437.out, NB438_448.out, NB448_438.out, bw_18⟩)
    skip
    refine box_step ?hg (N := 6) ?hd (cs := #[.int .i64 0, .int .i64 0, .int .i64 0, .int .i64 0]) (t := 41) ?hr ?_; (case hd => rfl); (case hg => rfl); (case hr => first | (go_simp; done) | (go_simp; rfl))
    intro gb448 hg w16 hbox hb
    have BK448 := Az.mk (hbox); have GW448 := gwz hg bw_18; have GE448 := gwz hg bw_18; replace HB := Az.mk (bwT bw_18 hb); have NB437_448 := nlt BK437 hg; have NB448_437 := ngt BK437 hg; replace BK437 := bkz BK437 hb; have NB438_448 := nlt BK438 hg; have NB448_438 := ngt BK438 hg; replace BK438 := bkz BK438 hb
    clear hb hbox hg
    refine hK.out _ _ cs_ (fun hHeld => ?_)
    clear hK K
    refine norm_ (a' := ?_) ?_ ?_
    rotate_left
    ·show Act.put _ (some 6) _ = _
     exact acq
    refine one_ (i := 4) (N := some 25) #[T,T,T,T,T,F,F,F,F,T,F,F] rfl rfl (one_of HT_.out z18_0) (by decide) (fun K hK => ?_)
    refine goes_ Try.func66 z18_0 rfl #[.int .u8 (bt a0 x5_1)] (by rfl) rfl rfl ln_18 ?_
    with_reducible refine (spec_l13Turn.calls (bt a0 x5_1) t439 t440 t441 t442 _ A12.out).mono ?_
    rintro e w17 ⟨rfl, hb⟩
    refine ⟨_, rfl, ?_⟩
    replace BK437 := bkz BK437 hb; replace BK438 := bkz BK438 hb; replace BK448 := bkz BK448 hb; replace HB := Az.mk (bwT bw_18 hb)
    (try clear hb)
    (try clear hb2)
    (try clear hk)
    (try clear hi)
    refine hK.out _ _ cs_ (fun hHeld => ?_)
    clear hK K
    refine norm_ (a' := ?_) ?_ ?_
    rotate_left
    ·show Act.put _ (some 25) _ = _
     exact acq
    refine one_ (i := 5) (N := some 26) #[T,T,T,T,T,T,F,F,F,T,F,F] rfl rfl (one_of HT_.out z18_0) (by decide) (fun K hK => ?_)
    refine goes_ Try.func65 z18_0 rfl #[.agg #[.int .i64 x439000_1, .int .i64 x439001_1, .int .i64 x439002_1, .int .i64 x439003_1], .agg #[.int .i64 t439, .int .i64 t440, .int .i64 t441, .int .i64 t442]] (by rfl) rfl rfl ln_18 ?_
    with_reducible refine (spec_TimesMatrix.calls kj5 x439000_1 x439001_1 x439002_1 x439003_1 t439 t440 t441 t442 t443 t444 t445 t446 true _ A13.out).mono ?_
    rintro e w18 ⟨rfl, hb⟩
    refine ⟨_, rfl, ?_⟩
    replace BK437 := bkz BK437 hb; replace BK438 := bkz BK438 hb; replace BK448 := bkz BK448 hb; replace HB := Az.mk (bwT bw_18 hb)
    (try clear hb)
    (try clear hb2)
    (try clear hk)
    (try clear hi)
    refine hK.out _ _ cs_ (fun hHeld => ?_)
    clear hK K
    refine norm_ (a' := ?_) ?_ ?_
    rotate_left
    ·show Act.put _ (some 26) _ = _
     exact acq
    refine pu (i := 6) (N := some 20) #[T,T,T,T,T,T,T,F,F,T,F,F] (any_of HT_.out z18_0) ?_
    refine pu (i := 7) (N := some 27) #[T,T,T,T,T,T,T,T,F,T,F,F] (any_of HT_.out z18_0) ?_
    refine pu (i := 8) (N := some 28) #[T,T,T,T,T,T,T,T,T,T,F,F] (any_of HT_.out z18_0) ?_
    exact norm_ z18_1 (hCont (gb448) _ ⟨hHeld, (bk1 BK437), (bk1 BK438), (bk1 BK448), GW448.out, GE448.out, NB437_448.out, NB448_437.out, NB438_448.out, NB448_438.out, bw_18⟩)
   rintro gb448 w19 ⟨hS_, h0_, h1_, h2_, h3_, h4_, h5_, h6_, h7_, h8_, h9_⟩
   have n0_ : Az (w19.heap[gb437]? = some (.cells #[.int .i64 x438000_1, .int .i64 x438001_1, .int .i64 x438002_1, .int .i64 x438003_1] 41 (0, 0))) := ⟨h0_⟩
   have n1_ : Az (w19.heap[gb438]? = some (.cells #[.int .i64 x439000_1, .int .i64 x439001_1, .int .i64 x439002_1, .int .i64 x439003_1] 41 (0, 0))) := ⟨h1_⟩
   have n2_ : Az (w19.heap[gb448]? = some (.cells #[.int .i64 0, .int .i64 0, .int .i64 0, .int .i64 0] 41 (0, 0))) := ⟨h2_⟩
   have n3_ : Az (w.heap.size ≤ gb448) := ⟨h3_⟩
   have n4_ : Az (w.heap.size ≤ gb448) := ⟨h4_⟩
   have n5_ : Az (gb437 ≠ gb448) := ⟨h5_⟩
   have n6_ : Az (gb448 ≠ gb437) := ⟨h6_⟩
   have n7_ : Az (gb438 ≠ gb448) := ⟨h7_⟩
   have n8_ : Az (gb448 ≠ gb438) := ⟨h8_⟩
   have n9_ : Az (Below w.heap.size w w19) := ⟨h9_⟩
   clear BK437
   clear BK438
   clear HB
   clear h0_ h1_ h2_ h3_ h4_ h5_ h6_ h7_ h8_ h9_
   have BK437 := n0_
   have BK438 := n1_
   have BK448 := n2_
   have GW448 := n3_
   have GE448 := n4_
   have NB437_448 := n5_
   have NB448_437 := n6_
   have NB438_448 := n7_
   have NB448_438 := n8_
   have HB := n9_
   clear n0_ n1_ n2_ n3_ n4_ n5_ n6_ n7_ n8_ n9_
   have hHeld : w19.cell? ⟨gb438, 0, none⟩ = some (.int .i64 x439000_1) ∧ w19.cell? ⟨gb438, 1, none⟩ = some (.int .i64 x439001_1) ∧ w19.cell? ⟨gb438, 2, none⟩ = some (.int .i64 x439002_1) ∧ w19.cell? ⟨gb438, 3, none⟩ = some (.int .i64 x439003_1) := hS_
   refine norm_ (a' := ?_) ?_ ?_
   rotate_left
   ·simp only [putAll, Act.put, List.setIfInBounds_toArray, List.set_cons_zero, List.set_cons_succ]
    rfl
   refine one_ (i := 10) (N := none) #[T,T,T,T,T,T,T,T,T,T,T,F] rfl rfl (one_of HT_.out z18_0) (by decide) (fun K hK => ?_)
   have hs20 := bkc0 BK448
   have hfs20 := bkF BK448.out 0
   have hns20_0 := NB437_448.out
   have hns20_1 := NB438_448.out
   have hms20_0 := NB448_437.out
   have hms20_1 := NB448_438.out
   have hs21 := bkc1 BK448
   have hfs21 := bkF BK448.out 1
   have hns21_0 := NB437_448.out
   have hns21_1 := NB438_448.out
   have hms21_0 := NB448_437.out
   have hms21_1 := NB448_438.out
   have hs22 := bkc2 BK448
   have hfs22 := bkF BK448.out 2
   have hns22_0 := NB437_448.out
   have hns22_1 := NB438_448.out
   have hms22_0 := NB448_437.out
   have hms22_1 := NB448_438.out
   have hs23 := bkc3 BK448
   have hfs23 := bkF BK448.out 3
   have hns23_0 := NB437_448.out
   have hns23_1 := NB438_448.out
   have hms23_0 := NB448_437.out
   have hms23_1 := NB448_438.out
   refine skip_ (w1 := ?_) (by rfl) rfl ?_ ?_
   rotate_left
   ·go_simp
    rfl
   refine hK.out _ _ ⟨((cell_far (p := ⟨gb448, _, none⟩) NB438_448.out _).trans (((cell_far (p := ⟨gb448, _, none⟩) NB438_448.out _).trans (((cell_far (p := ⟨gb448, _, none⟩) NB438_448.out _).trans (((cell_far (p := ⟨gb448, _, none⟩) NB438_448.out _).trans (hHeld.1)))))))), ((cell_far (p := ⟨gb448, _, none⟩) NB438_448.out _).trans (((cell_far (p := ⟨gb448, _, none⟩) NB438_448.out _).trans (((cell_far (p := ⟨gb448, _, none⟩) NB438_448.out _).trans (((cell_far (p := ⟨gb448, _, none⟩) NB438_448.out _).trans (hHeld.2.1)))))))), ((cell_far (p := ⟨gb448, _, none⟩) NB438_448.out _).trans (((cell_far (p := ⟨gb448, _, none⟩) NB438_448.out _).trans (((cell_far (p := ⟨gb448, _, none⟩) NB438_448.out _).trans (((cell_far (p := ⟨gb448, _, none⟩) NB438_448.out _).trans (hHeld.2.2.1)))))))), ((cell_far (p := ⟨gb448, _, none⟩) NB438_448.out _).trans (((cell_far (p := ⟨gb448, _, none⟩) NB438_448.out _).trans (((cell_far (p := ⟨gb448, _, none⟩) NB438_448.out _).trans (((cell_far (p := ⟨gb448, _, none⟩) NB438_448.out _).trans (hHeld.2.2.2))))))))⟩ (fun hHeld => ?_)
   clear hK K
   refine pu (i := 11) (N := some 7) #[T,T,T,T,T,T,T,T,T,T,T,T] (any_of HT_.out z18_0) ?_
   refine done_ (done_of HT_.out z18_0) ?_
   have hnb24 := NB448_437.out
   have hnc24 := NB437_448.out
   have hnb25 := NB448_438.out
   have hnc25 := NB438_448.out
   have hcz26_0 := bkc0 BK448
   have hcz26_1 := bkc1 BK448
   have hcz26_2 := bkc2 BK448
   have hcz26_3 := bkc3 BK448
   have hfz26_0 := bkF BK448.out 0
   have hfz26_1 := bkF BK448.out 1
   have hfz26_2 := bkF BK448.out 2
   have hfz26_3 := bkF BK448.out 3
   have hnb27 := NB438_437.out
   have hnc27 := NB437_438.out
   have hcz28_0 := bkc0 BK438
   have hcz28_1 := bkc1 BK438
   have hcz28_2 := bkc2 BK438
   have hcz28_3 := bkc3 BK438
   have hfz28_0 := bkF BK438.out 0
   have hfz28_1 := bkF BK438.out 1
   have hfz28_2 := bkF BK438.out 2
   have hfz28_3 := bkF BK438.out 3
   try go_wp2
   go_roundg kj5
   case measure => have := HK1.out; have := HJ5.out; omega
   case rel => exact ⟨(wrap64 (x5_1 + 1)), (x438000_1), (x438001_1), (x438002_1), (x438003_1), (t443), (t444), (t445), (t446), rq2, H', ⟨by have := HK1.out; have := HJ5.out; omega⟩, ⟨bkv⟩, ⟨bkv⟩, ⟨bw_18⟩⟩

end Go.Proofs.Ytigcjehokbgclaa.P

-- By this session's driver (wip/tools/mk.py) of the kit's print program, over several statements at once. Not trusted: Lean checks it.
import Derived.Test.YtnoiijdffdpabaaDoorQWZip
import Derived.Test.YtnoiijdffdpabaaDoorQPx0
import Derived.Test.YtnoiijdffdpabaaDoorQPx9
namespace Go.Proofs.YtnoiijdffdpabaaDoor.P
open Go.RowKit Go.Proofs.YtnoiijdffdpabaaDoorW.PrintWords Go.Proofs.YtnoiijdffdpabaaDoorW.PrintLast Go.Proofs.YtnoiijdffdpabaaDoorW.PrintMore
attribute [local go_sem] max2_int min2_int max_two min_two max_three min_three max_four min_four   -- for this text's walks alone
set_option linter.unusedVariables false
set_option linter.unusedSimpArgs false
open Bool renaming true → T, false → F
theorem bw_10 {n : Nat} {v v' : World} (h : Below n v v' := by repeat (first | (with_reducible first | exact HB.out | apply bwA | apply pbN | apply bwD | refine bwS ?_ GE173.out | refine bwS ?_ GE174.out | refine bwS ?_ GE184.out) | exact HB.out)) : Below n v v' := h
theorem ln_10 {P : Prop} (h : P := by (try simp only [List.map_toArray, List.map_cons, List.map_nil]); first | done | rfl | (simp only [List.length_drop, List.length_take]; rfl)) : P := h
theorem z10_1 {p : Prop} (h : p := by simp only [putAll, Act.put, List.setIfInBounds_toArray, List.set_cons_zero, List.set_cons_succ]) : p := h
theorem z10_0 {p : Prop} (h : p := by kernel_rfl) : p := h

/-! ### spec_TurnsOf: function 17 -/
mutual
def spec_TurnsOf.l0 : Nat → ByteArray → Int → Int → Int → Int → Int → Option (Int × Int × Int × Int × Bool)
 | 0, _, _, _, _, _, _ => none
 | k + 1, x0, x5, x175000, x175001, x175002, x175003 => if x5 < (x0.size : Int) then (spec_TurnsOf.j1 k x0 x5 (decide ((x0.size : Int) ≤ 24)) x175000 x175001 x175002 x175003) else (spec_TurnsOf.j1 k x0 x5 false x175000 x175001 x175002 x175003)
def spec_TurnsOf.j1 : Nat → ByteArray → Int → Bool → Int → Int → Int → Int → Option (Int × Int × Int × Int × Bool)
 | 0, _, _, _, _, _, _, _ => none
 | k + 1, x0, x5, x17, x175000, x175001, x175002, x175003 => if x17 = true then (if 0 ≤ x5 then (if x5 < (x0.size : Int) then ((spec_l13Turn.f (bt x0 x5)).bind fun bt175 => ((spec_TimesMatrix.f k x175000 x175001 x175002 x175003 bt175.1 bt175.2.1 bt175.2.2.1 bt175.2.2.2).bind fun bt179 => (if bt179.2.2.2.2 = true then (spec_TurnsOf.l0 k x0 (wrap64 (x5 + 1)) bt179.1 bt179.2.1 bt179.2.2.1 bt179.2.2.2.1) else (some (0, 0, 0, 0, false))))) else (none)) else (none)) else (if (x0.size : Int) > 24 then (some (0, 0, 0, 0, false)) else (some (x175000, x175001, x175002, x175003, true)))
end
def spec_TurnsOf.f (k : Nat) (a0 : ByteArray) : Option (Int × Int × Int × Int × Bool) := spec_TurnsOf.l0 k a0 0 1 0 0 1
theorem spec_TurnsOf.mono_l : ∀ k, (∀ y0 y1 y2 y3 y4 y5, LeO (spec_TurnsOf.l0 k y0 y1 y2 y3 y4 y5) (spec_TurnsOf.l0 (k + 1) y0 y1 y2 y3 y4 y5)) ∧ (∀ y0 y1 y2 y3 y4 y5 y6, LeO (spec_TurnsOf.j1 k y0 y1 y2 y3 y4 y5 y6) (spec_TurnsOf.j1 (k + 1) y0 y1 y2 y3 y4 y5 y6))
 | 0 => ⟨fun _ _ _ _ _ _ r h => by simp [spec_TurnsOf.l0] at h, fun _ _ _ _ _ _ _ r h => by simp [spec_TurnsOf.j1] at h⟩
 | k + 1 => by
  obtain ⟨ih0, ih1⟩ := spec_TurnsOf.mono_l k
  have i0 := fun z0 z1 z2 z3 z4 z5 => MoO.mk (ih0 z0 z1 z2 z3 z4 z5)
  have i1 := fun z0 z1 z2 z3 z4 z5 z6 => MoO.mk (ih1 z0 z1 z2 z3 z4 z5 z6)
  refine ⟨?_, ?_⟩
  ·intro y0 y1 y2 y3 y4 y5
   unfold spec_TurnsOf.l0
   exact mo_
  intro y0 y1 y2 y3 y4 y5 y6
  unfold spec_TurnsOf.j1
  exact mo_
theorem spec_TurnsOf.mono : ∀ a0 k, LeO (spec_TurnsOf.f k a0) (spec_TurnsOf.f (k + 1) a0) := by
 intro a0 k
 obtain ⟨ih0, ih1⟩ := spec_TurnsOf.mono_l k
 have i0 := fun z0 z1 z2 z3 z4 z5 => MoO.mk (ih0 z0 z1 z2 z3 z4 z5)
 have i1 := fun z0 z1 z2 z3 z4 z5 z6 => MoO.mk (ih1 z0 z1 z2 z3 z4 z5 z6)
 unfold spec_TurnsOf.f
 exact mo_
instance spec_TurnsOf.mi {a0 k} : MoO (spec_TurnsOf.f k a0) (spec_TurnsOf.f (k + 1) a0) := ⟨spec_TurnsOf.mono _ _⟩
def spec_TurnsOf.T5 : Bool × List (List Nat × List Nat) := (true, [([], []), ([], []), ([], []), ([1, 2], [1, 2]), ([3], [3]), ([0, 4, 4], [0, 4]), ([5], [5]), ([6], [6]), ([6], [6]), ([], []), ([9, 7, 5, 0, 1, 2, 3, 4, 5, 6, 7, 9], [7, 9]), ([8, 10, 0, 1, 2, 3, 4, 5, 6, 7, 8, 9, 10], [8])])
def spec_TurnsOf.B5 : List Nat := [0, 0, 0, 6, 14, 31, 63, 127, 127, 0, 767, 2047]
theorem spec_TurnsOf.tab5 : rtab .any (opsOf Tryd.f17 5) = spec_TurnsOf.T5 := by kernel_rfl
theorem spec_TurnsOf.bits5 : waitsOk spec_TurnsOf.T5.2 spec_TurnsOf.B5 = true := by kernel_rfl
set_option maxHeartbeats 8000000 in
set_option maxRecDepth 100000 in
theorem spec_TurnsOf.calls (k : Nat) (a0 : ByteArray) (r1 : Int) (r2 : Int) (r3 : Int) (r4 : Int) (r5 : Bool) (w : World) (h : spec_TurnsOf.f k a0 = some (r1, r2, r3, r4, r5)) :
  Calls Tryd.prog 17 #[.string a0] w fun e w' => e = .returned (.tuple #[.agg #[.int .i64 r1, .int .i64 r2, .int .i64 r3, .int .i64 r4], .bool r5]) ∧ Below w.heap.size w w' := by
 have hu25 := Tryd.underlying25
 have HB := Az.mk (Below.refl w.heap.size w)
 have H : (spec_TurnsOf.l0 k a0 0 1 0 0 1) = some (r1, r2, r3, r4, r5) := h
 clear h
 have H' := Az.mk H
 clear H
 go_enter Tryd.func17, Tryd.ntmps17
 go_wp2_with (first | ((with_reducible refine gtD (N := 2) rfl ?_); (try (refine gate_guard (by rfl) ?_; dsimp only)); refine bx (N := 2) (cs := #[.int .i64 0, .int .i64 0, .int .i64 0, .int .i64 0]) (t := 25) ?_; intro gb173 hg w2 hbox hb; have BK173 := Az.mk (hbox); have GW173 := gwz hg bw_10; have GE173 := gwz hg bw_10; replace HB := Az.mk (bwT bw_10 hb); clear hb hbox hg) | ((with_reducible refine gtD (N := 4) rfl ?_); (try (refine gate_guard (by rfl) ?_; dsimp only)); refine bx (N := 4) (cs := #[.int .i64 0, .int .i64 0, .int .i64 0, .int .i64 0]) (t := 25) ?_; intro gb174 hg w3 hbox hb; have BK174 := Az.mk (hbox); have GW174 := gwz hg bw_10; have GE174 := gwz hg bw_10; replace HB := Az.mk (bwT bw_10 hb); have NB173_174 := nlt BK173 hg; have NB174_173 := ngt BK173 hg; replace BK173 := bkz BK173 hb; clear hb hbox hg; have hnb4 := NB174_173.out; have hnc4 := NB173_174.out; obtain ⟨hcz5_0, hcz5_1, hcz5_2, hcz5_3, hfz5_0, hfz5_1, hfz5_2, hfz5_3⟩ := bq4 BK174))
 go_loopg [5] k (fun kq v5 w' => ∃ (x5_1 : Int) (x174000_1 : Int) (x174001_1 : Int) (x174002_1 : Int) (x174003_1 : Int) (x175000_1 : Int) (x175001_1 : Int) (x175002_1 : Int) (x175003_1 : Int), v5 = .int .i64 x5_1 ∧ Az (spec_TurnsOf.l0 kq a0 x5_1 x175000_1 x175001_1 x175002_1 x175003_1 = some (r1, r2, r3, r4, r5)) ∧ Az (kq ≤ k) ∧ Az (w'.heap[gb173]? = some (.cells #[.int .i64 x174000_1, .int .i64 x174001_1, .int .i64 x174002_1, .int .i64 x174003_1] 25 (0, 0))) ∧ Az (w'.heap[gb174]? = some (.cells #[.int .i64 x175000_1, .int .i64 x175001_1, .int .i64 x175002_1, .int .i64 x175003_1] 25 (0, 0))) ∧ Az (Below w.heap.size w w'))
 case atStart => exact ⟨(0), (0), (0), (0), (0), (1), (0), (0), (1), rq2, H', ⟨Nat.le_refl _⟩, ⟨bkv⟩, ⟨bkv⟩, ⟨bw_10⟩⟩
 clear H'
 try clear hcz5_0
 try clear hcz5_1
 try clear hcz5_2
 try clear hcz5_3
 try clear hfz5_0
 try clear hfz5_1
 try clear hfz5_2
 try clear hfz5_3
 obtain ⟨x5_1, x174000_1, x174001_1, x174002_1, x174003_1, x175000_1, x175001_1, x175002_1, x175003_1, rfl, HA, HK1, BK173, BK174, HB⟩ := hrel
 cases gk with
 | zero => exact absurd HA.out (by simp [spec_TurnsOf.l0])
 | succ k1 =>
  have H := HA.out
  clear HA
  simp only [spec_TurnsOf.l0] at H
  have HC6 := Az.mk H
  clear H
  go_upto_region 3 with (fail)
  go_cut [17] (fun v17 wc => ∃ (kq : Nat) (x17_5 : Bool), v17 = .bool x17_5 ∧ Az (spec_TurnsOf.j1 kq a0 x5_1 x17_5 x175000_1 x175001_1 x175002_1 x175003_1 = some (r1, r2, r3, r4, r5)) ∧ Az (kq ≤ k1) ∧ Az (wc.heap[gb173]? = some (.cells #[.int .i64 x174000_1, .int .i64 x174001_1, .int .i64 x174002_1, .int .i64 x174003_1] 25 (0, 0))) ∧ Az (wc.heap[gb174]? = some (.cells #[.int .i64 x175000_1, .int .i64 x175001_1, .int .i64 x175002_1, .int .i64 x175003_1] 25 (0, 0))) ∧ Az (Below w.heap.size w wc))
  case first =>
   have H := HC6.out
   clear HC6
   by_cases c7 : x5_1 < (a0.size : Int)
   ·rw [if_pos c7] at H
    have c7b0 : decide (x5_1 < (a0.size : Int)) = true := decide_eq_true c7
    clear c7
    (first | rw [c7b0] | (simp only [i64_w, i32_w]; rw [c7b0]) | skip)
    have H' := Az.mk H
    clear H
    go_wp2
    go_meet
    case rel => exact ⟨_, (decide ((a0.size : Int) ≤ 24)), rq2, H', ⟨by have := HK1.out; first | omega | exact Nat.le_refl _⟩, ⟨bk1 BK173⟩, ⟨bk1 BK174⟩, ⟨bw_10⟩⟩
   rw [if_neg c7] at H
   have c7b0 : decide (x5_1 < (a0.size : Int)) = false := decide_eq_false c7
   clear c7
   (first | rw [c7b0] | (simp only [i64_w, i32_w]; rw [c7b0]) | skip)
   have H' := Az.mk H
   clear H
   go_wp2
   go_meet
   case rel => exact ⟨_, (false), rq2, H', ⟨by have := HK1.out; first | omega | exact Nat.le_refl _⟩, ⟨bk1 BK173⟩, ⟨bk1 BK174⟩, ⟨bw_10⟩⟩
  clear HC6
  try clear c7
  try clear c7b0
  try clear hcz5_0
  try clear hcz5_1
  try clear hcz5_2
  try clear hcz5_3
  try clear hfz5_0
  try clear hfz5_1
  try clear hfz5_2
  try clear hfz5_3
  obtain ⟨kq, x17_5, rfl, HA, HJ5, BK173, BK174, HB⟩ := hcut
  cases kq with
  | zero => exact absurd HA.out (by simp [spec_TurnsOf.j1])
  | succ kj5 =>
   have H := HA.out
   clear HA
   simp only [spec_TurnsOf.j1] at H
   by_cases c8 : x17_5 = true
   rotate_left
   ·replace c8 := Bool.eq_false_iff.mpr c8
    subst c8
    rw [if_neg (show ¬ (false = true) by decide)] at H
    by_cases c41 : (a0.size : Int) > 24
    ·rw [if_pos c41] at H
     have c41b0 : decide (24 < (a0.size : Int)) = true := decide_eq_true c41
     have c41b1 : decide (24 < a0.size) = true := decide_eq_true (by omega)
     clear c41
     simp only [Option.some.injEq, Prod.mk.injEq] at H
     obtain ⟨rfl, rfl, rfl, rfl, rfl⟩ := H
     have hnb42 := NB173_174.out
     have hnc42 := NB174_173.out
     have hcz43_0 := bkc0 BK173
     have hcz43_1 := bkc1 BK173
     have hcz43_2 := bkc2 BK173
     have hcz43_3 := bkc3 BK173
     have hfz43_0 := bkF BK173.out 0
     have hfz43_1 := bkF BK173.out 1
     have hfz43_2 := bkF BK173.out 2
     have hfz43_3 := bkF BK173.out 3
     go_wp2
     refine bodyPost_ret (results_ct rfl _ _ gb173 25 #[.int .i64 0, .int .i64 0, .int .i64 0, .int .i64 0] (0, 0) _ rfl bkv Tryd.underlying25 rfl z10_0) rfl ?_
     exact ⟨rq1, bw_10⟩
    rw [if_neg c41] at H
    have c41b0 : decide (24 < (a0.size : Int)) = false := decide_eq_false c41
    have c41b1 : decide (24 < a0.size) = false := decide_eq_false (by omega)
    clear c41
    simp only [Option.some.injEq, Prod.mk.injEq] at H
    obtain ⟨rfl, rfl, rfl, rfl, rfl⟩ := H
    have hnb44 := NB174_173.out
    have hnc44 := NB173_174.out
    have hcz45_0 := bkc0 BK174
    have hcz45_1 := bkc1 BK174
    have hcz45_2 := bkc2 BK174
    have hcz45_3 := bkc3 BK174
    have hfz45_0 := bkF BK174.out 0
    have hfz45_1 := bkF BK174.out 1
    have hfz45_2 := bkF BK174.out 2
    have hfz45_3 := bkF BK174.out 3
    have hcz46_0 := bkc0 BK173
    have hcz46_1 := bkc1 BK173
    have hcz46_2 := bkc2 BK173
    have hcz46_3 := bkc3 BK173
    have hfz46_0 := bkF BK173.out 0
    have hfz46_1 := bkF BK173.out 1
    have hfz46_2 := bkF BK173.out 2
    have hfz46_3 := bkF BK173.out 3
    go_wp2
    refine bodyPost_ret (results_ct rfl _ _ gb173 25 #[.int .i64 x175000_1, .int .i64 x175001_1, .int .i64 x175002_1, .int .i64 x175003_1] (0, 0) _ rfl bkv Tryd.underlying25 rfl z10_0) rfl ?_
    exact ⟨rq1, bw_10⟩
   subst c8
   rw [if_pos rfl] at H
   by_cases c9 : 0 ≤ x5_1
   rotate_left
   ·rw [if_neg c9] at H
    exact absurd H (by simp)
   rw [if_pos c9] at H
   have c9b0 : decide (0 ≤ x5_1) = true := decide_eq_true c9
   clear c9
   by_cases c10 : x5_1 < (a0.size : Int)
   rotate_left
   ·rw [if_neg c10] at H
    exact absurd H (by simp)
   rw [if_pos c10] at H
   have c10b0 : decide (x5_1 < (a0.size : Int)) = true := decide_eq_true c10
   clear c10
   replace H := bez H
   obtain ⟨⟨t175, t176, t177, t178⟩, A12, H⟩ := H
   try dsimp only at H
   replace H := bez H
   obtain ⟨⟨t179, t180, t181, t182, t183⟩, A13, H⟩ := H
   try dsimp only at H
   by_cases c14 : t183 = true
   rotate_left
   ·replace c14 := Bool.eq_false_iff.mpr c14
    subst c14
    rw [if_neg (show ¬ (false = true) by decide)] at H
    simp only [Option.some.injEq, Prod.mk.injEq] at H
    obtain ⟨rfl, rfl, rfl, rfl, rfl⟩ := H
    try go_wp2
    replace BK173 := Az.mk (bkD BK173.out); replace BK174 := Az.mk (bkD BK174.out); replace HB := Az.mk (bwD HB.out)
    have p11 : 0 ≤ (x5_1 : Int) := of_decide_eq_true (by first | (with_reducible assumption) | assumption)
    have q11 : x5_1 < (a0.size : Int) := of_decide_eq_true (by first | (with_reducible assumption) | assumption)
    have hx11 := bt_at a0 x5_1
    replace p11 := eq_true p11
    replace q11 := eq_true q11
    refine start_ (n := 12) (S := fun w' => w'.cell? ⟨gb174, 0, none⟩ = some (.int .i64 x175000_1) ∧ w'.cell? ⟨gb174, 1, none⟩ = some (.int .i64 x175001_1) ∧ w'.cell? ⟨gb174, 2, none⟩ = some (.int .i64 x175002_1) ∧ w'.cell? ⟨gb174, 3, none⟩ = some (.int .i64 x175003_1)) (ds := []) #[F,F,F,F,F,F,F,F,F,F,F,F] z10_0 rfl rfl cs_ (fun hHeld => ?_); refine with_tabW spec_TurnsOf.tab5 spec_TurnsOf.bits5 (fun HT_ HW_ => ?_)
    generalize wc.drew = w29 at BK173 BK174 HB hHeld ⊢
    refine pu (i := 1) (N := some 22) #[F,T,F,F,F,F,F,F,F,F,F,F] (any_of HT_.out z10_0) ?_
    refine pu (i := 2) (N := some 23) #[F,T,T,F,F,F,F,F,F,F,F,F] (any_of HT_.out z10_0) ?_
    refine take_ (i := 0) (N := some 21) (v := ?_) (a' := ?_) #[T,T,T,F,F,F,F,F,F,F,F,F] rfl rfl (take_ofW HT_.out HW_.out z10_0) (fun _ _ _ h => h) (Or.inl ⟨by rfl, ?_⟩) hHeld ?_ ?_
    rotate_left
    ·rintro w' ⟨s0, s1, s2, s3⟩
     go_simp
     with_reducible rfl
    rotate_left
    ·exact acq
    refine take_ (i := 3) (N := some 24) (v := ?_) (a' := ?_) #[T,T,T,T,F,F,F,F,F,F,F,F] rfl rfl (take_ofW HT_.out HW_.out z10_0) (fun _ _ _ h => h) (Or.inl ⟨by rfl, ?_⟩) hHeld ?_ ?_
    rotate_left
    ·rintro w' ⟨s0, s1, s2, s3⟩
     go_simp
     with_reducible rfl
    rotate_left
    ·exact acq
    refine join_ (σ := Nat) 2 #[T,T,T,T,T,T,T,T,T,T,F,F] (fun s_ => [(25, .agg #[.int .i64 t175, .int .i64 t176, .int .i64 t177, .int .i64 t178]), (26, .tuple #[.agg #[.int .i64 t179, .int .i64 t180, .int .i64 t181, .int .i64 t182], .bool false]), (6, .pointer (some ⟨s_, 0, none⟩)), (20, .tuple #[.agg #[.int .i64 t179, .int .i64 t180, .int .i64 t181, .int .i64 t182], .bool false]), (27, .agg #[.int .i64 t179, .int .i64 t180, .int .i64 t181, .int .i64 t182]), (28, .bool false)]) (fun s_ w' => (w'.cell? ⟨gb174, 0, none⟩ = some (.int .i64 x175000_1) ∧ w'.cell? ⟨gb174, 1, none⟩ = some (.int .i64 x175001_1) ∧ w'.cell? ⟨gb174, 2, none⟩ = some (.int .i64 x175002_1) ∧ w'.cell? ⟨gb174, 3, none⟩ = some (.int .i64 x175003_1)) ∧ (w'.heap[gb173]? = some (.cells #[.int .i64 x174000_1, .int .i64 x174001_1, .int .i64 x174002_1, .int .i64 x174003_1] 25 (0, 0))) ∧ (w'.heap[gb174]? = some (.cells #[.int .i64 x175000_1, .int .i64 x175001_1, .int .i64 x175002_1, .int .i64 x175003_1] 25 (0, 0))) ∧ (w'.heap[s_]? = some (.cells #[.int .i64 0, .int .i64 0, .int .i64 0, .int .i64 0] 25 (0, 0))) ∧ (w.heap.size ≤ s_) ∧ (w.heap.size ≤ s_) ∧ (gb173 ≠ s_) ∧ (s_ ≠ gb173) ∧ (gb174 ≠ s_) ∧ (s_ ≠ gb174) ∧ (Below w.heap.size w w')) ?_ ?_
    rotate_left
    ·intro hCont
     refine two_ (i := 4) (j := 9) (Ni := some 25) (Nj := some 6) #[T,T,T,T,T,F,F,F,F,F,F,F] #[T,T,T,T,F,F,F,F,F,T,F,F] rfl rfl rfl rfl (two_of HT_.out z10_0) (by decide) (by decide) (fun K hK => ?_) (fun K hK => ?_)
     ·skip
      refine goes_ Tryd.func50 z10_0 rfl #[.int .u8 (bt a0 x5_1)] (by rfl) rfl rfl ln_10 ?_
      with_reducible refine (spec_l13Turn.calls (bt a0 x5_1) t175 t176 t177 t178 _ A12.out).mono ?_
      rintro e w30 ⟨rfl, hb⟩
      refine ⟨_, rfl, ?_⟩
      replace BK173 := bkz BK173 hb; replace BK174 := bkz BK174 hb; replace HB := Az.mk (bwT bw_10 hb)
      (try clear hb)
      (try clear hb2)
      (try clear hk)
      (try clear hi)
      refine hK.out _ _ cs_ (fun hHeld => ?_)
      clear hK K
      refine norm_ (a' := ?_) ?_ ?_
      rotate_left
      ·show Act.put _ (some 25) _ = _
       exact acq
      refine two_ (i := 5) (j := 9) (Ni := some 26) (Nj := some 6) #[T,T,T,T,T,T,F,F,F,F,F,F] #[T,T,T,T,T,F,F,F,F,T,F,F] rfl rfl rfl rfl (two_of HT_.out z10_0) (by decide) (by decide) (fun K hK => ?_) (fun K hK => ?_)
      ·skip
       refine goes_ Tryd.func11 z10_0 rfl #[.agg #[.int .i64 x175000_1, .int .i64 x175001_1, .int .i64 x175002_1, .int .i64 x175003_1], .agg #[.int .i64 t175, .int .i64 t176, .int .i64 t177, .int .i64 t178]] (by rfl) rfl rfl ln_10 ?_
       with_reducible refine (spec_TimesMatrix.calls kj5 x175000_1 x175001_1 x175002_1 x175003_1 t175 t176 t177 t178 t179 t180 t181 t182 false _ A13.out).mono ?_
       rintro e w31 ⟨rfl, hb⟩
       refine ⟨_, rfl, ?_⟩
       replace BK173 := bkz BK173 hb; replace BK174 := bkz BK174 hb; replace HB := Az.mk (bwT bw_10 hb)
       (try clear hb)
       (try clear hb2)
       (try clear hk)
       (try clear hi)
       refine hK.out _ _ cs_ (fun hHeld => ?_)
       clear hK K
       refine norm_ (a' := ?_) ?_ ?_
       rotate_left
       ·show Act.put _ (some 26) _ = _
        exact acq
       refine pu (i := 6) (N := some 20) #[T,T,T,T,T,T,T,F,F,F,F,F] (any_of HT_.out z10_0) ?_
       refine pu (i := 7) (N := some 27) #[T,T,T,T,T,T,T,T,F,F,F,F] (any_of HT_.out z10_0) ?_
       refine pu (i := 8) (N := some 28) #[T,T,T,T,T,T,T,T,T,F,F,F] (any_of HT_.out z10_0) ?_
       refine one_ (i := 9) (N := some 6) #[T,T,T,T,T,T,T,T,T,T,F,F] rfl rfl (one_of HT_.out z10_0) (by decide) (fun K hK => ?_)
       refine box_step ?hg (N := 6) ?hd (cs := #[.int .i64 0, .int .i64 0, .int .i64 0, .int .i64 0]) (t := 25) ?hr ?_; (case hd => rfl); (case hg => rfl); (case hr => first | (go_simp; done) | (go_simp; rfl))
       intro gb184 hg w32 hbox hb
       have BK184 := Az.mk (hbox); have GW184 := gwz hg bw_10; have GE184 := gwz hg bw_10; replace HB := Az.mk (bwT bw_10 hb); have NB173_184 := nlt BK173 hg; have NB184_173 := ngt BK173 hg; replace BK173 := bkz BK173 hb; have NB174_184 := nlt BK174 hg; have NB184_174 := ngt BK174 hg; replace BK174 := bkz BK174 hb
       clear hb hbox hg
       refine hK.out _ _ cs_ (fun hHeld => ?_)
       clear hK K
       refine norm_ (a' := ?_) ?_ ?_
       rotate_left
       ·show Act.put _ (some 6) _ = _
        exact acq
       exact norm_ z10_1 (hCont (gb184) _ ⟨hHeld, (bk1 BK173), (bk1 BK174), (bk1 BK184), GW184.out, GE184.out, NB173_184.out, NB184_173.out, NB174_184.out, NB184_174.out, bw_10⟩)
      skip
      refine box_step ?hg (N := 6) ?hd (cs := #[.int .i64 0, .int .i64 0, .int .i64 0, .int .i64 0]) (t := 25) ?hr ?_; (case hd => rfl); (case hg => rfl); (case hr => first | (go_simp; done) | (go_simp; rfl))
      intro gb184 hg w31 hbox hb
      have BK184 := Az.mk (hbox); have GW184 := gwz hg bw_10; have GE184 := gwz hg bw_10; replace HB := Az.mk (bwT bw_10 hb); have NB173_184 := nlt BK173 hg; have NB184_173 := ngt BK173 hg; replace BK173 := bkz BK173 hb; have NB174_184 := nlt BK174 hg; have NB184_174 := ngt BK174 hg; replace BK174 := bkz BK174 hb
      clear hb hbox hg
      refine hK.out _ _ cs_ (fun hHeld => ?_)
      clear hK K
      refine norm_ (a' := ?_) ?_ ?_
      rotate_left
      ·show Act.put _ (some 6) _ = _
       exact acq
      refine one_ (i := 5) (N := some 26) #[T,T,T,T,T,T,F,F,F,T,F,F] rfl rfl (one_of HT_.out z10_0) (by decide) (fun K hK => ?_)
      refine goes_ Tryd.func11 z10_0 rfl #[.agg #[.int .i64 x175000_1, .int .i64 x175001_1, .int .i64 x175002_1, .int .i64 x175003_1], .agg #[.int .i64 t175, .int .i64 t176, .int .i64 t177, .int .i64 t178]] (by rfl) rfl rfl ln_10 ?_
      with_reducible refine (spec_TimesMatrix.calls kj5 x175000_1 x175001_1 x175002_1 x175003_1 t175 t176 t177 t178 t179 t180 t181 t182 false _ A13.out).mono ?_
      rintro e w32 ⟨rfl, hb⟩
      refine ⟨_, rfl, ?_⟩
      replace BK173 := bkz BK173 hb; replace BK174 := bkz BK174 hb; replace BK184 := bkz BK184 hb; replace HB := Az.mk (bwT bw_10 hb)
      (try clear hb)
      (try clear hb2)
      (try clear hk)
      (try clear hi)
      refine hK.out _ _ cs_ (fun hHeld => ?_)
      clear hK K
      refine norm_ (a' := ?_) ?_ ?_
      rotate_left
      ·show Act.put _ (some 26) _ = _
       exact acq
      refine pu (i := 6) (N := some 20) #[T,T,T,T,T,T,T,F,F,T,F,F] (any_of HT_.out z10_0) ?_
      refine pu (i := 7) (N := some 27) #[T,T,T,T,T,T,T,T,F,T,F,F] (any_of HT_.out z10_0) ?_
      refine pu (i := 8) (N := some 28) #[T,T,T,T,T,T,T,T,T,T,F,F] (any_of HT_.out z10_0) ?_
      exact norm_ z10_1 (hCont (gb184) _ ⟨hHeld, (bk1 BK173), (bk1 BK174), (bk1 BK184), GW184.out, GE184.out, NB173_184.out, NB184_173.out, NB174_184.out, NB184_174.out, bw_10⟩)
     skip
     refine box_step ?hg (N := 6) ?hd (cs := #[.int .i64 0, .int .i64 0, .int .i64 0, .int .i64 0]) (t := 25) ?hr ?_; (case hd => rfl); (case hg => rfl); (case hr => first | (go_simp; done) | (go_simp; rfl))
     intro gb184 hg w30 hbox hb
     have BK184 := Az.mk (hbox); have GW184 := gwz hg bw_10; have GE184 := gwz hg bw_10; replace HB := Az.mk (bwT bw_10 hb); have NB173_184 := nlt BK173 hg; have NB184_173 := ngt BK173 hg; replace BK173 := bkz BK173 hb; have NB174_184 := nlt BK174 hg; have NB184_174 := ngt BK174 hg; replace BK174 := bkz BK174 hb
     clear hb hbox hg
     refine hK.out _ _ cs_ (fun hHeld => ?_)
     clear hK K
     refine norm_ (a' := ?_) ?_ ?_
     rotate_left
     ·show Act.put _ (some 6) _ = _
      exact acq
     refine one_ (i := 4) (N := some 25) #[T,T,T,T,T,F,F,F,F,T,F,F] rfl rfl (one_of HT_.out z10_0) (by decide) (fun K hK => ?_)
     refine goes_ Tryd.func50 z10_0 rfl #[.int .u8 (bt a0 x5_1)] (by rfl) rfl rfl ln_10 ?_
     with_reducible refine (spec_l13Turn.calls (bt a0 x5_1) t175 t176 t177 t178 _ A12.out).mono ?_
     rintro e w31 ⟨rfl, hb⟩
     refine ⟨_, rfl, ?_⟩
     replace BK173 := bkz BK173 hb; replace BK174 := bkz BK174 hb; replace BK184 := bkz BK184 hb; replace HB := Az.mk (bwT bw_10 hb)
     (try clear hb)
     (try clear hb2)
     (try clear hk)
     (try clear hi)
     refine hK.out _ _ cs_ (fun hHeld => ?_)
     clear hK K
     refine norm_ (a' := ?_) ?_ ?_
     rotate_left
     ·show Act.put _ (some 25) _ = _
      exact acq
     refine one_ (i := 5) (N := some 26) #[T,T,T,T,T,T,F,F,F,T,F,F] rfl rfl (one_of HT_.out z10_0) (by decide) (fun K hK => ?_)
     refine goes_ Tryd.func11 z10_0 rfl #[.agg #[.int .i64 x175000_1, .int .i64 x175001_1, .int .i64 x175002_1, .int .i64 x175003_1], .agg #[.int .i64 t175, .int .i64 t176, .int .i64 t177, .int .i64 t178]] (by rfl) rfl rfl ln_10 ?_
     with_reducible refine (spec_TimesMatrix.calls kj5 x175000_1 x175001_1 x175002_1 x175003_1 t175 t176 t177 t178 t179 t180 t181 t182 false _ A13.out).mono ?_
     rintro e w32 ⟨rfl, hb⟩
     refine ⟨_, rfl, ?_⟩
     replace BK173 := bkz BK173 hb; replace BK174 := bkz BK174 hb; replace BK184 := bkz BK184 hb; replace HB := Az.mk (bwT bw_10 hb)
     (try clear hb)
     (try clear hb2)
     (try clear hk)
     (try clear hi)
     refine hK.out _ _ cs_ (fun hHeld => ?_)
     clear hK K
     refine norm_ (a' := ?_) ?_ ?_
     rotate_left
     ·show Act.put _ (some 26) _ = _
      exact acq
     refine pu (i := 6) (N := some 20) #[T,T,T,T,T,T,T,F,F,T,F,F] (any_of HT_.out z10_0) ?_
     refine pu (i := 7) (N := some 27) #[T,T,T,T,T,T,T,T,F,T,F,F] (any_of HT_.out z10_0) ?_
     refine pu (i := 8) (N := some 28) #[T,T,T,T,T,T,T,T,T,T,F,F] (any_of HT_.out z10_0) ?_
     exact norm_ z10_1 (hCont (gb184) _ ⟨hHeld, (bk1 BK173), (bk1 BK174), (bk1 BK184), GW184.out, GE184.out, NB173_184.out, NB184_173.out, NB174_184.out, NB184_174.out, bw_10⟩)
    rintro gb184 w33 ⟨hS_, h0_, h1_, h2_, h3_, h4_, h5_, h6_, h7_, h8_, h9_⟩
    have n0_ : Az (w33.heap[gb173]? = some (.cells #[.int .i64 x174000_1, .int .i64 x174001_1, .int .i64 x174002_1, .int .i64 x174003_1] 25 (0, 0))) := ⟨h0_⟩
    have n1_ : Az (w33.heap[gb174]? = some (.cells #[.int .i64 x175000_1, .int .i64 x175001_1, .int .i64 x175002_1, .int .i64 x175003_1] 25 (0, 0))) := ⟨h1_⟩
    have n2_ : Az (w33.heap[gb184]? = some (.cells #[.int .i64 0, .int .i64 0, .int .i64 0, .int .i64 0] 25 (0, 0))) := ⟨h2_⟩
    have n3_ : Az (w.heap.size ≤ gb184) := ⟨h3_⟩
    have n4_ : Az (w.heap.size ≤ gb184) := ⟨h4_⟩
    have n5_ : Az (gb173 ≠ gb184) := ⟨h5_⟩
    have n6_ : Az (gb184 ≠ gb173) := ⟨h6_⟩
    have n7_ : Az (gb174 ≠ gb184) := ⟨h7_⟩
    have n8_ : Az (gb184 ≠ gb174) := ⟨h8_⟩
    have n9_ : Az (Below w.heap.size w w33) := ⟨h9_⟩
    clear BK173
    clear BK174
    clear HB
    clear h0_ h1_ h2_ h3_ h4_ h5_ h6_ h7_ h8_ h9_
    have BK173 := n0_
    have BK174 := n1_
    have BK184 := n2_
    have GW184 := n3_
    have GE184 := n4_
    have NB173_184 := n5_
    have NB184_173 := n6_
    have NB174_184 := n7_
    have NB184_174 := n8_
    have HB := n9_
    clear n0_ n1_ n2_ n3_ n4_ n5_ n6_ n7_ n8_ n9_
    have hHeld : w33.cell? ⟨gb174, 0, none⟩ = some (.int .i64 x175000_1) ∧ w33.cell? ⟨gb174, 1, none⟩ = some (.int .i64 x175001_1) ∧ w33.cell? ⟨gb174, 2, none⟩ = some (.int .i64 x175002_1) ∧ w33.cell? ⟨gb174, 3, none⟩ = some (.int .i64 x175003_1) := hS_
    refine norm_ (a' := ?_) ?_ ?_
    rotate_left
    ·simp only [putAll, Act.put, List.setIfInBounds_toArray, List.set_cons_zero, List.set_cons_succ]
     rfl
    refine one_ (i := 10) (N := none) #[T,T,T,T,T,T,T,T,T,T,T,F] rfl rfl (one_of HT_.out z10_0) (by decide) (fun K hK => ?_)
    have hs34 := bkc0 BK184
    have hfs34 := bkF BK184.out 0
    have hns34_0 := NB173_184.out
    have hns34_1 := NB174_184.out
    have hms34_0 := NB184_173.out
    have hms34_1 := NB184_174.out
    have hs35 := bkc1 BK184
    have hfs35 := bkF BK184.out 1
    have hns35_0 := NB173_184.out
    have hns35_1 := NB174_184.out
    have hms35_0 := NB184_173.out
    have hms35_1 := NB184_174.out
    have hs36 := bkc2 BK184
    have hfs36 := bkF BK184.out 2
    have hns36_0 := NB173_184.out
    have hns36_1 := NB174_184.out
    have hms36_0 := NB184_173.out
    have hms36_1 := NB184_174.out
    have hs37 := bkc3 BK184
    have hfs37 := bkF BK184.out 3
    have hns37_0 := NB173_184.out
    have hns37_1 := NB174_184.out
    have hms37_0 := NB184_173.out
    have hms37_1 := NB184_174.out
    refine skip_ (w1 := ?_) (by rfl) rfl ?_ ?_
    rotate_left
    ·go_simp
     rfl
    refine hK.out _ _ ⟨((cell_far (p := ⟨gb184, _, none⟩) NB174_184.out _).trans (((cell_far (p := ⟨gb184, _, none⟩) NB174_184.out _).trans (((cell_far (p := ⟨gb184, _, none⟩) NB174_184.out _).trans (((cell_far (p := ⟨gb184, _, none⟩) NB174_184.out _).trans (hHeld.1)))))))), ((cell_far (p := ⟨gb184, _, none⟩) NB174_184.out _).trans (((cell_far (p := ⟨gb184, _, none⟩) NB174_184.out _).trans (((cell_far (p := ⟨gb184, _, none⟩) NB174_184.out _).trans (((cell_far (p := ⟨gb184, _, none⟩) NB174_184.out _).trans (hHeld.2.1)))))))), ((cell_far (p := ⟨gb184, _, none⟩) NB174_184.out _).trans (((cell_far (p := ⟨gb184, _, none⟩) NB174_184.out _).trans (((cell_far (p := ⟨gb184, _, none⟩) NB174_184.out _).trans (((cell_far (p := ⟨gb184, _, none⟩) NB174_184.out _).trans (hHeld.2.2.1)))))))), ((cell_far (p := ⟨gb184, _, none⟩) NB174_184.out _).trans (((cell_far (p := ⟨gb184, _, none⟩) NB174_184.out _).trans (((cell_far (p := ⟨gb184, _, none⟩) NB174_184.out _).trans (((cell_far (p := ⟨gb184, _, none⟩) NB174_184.out _).trans (hHeld.2.2.2))))))))⟩ (fun hHeld => ?_)
    clear hK K
    refine pu (i := 11) (N := some 7) #[T,T,T,T,T,T,T,T,T,T,T,T] (any_of HT_.out z10_0) ?_
    refine done_ (done_of HT_.out z10_0) ?_
    have hnb38 := NB173_174.out
    have hnc38 := NB174_173.out
    have hnb39 := NB173_184.out
    have hnc39 := NB184_173.out
    have hcz40_0 := bkc0 BK173
    have hcz40_1 := bkc1 BK173
    have hcz40_2 := bkc2 BK173
    have hcz40_3 := bkc3 BK173
    have hfz40_0 := bkF BK173.out 0
    have hfz40_1 := bkF BK173.out 1
    have hfz40_2 := bkF BK173.out 2
    have hfz40_3 := bkF BK173.out 3
    try go_wp2
    refine bodyPost_ret (results_ct rfl _ _ gb173 25 #[.int .i64 0, .int .i64 0, .int .i64 0, .int .i64 0] (0, 0) _ rfl bkv Tryd.underlying25 rfl z10_0) rfl ?_
    exact ⟨rq1, bw_10⟩
   subst c14
   rw [if_pos rfl] at H
   have H' := Az.mk H
   clear H
   try go_wp2
   replace BK173 := Az.mk (bkD BK173.out); replace BK174 := Az.mk (bkD BK174.out); replace HB := Az.mk (bwD HB.out)
   have p11 : 0 ≤ (x5_1 : Int) := of_decide_eq_true (by first | (with_reducible assumption) | assumption)
   have q11 : x5_1 < (a0.size : Int) := of_decide_eq_true (by first | (with_reducible assumption) | assumption)
   have hx11 := bt_at a0 x5_1
   replace p11 := eq_true p11
   replace q11 := eq_true q11
   refine start_ (n := 12) (S := fun w' => w'.cell? ⟨gb174, 0, none⟩ = some (.int .i64 x175000_1) ∧ w'.cell? ⟨gb174, 1, none⟩ = some (.int .i64 x175001_1) ∧ w'.cell? ⟨gb174, 2, none⟩ = some (.int .i64 x175002_1) ∧ w'.cell? ⟨gb174, 3, none⟩ = some (.int .i64 x175003_1)) (ds := []) #[F,F,F,F,F,F,F,F,F,F,F,F] z10_0 rfl rfl cs_ (fun hHeld => ?_); refine with_tabW spec_TurnsOf.tab5 spec_TurnsOf.bits5 (fun HT_ HW_ => ?_)
   generalize wc.drew = w15 at BK173 BK174 HB hHeld ⊢
   refine pu (i := 1) (N := some 22) #[F,T,F,F,F,F,F,F,F,F,F,F] (any_of HT_.out z10_0) ?_
   refine pu (i := 2) (N := some 23) #[F,T,T,F,F,F,F,F,F,F,F,F] (any_of HT_.out z10_0) ?_
   refine take_ (i := 0) (N := some 21) (v := ?_) (a' := ?_) #[T,T,T,F,F,F,F,F,F,F,F,F] rfl rfl (take_ofW HT_.out HW_.out z10_0) (fun _ _ _ h => h) (Or.inl ⟨by rfl, ?_⟩) hHeld ?_ ?_
   rotate_left
   ·rintro w' ⟨s0, s1, s2, s3⟩
    go_simp
    with_reducible rfl
   rotate_left
   ·exact acq
   refine take_ (i := 3) (N := some 24) (v := ?_) (a' := ?_) #[T,T,T,T,F,F,F,F,F,F,F,F] rfl rfl (take_ofW HT_.out HW_.out z10_0) (fun _ _ _ h => h) (Or.inl ⟨by rfl, ?_⟩) hHeld ?_ ?_
   rotate_left
   ·rintro w' ⟨s0, s1, s2, s3⟩
    go_simp
    with_reducible rfl
   rotate_left
   ·exact acq
   refine join_ (σ := Nat) 2 #[T,T,T,T,T,T,T,T,T,T,F,F] (fun s_ => [(25, .agg #[.int .i64 t175, .int .i64 t176, .int .i64 t177, .int .i64 t178]), (26, .tuple #[.agg #[.int .i64 t179, .int .i64 t180, .int .i64 t181, .int .i64 t182], .bool true]), (6, .pointer (some ⟨s_, 0, none⟩)), (20, .tuple #[.agg #[.int .i64 t179, .int .i64 t180, .int .i64 t181, .int .i64 t182], .bool true]), (27, .agg #[.int .i64 t179, .int .i64 t180, .int .i64 t181, .int .i64 t182]), (28, .bool true)]) (fun s_ w' => (w'.cell? ⟨gb174, 0, none⟩ = some (.int .i64 x175000_1) ∧ w'.cell? ⟨gb174, 1, none⟩ = some (.int .i64 x175001_1) ∧ w'.cell? ⟨gb174, 2, none⟩ = some (.int .i64 x175002_1) ∧ w'.cell? ⟨gb174, 3, none⟩ = some (.int .i64 x175003_1)) ∧ (w'.heap[gb173]? = some (.cells #[.int .i64 x174000_1, .int .i64 x174001_1, .int .i64 x174002_1, .int .i64 x174003_1] 25 (0, 0))) ∧ (w'.heap[gb174]? = some (.cells #[.int .i64 x175000_1, .int .i64 x175001_1, .int .i64 x175002_1, .int .i64 x175003_1] 25 (0, 0))) ∧ (w'.heap[s_]? = some (.cells #[.int .i64 0, .int .i64 0, .int .i64 0, .int .i64 0] 25 (0, 0))) ∧ (w.heap.size ≤ s_) ∧ (w.heap.size ≤ s_) ∧ (gb173 ≠ s_) ∧ (s_ ≠ gb173) ∧ (gb174 ≠ s_) ∧ (s_ ≠ gb174) ∧ (Below w.heap.size w w')) ?_ ?_
   rotate_left
   ·intro hCont
    refine two_ (i := 4) (j := 9) (Ni := some 25) (Nj := some 6) #[T,T,T,T,T,F,F,F,F,F,F,F] #[T,T,T,T,F,F,F,F,F,T,F,F] rfl rfl rfl rfl (two_of HT_.out z10_0) (by decide) (by decide) (fun K hK => ?_) (fun K hK => ?_)
    ·skip
     refine goes_ Tryd.func50 z10_0 rfl #[.int .u8 (bt a0 x5_1)] (by rfl) rfl rfl ln_10 ?_
     with_reducible refine (spec_l13Turn.calls (bt a0 x5_1) t175 t176 t177 t178 _ A12.out).mono ?_
     rintro e w16 ⟨rfl, hb⟩
     refine ⟨_, rfl, ?_⟩
     replace BK173 := bkz BK173 hb; replace BK174 := bkz BK174 hb; replace HB := Az.mk (bwT bw_10 hb)
     (try clear hb)
     (try clear hb2)
     (try clear hk)
     (try clear hi)
     refine hK.out _ _ cs_ (fun hHeld => ?_)
     clear hK K
     refine norm_ (a' := ?_) ?_ ?_
     rotate_left
     ·show Act.put _ (some 25) _ = _
      exact acq
     refine two_ (i := 5) (j := 9) (Ni := some 26) (Nj := some 6) #[T,T,T,T,T,T,F,F,F,F,F,F] #[T,T,T,T,T,F,F,F,F,T,F,F] rfl rfl rfl rfl (two_of HT_.out z10_0) (by decide) (by decide) (fun K hK => ?_) (fun K hK => ?_)
     ·skip
      refine goes_ Tryd.func11 z10_0 rfl #[.agg #[.int .i64 x175000_1, .int .i64 x175001_1, .int .i64 x175002_1, .int .i64 x175003_1], .agg #[.int .i64 t175, .int .i64 t176, .int .i64 t177, .int .i64 t178]] (by rfl) rfl rfl ln_10 ?_
      with_reducible refine (spec_TimesMatrix.calls kj5 x175000_1 x175001_1 x175002_1 x175003_1 t175 t176 t177 t178 t179 t180 t181 t182 true _ A13.out).mono ?_
      rintro e w17 ⟨rfl, hb⟩
      refine ⟨_, rfl, ?_⟩
      replace BK173 := bkz BK173 hb; replace BK174 := bkz BK174 hb; replace HB := Az.mk (bwT bw_10 hb)
      (try clear hb)
      (try clear hb2)
      (try clear hk)
      (try clear hi)
      refine hK.out _ _ cs_ (fun hHeld => ?_)
      clear hK K
      refine norm_ (a' := ?_) ?_ ?_
      rotate_left
      ·show Act.put _ (some 26) _ = _
       exact acq
      refine pu (i := 6) (N := some 20) #[T,T,T,T,T,T,T,F,F,F,F,F] (any_of HT_.out z10_0) ?_
      refine pu (i := 7) (N := some 27) #[T,T,T,T,T,T,T,T,F,F,F,F] (any_of HT_.out z10_0) ?_
      refine pu (i := 8) (N := some 28) #[T,T,T,T,T,T,T,T,T,F,F,F] (any_of HT_.out z10_0) ?_
      refine one_ (i := 9) (N := some 6) #[T,T,T,T,T,T,T,T,T,T,F,F] rfl rfl (one_of HT_.out z10_0) (by decide) (fun K hK => ?_)
      refine box_step ?hg (N := 6) ?hd (cs := #[.int .i64 0, .int .i64 0, .int .i64 0, .int .i64 0]) (t := 25) ?hr ?_; (case hd => rfl); (case hg => rfl); (case hr => first | (go_simp; done) | (go_simp; rfl))
      intro gb184 hg w18 hbox hb
      have BK184 := Az.mk (hbox); have GW184 := gwz hg bw_10; have GE184 := gwz hg bw_10; replace HB := Az.mk (bwT bw_10 hb); have NB173_184 := nlt BK173 hg; have NB184_173 := ngt BK173 hg; replace BK173 := bkz BK173 hb; have NB174_184 := nlt BK174 hg; have NB184_174 := ngt BK174 hg; replace BK174 := bkz BK174 hb
      clear hb hbox hg
      refine hK.out _ _ cs_ (fun hHeld => ?_)
      clear hK K
      refine norm_ (a' := ?_) ?_ ?_
      rotate_left
      ·show Act.put _ (some 6) _ = _
       exact acq
      exact norm_ z10_1 (hCont (gb184) _ ⟨hHeld, (bk1 BK173), (bk1 BK174), (bk1 BK184), GW184.out, GE184.out, NB173_184.out, NB184_173.out, NB174_184.out, NB184_174.out, bw_10⟩)
     skip
     refine box_step ?hg (N := 6) ?hd (cs := #[.int .i64 0, .int .i64 0, .int .i64 0, .int .i64 0]) (t := 25) ?hr ?_; (case hd => rfl); (case hg => rfl); (case hr => first | (go_simp; done) | (go_simp; rfl))
     intro gb184 hg w17 hbox hb
     have BK184 := Az.mk (hbox); have GW184 := gwz hg bw_10; have GE184 := gwz hg bw_10; replace HB := Az.mk (bwT bw_10 hb); have NB173_184 := nlt BK173 hg; have NB184_173 := ngt BK173 hg; replace BK173 := bkz BK173 hb; have NB174_184 := nlt BK174 hg; have NB184_174 := ngt BK174 hg; replace BK174 := bkz BK174 hb
     clear hb hbox hg
     refine hK.out _ _ cs_ (fun hHeld => ?_)
     clear hK K
     refine norm_ (a' := ?_) ?_ ?_
     rotate_left
     ·show Act.put _ (some 6) _ = _
      exact acq
     refine one_ (i := 5) (N := some 26) #[T,T,T,T,T,T,F,F,F,T,F,F] rfl rfl (one_of HT_.out z10_0) (by decide) (fun K hK => ?_)
     refine goes_ Tryd.func11 z10_0 rfl #[.agg #[.int .i64 x175000_1, .int .i64 x175001_1, .int .i64 x175002_1, .int .i64 x175003_1], .agg #[.int .i64 t175, .int .i64 t176, .int .i64 t177, .int .i64 t178]] (by rfl) rfl rfl ln_10 ?_
     with_reducible refine (spec_TimesMatrix.calls kj5 x175000_1 x175001_1 x175002_1 x175003_1 t175 t176 t177 t178 t179 t180 t181 t182 true _ A13.out).mono ?_
     rintro e w18 ⟨rfl, hb⟩
     refine ⟨_, rfl, ?_⟩
     replace BK173 := bkz BK173 hb; replace BK174 := bkz BK174 hb; replace BK184 := bkz BK184 hb; replace HB := Az.mk (bwT bw_10 hb)
     (try clear hb)
     (try clear hb2)
     (try clear hk)
     (try clear hi)
     refine hK.out _ _ cs_ (fun hHeld => ?_)
     clear hK K
     refine norm_ (a' := ?_) ?_ ?_
     rotate_left
     ·show Act.put _ (some 26) _ = _
      exact acq
     refine pu (i := 6) (N := some 20) #[T,T,T,T,T,T,T,F,F,T,F,F] (any_of HT_.out z10_0) ?_
     refine pu (i := 7) (N := some 27) #[T,T,T,T,T,T,T,T,F,T,F,F] (any_of HT_.out z10_0) ?_
     refine pu (i := 8) (N := some 28) #[T,T,T,T,T,T,T,T,T,T,F,F] (any_of HT_.out z10_0) ?_
     exact norm_ z10_1 (hCont (gb184) _ ⟨hHeld, (bk1 BK173), (bk1 BK174), (bk1 BK184), GW184.out, GE184.out, NB173_184.out, NB184_173.out, NB174_184.out, NB184_174.out, bw_10⟩)
    skip
    refine box_step ?hg (N := 6) ?hd (cs := #[.int .i64 0, .int .i64 0, .int .i64 0, .int .i64 0]) (t := 25) ?hr ?_; (case hd => rfl); (case hg => rfl); (case hr => first | (go_simp; done) | (go_simp; rfl))
    intro gb184 hg w16 hbox hb
    have BK184 := Az.mk (hbox); have GW184 := gwz hg bw_10; have GE184 := gwz hg bw_10; replace HB := Az.mk (bwT bw_10 hb); have NB173_184 := nlt BK173 hg; have NB184_173 := ngt BK173 hg; replace BK173 := bkz BK173 hb; have NB174_184 := nlt BK174 hg; have NB184_174 := ngt BK174 hg; replace BK174 := bkz BK174 hb
    clear hb hbox hg
    refine hK.out _ _ cs_ (fun hHeld => ?_)
    clear hK K
    refine norm_ (a' := ?_) ?_ ?_
    rotate_left
    ·show Act.put _ (some 6) _ = _
     exact acq
    refine one_ (i := 4) (N := some 25) #[T,T,T,T,T,F,F,F,F,T,F,F] rfl rfl (one_of HT_.out z10_0) (by decide) (fun K hK => ?_)
    refine goes_ Tryd.func50 z10_0 rfl #[.int .u8 (bt a0 x5_1)] (by rfl) rfl rfl ln_10 ?_
    with_reducible refine (spec_l13Turn.calls (bt a0 x5_1) t175 t176 t177 t178 _ A12.out).mono ?_
    rintro e w17 ⟨rfl, hb⟩
    refine ⟨_, rfl, ?_⟩
    replace BK173 := bkz BK173 hb; replace BK174 := bkz BK174 hb; replace BK184 := bkz BK184 hb; replace HB := Az.mk (bwT bw_10 hb)
    (try clear hb)
    (try clear hb2)
    (try clear hk)
    (try clear hi)
    refine hK.out _ _ cs_ (fun hHeld => ?_)
    clear hK K
    refine norm_ (a' := ?_) ?_ ?_
    rotate_left
    ·show Act.put _ (some 25) _ = _
     exact acq
    refine one_ (i := 5) (N := some 26) #[T,T,T,T,T,T,F,F,F,T,F,F] rfl rfl (one_of HT_.out z10_0) (by decide) (fun K hK => ?_)
    refine goes_ Tryd.func11 z10_0 rfl #[.agg #[.int .i64 x175000_1, .int .i64 x175001_1, .int .i64 x175002_1, .int .i64 x175003_1], .agg #[.int .i64 t175, .int .i64 t176, .int .i64 t177, .int .i64 t178]] (by rfl) rfl rfl ln_10 ?_
    with_reducible refine (spec_TimesMatrix.calls kj5 x175000_1 x175001_1 x175002_1 x175003_1 t175 t176 t177 t178 t179 t180 t181 t182 true _ A13.out).mono ?_
    rintro e w18 ⟨rfl, hb⟩
    refine ⟨_, rfl, ?_⟩
    replace BK173 := bkz BK173 hb; replace BK174 := bkz BK174 hb; replace BK184 := bkz BK184 hb; replace HB := Az.mk (bwT bw_10 hb)
    (try clear hb)
    (try clear hb2)
    (try clear hk)
    (try clear hi)
    refine hK.out _ _ cs_ (fun hHeld => ?_)
    clear hK K
    refine norm_ (a' := ?_) ?_ ?_
    rotate_left
    ·show Act.put _ (some 26) _ = _
     exact acq
    refine pu (i := 6) (N := some 20) #[T,T,T,T,T,T,T,F,F,T,F,F] (any_of HT_.out z10_0) ?_
    refine pu (i := 7) (N := some 27) #[T,T,T,T,T,T,T,T,F,T,F,F] (any_of HT_.out z10_0) ?_
    refine pu (i := 8) (N := some 28) #[T,T,T,T,T,T,T,T,T,T,F,F] (any_of HT_.out z10_0) ?_
    exact norm_ z10_1 (hCont (gb184) _ ⟨hHeld, (bk1 BK173), (bk1 BK174), (bk1 BK184), GW184.out, GE184.out, NB173_184.out, NB184_173.out, NB174_184.out, NB184_174.out, bw_10⟩)
   rintro gb184 w19 ⟨hS_, h0_, h1_, h2_, h3_, h4_, h5_, h6_, h7_, h8_, h9_⟩
   have n0_ : Az (w19.heap[gb173]? = some (.cells #[.int .i64 x174000_1, .int .i64 x174001_1, .int .i64 x174002_1, .int .i64 x174003_1] 25 (0, 0))) := ⟨h0_⟩
   have n1_ : Az (w19.heap[gb174]? = some (.cells #[.int .i64 x175000_1, .int .i64 x175001_1, .int .i64 x175002_1, .int .i64 x175003_1] 25 (0, 0))) := ⟨h1_⟩
   have n2_ : Az (w19.heap[gb184]? = some (.cells #[.int .i64 0, .int .i64 0, .int .i64 0, .int .i64 0] 25 (0, 0))) := ⟨h2_⟩
   have n3_ : Az (w.heap.size ≤ gb184) := ⟨h3_⟩
   have n4_ : Az (w.heap.size ≤ gb184) := ⟨h4_⟩
   have n5_ : Az (gb173 ≠ gb184) := ⟨h5_⟩
   have n6_ : Az (gb184 ≠ gb173) := ⟨h6_⟩
   have n7_ : Az (gb174 ≠ gb184) := ⟨h7_⟩
   have n8_ : Az (gb184 ≠ gb174) := ⟨h8_⟩
   have n9_ : Az (Below w.heap.size w w19) := ⟨h9_⟩
   clear BK173
   clear BK174
   clear HB
   clear h0_ h1_ h2_ h3_ h4_ h5_ h6_ h7_ h8_ h9_
   have BK173 := n0_
   have BK174 := n1_
   have BK184 := n2_
   have GW184 := n3_
   have GE184 := n4_
   have NB173_184 := n5_
   have NB184_173 := n6_
   have NB174_184 := n7_
   have NB184_174 := n8_
   have HB := n9_
   clear n0_ n1_ n2_ n3_ n4_ n5_ n6_ n7_ n8_ n9_
   have hHeld : w19.cell? ⟨gb174, 0, none⟩ = some (.int .i64 x175000_1) ∧ w19.cell? ⟨gb174, 1, none⟩ = some (.int .i64 x175001_1) ∧ w19.cell? ⟨gb174, 2, none⟩ = some (.int .i64 x175002_1) ∧ w19.cell? ⟨gb174, 3, none⟩ = some (.int .i64 x175003_1) := hS_
   refine norm_ (a' := ?_) ?_ ?_
   rotate_left
   ·simp only [putAll, Act.put, List.setIfInBounds_toArray, List.set_cons_zero, List.set_cons_succ]
    rfl
   refine one_ (i := 10) (N := none) #[T,T,T,T,T,T,T,T,T,T,T,F] rfl rfl (one_of HT_.out z10_0) (by decide) (fun K hK => ?_)
   have hs20 := bkc0 BK184
   have hfs20 := bkF BK184.out 0
   have hns20_0 := NB173_184.out
   have hns20_1 := NB174_184.out
   have hms20_0 := NB184_173.out
   have hms20_1 := NB184_174.out
   have hs21 := bkc1 BK184
   have hfs21 := bkF BK184.out 1
   have hns21_0 := NB173_184.out
   have hns21_1 := NB174_184.out
   have hms21_0 := NB184_173.out
   have hms21_1 := NB184_174.out
   have hs22 := bkc2 BK184
   have hfs22 := bkF BK184.out 2
   have hns22_0 := NB173_184.out
   have hns22_1 := NB174_184.out
   have hms22_0 := NB184_173.out
   have hms22_1 := NB184_174.out
   have hs23 := bkc3 BK184
   have hfs23 := bkF BK184.out 3
   have hns23_0 := NB173_184.out
   have hns23_1 := NB174_184.out
   have hms23_0 := NB184_173.out
   have hms23_1 := NB184_174.out
   refine skip_ (w1 := ?_) (by rfl) rfl ?_ ?_
   rotate_left
   ·go_simp
    rfl
   refine hK.out _ _ ⟨((cell_far (p := ⟨gb184, _, none⟩) NB174_184.out _).trans (((cell_far (p := ⟨gb184, _, none⟩) NB174_184.out _).trans (((cell_far (p := ⟨gb184, _, none⟩) NB174_184.out _).trans (((cell_far (p := ⟨gb184, _, none⟩) NB174_184.out _).trans (hHeld.1)))))))), ((cell_far (p := ⟨gb184, _, none⟩) NB174_184.out _).trans (((cell_far (p := ⟨gb184, _, none⟩) NB174_184.out _).trans (((cell_far (p := ⟨gb184, _, none⟩) NB174_184.out _).trans (((cell_far (p := ⟨gb184, _, none⟩) NB174_184.out _).trans (hHeld.2.1)))))))), ((cell_far (p := ⟨gb184, _, none⟩) NB174_184.out _).trans (((cell_far (p := ⟨gb184, _, none⟩) NB174_184.out _).trans (((cell_far (p := ⟨gb184, _, none⟩) NB174_184.out _).trans (((cell_far (p := ⟨gb184, _, none⟩) NB174_184.out _).trans (hHeld.2.2.1)))))))), ((cell_far (p := ⟨gb184, _, none⟩) NB174_184.out _).trans (((cell_far (p := ⟨gb184, _, none⟩) NB174_184.out _).trans (((cell_far (p := ⟨gb184, _, none⟩) NB174_184.out _).trans (((cell_far (p := ⟨gb184, _, none⟩) NB174_184.out _).trans (hHeld.2.2.2))))))))⟩ (fun hHeld => ?_)
   clear hK K
   refine pu (i := 11) (N := some 7) #[T,T,T,T,T,T,T,T,T,T,T,T] (any_of HT_.out z10_0) ?_
   refine done_ (done_of HT_.out z10_0) ?_
   have hnb24 := NB184_173.out
   have hnc24 := NB173_184.out
   have hnb25 := NB184_174.out
   have hnc25 := NB174_184.out
   have hcz26_0 := bkc0 BK184
   have hcz26_1 := bkc1 BK184
   have hcz26_2 := bkc2 BK184
   have hcz26_3 := bkc3 BK184
   have hfz26_0 := bkF BK184.out 0
   have hfz26_1 := bkF BK184.out 1
   have hfz26_2 := bkF BK184.out 2
   have hfz26_3 := bkF BK184.out 3
   have hnb27 := NB174_173.out
   have hnc27 := NB173_174.out
   have hcz28_0 := bkc0 BK174
   have hcz28_1 := bkc1 BK174
   have hcz28_2 := bkc2 BK174
   have hcz28_3 := bkc3 BK174
   have hfz28_0 := bkF BK174.out 0
   have hfz28_1 := bkF BK174.out 1
   have hfz28_2 := bkF BK174.out 2
   have hfz28_3 := bkF BK174.out 3
   try go_wp2
   go_roundg kj5
   case measure => have := HK1.out; have := HJ5.out; omega
   case rel => exact ⟨(wrap64 (x5_1 + 1)), (x174000_1), (x174001_1), (x174002_1), (x174003_1), (t179), (t180), (t181), (t182), rq2, H', ⟨by have := HK1.out; have := HJ5.out; omega⟩, ⟨bkv⟩, ⟨bkv⟩, ⟨bw_10⟩⟩

end Go.Proofs.YtnoiijdffdpabaaDoor.P

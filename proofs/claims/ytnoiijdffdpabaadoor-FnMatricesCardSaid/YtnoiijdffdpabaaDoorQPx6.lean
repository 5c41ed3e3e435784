-- By this session's driver (wip/tools/mk.py) of the kit's print program, over several statements at once. Not trusted: Lean checks it.
import Derived.Test.YtnoiijdffdpabaaDoorQWZip
import Derived.Test.YtnoiijdffdpabaaDoorQPx0
import Derived.Test.YtnoiijdffdpabaaDoorQPx5
namespace Go.Proofs.YtnoiijdffdpabaaDoor.P
open Go.RowKit Go.Proofs.YtnoiijdffdpabaaDoorW.PrintWords Go.Proofs.YtnoiijdffdpabaaDoorW.PrintLast Go.Proofs.YtnoiijdffdpabaaDoorW.PrintMore
attribute [local go_sem] max2_int min2_int max_two min_two max_three min_three max_four min_four   -- for this text's walks alone
set_option linter.unusedVariables false
set_option linter.unusedSimpArgs false
open Bool renaming true → T, false → F
theorem bw_6 {n : Nat} {v v' : World} (h : Below n v v' := by repeat (first | (with_reducible first | exact HB.out | apply bwA | apply pbN | apply bwD | refine bwS ?_ GE131.out) | exact HB.out)) : Below n v v' := h
theorem ln_6 {P : Prop} (h : P := by (try simp only [List.map_toArray, List.map_cons, List.map_nil]); first | done | rfl | (simp only [List.length_drop, List.length_take]; rfl)) : P := h
open Option renaming bind_eq_some_iff → be

/-! ### impl_MatrixText: function 7 -/
def impl_MatrixText.f (k : Nat) (a0_0 : Int) (a0_1 : Int) (a0_2 : Int) (a0_3 : Int) : Option (ByteArray) := (impl_IsMatrix.f k a0_0 a0_1 a0_2 a0_3).bind fun t132 => (if t132 = true then ((impl_FormatInt.f a0_0).bind fun t133 => ((impl_FormatInt.f a0_1).bind fun t134 => ((impl_FormatInt.f a0_2).bind fun t135 => ((impl_FormatInt.f a0_3).bind fun t136 => ((impl_Join.f (([t133, t134, t135, t136] : List ByteArray)) (⟨#[44]⟩ : ByteArray)).bind fun t140 => (some t140)))))) else (some (⟨#[]⟩ : ByteArray)))
theorem impl_MatrixText.mono : ∀ a0 a1 a2 a3 k, LeO (impl_MatrixText.f k a0 a1 a2 a3) (impl_MatrixText.f (k + 1) a0 a1 a2 a3) := by
 intro a0 a1 a2 a3 k
 unfold impl_MatrixText.f
 exact mo_
instance impl_MatrixText.mi {a0 a1 a2 a3 k} : MoO (impl_MatrixText.f k a0 a1 a2 a3) (impl_MatrixText.f (k + 1) a0 a1 a2 a3) := ⟨impl_MatrixText.mono _ _ _ _ _⟩
def impl_MatrixText.T3 : Bool × List (List Nat × List Nat) := (true, [([], []), ([0], [0]), ([1], [1]), ([], []), ([3], [3]), ([4, 2], [4]), ([], []), ([6], [6]), ([7, 5], [7]), ([], []), ([9], [9]), ([10, 8], [10]), ([2, 5, 8, 11], [2, 5, 8, 11]), ([12, 11], [12]), ([13, 13, 0, 1, 2, 3, 4, 5, 6, 7, 8, 9, 10, 11, 12, 13], [13])])
def impl_MatrixText.B3 : List Nat := [0, 1, 3, 0, 8, 31, 0, 64, 255, 0, 512, 2047, 4095, 8191, 16383]
theorem impl_MatrixText.tab3 : rtab .any (opsOf Tryd.f7 3) = impl_MatrixText.T3 := by kernel_rfl
theorem impl_MatrixText.bits3 : waitsOk impl_MatrixText.T3.2 impl_MatrixText.B3 = true := by kernel_rfl
set_option maxHeartbeats 8000000 in
set_option maxRecDepth 100000 in
theorem impl_MatrixText.calls (k : Nat) (a0_0 : Int) (a0_1 : Int) (a0_2 : Int) (a0_3 : Int) (r : ByteArray) (w : World) (h : impl_MatrixText.f k a0_0 a0_1 a0_2 a0_3 = some r) (hT : Tabs w := by exact tabs_) :
  Calls Tryd.prog 7 #[.agg #[.int .i64 a0_0, .int .i64 a0_1, .int .i64 a0_2, .int .i64 a0_3]] w fun e w' => e = .returned (.string r) ∧ Below w.heap.size w w' := by
 have HT := Az.mk hT
 clear hT
 have hu25 := Tryd.underlying25
 have HB := Az.mk (Below.refl w.heap.size w)
 have H : ((impl_IsMatrix.f k a0_0 a0_1 a0_2 a0_3).bind fun t132 => (if t132 = true then ((impl_FormatInt.f a0_0).bind fun t133 => ((impl_FormatInt.f a0_1).bind fun t134 => ((impl_FormatInt.f a0_2).bind fun t135 => ((impl_FormatInt.f a0_3).bind fun t136 => ((impl_Join.f (([t133, t134, t135, t136] : List ByteArray)) (⟨#[44]⟩ : ByteArray)).bind fun t140 => (some t140)))))) else (some (⟨#[]⟩ : ByteArray)))) = some r := h
 clear h
 replace H := bez H
 obtain ⟨t132, A2, H⟩ := H
 try dsimp only at H
 by_cases c3 : t132 = true
 rotate_left
 ·replace c3 := Bool.eq_false_iff.mpr c3
  subst c3
  rw [if_neg (show ¬ (false = true) by decide)] at H
  obtain rfl := Option.some.inj H
  go_enter Tryd.func7, Tryd.ntmps7
  go_wp2_with (first | ((with_reducible refine gtD (N := 1) rfl ?_); refine bx (N := 1) (cs := #[.int .i64 a0_0, .int .i64 a0_1, .int .i64 a0_2, .int .i64 a0_3]) (t := 25) ?_; intro gb131 hg w21 hbox hb; have BK131 := Az.mk (hbox); have GW131 := gwz hg bw_6; have GE131 := gwz hg bw_6; replace HB := Az.mk (bwT bw_6 hb); clear hb hbox hg; obtain ⟨hcz22_0, hcz22_1, hcz22_2, hcz22_3, hfz22_0, hfz22_1, hfz22_2, hfz22_3⟩ := bq4 BK131) | ((with_reducible refine gtC (f := 21) rfl ?_); refine clz Tryd.func21 (some 4) #[.agg #[.int .i64 a0_0, .int .i64 a0_1, .int .i64 a0_2, .int .i64 a0_3]] ?_; (with_reducible refine (impl_IsMatrix.calls k a0_0 a0_1 a0_2 a0_3 false _ A2.out).mono ?_); rintro e w23 ⟨rfl, hb⟩; refine ⟨_, rfl, ?_⟩; replace BK131 := bkz BK131 hb; replace HB := Az.mk (bwT bw_6 hb); (try clear hb)))
  go_ret
  exact ⟨rq1, bw_6⟩
 subst c3
 rw [if_pos rfl] at H
 replace H := bez H
 obtain ⟨t133, A4, H⟩ := H
 try dsimp only at H
 replace H := bez H
 obtain ⟨t134, A5, H⟩ := H
 try dsimp only at H
 replace H := bez H
 obtain ⟨t135, A6, H⟩ := H
 try dsimp only at H
 replace H := bez H
 obtain ⟨t136, A7, H⟩ := H
 try dsimp only at H
 obtain ⟨y137, hy137⟩ : ∃ y_ : List ByteArray, y_ = (([t133, t134, t135, t136] : List ByteArray)) := ⟨_, rfl⟩
 replace H : ((impl_Join.f y137 (⟨#[44]⟩ : ByteArray)).bind fun t140 => (some t140)) = some r := by first | (rw [hy137]; with_reducible exact H) | (have H2_ := (Option.bind_some _ _).symm.trans H; rw [hy137]; with_reducible exact H2_) | (have H2_ := (Option.bind_some _ _).symm.trans H; with_reducible exact H2_) | with_reducible exact H | (rw [hy137]; exact H) | exact H
 have Ny137 := Az.mk hy137
 clear hy137
 replace H := bez H
 obtain ⟨t140, A8, H⟩ := H
 replace H : (some t140) = some r := H
 obtain rfl := Option.some.inj H
 go_enter Tryd.func7, Tryd.ntmps7
 try go_wp2_with (first | ((with_reducible refine gtD (N := 1) rfl ?_); refine bx (N := 1) (cs := #[.int .i64 a0_0, .int .i64 a0_1, .int .i64 a0_2, .int .i64 a0_3]) (t := 25) ?_; intro gb131 hg w9 hbox hb; have BK131 := Az.mk (hbox); have GW131 := gwz hg bw_6; have GE131 := gwz hg bw_6; replace HB := Az.mk (bwT bw_6 hb); clear hb hbox hg; obtain ⟨hcz10_0, hcz10_1, hcz10_2, hcz10_3, hfz10_0, hfz10_1, hfz10_2, hfz10_3⟩ := bq4 BK131) | ((with_reducible refine gtC (f := 21) rfl ?_); refine clz Tryd.func21 (some 4) #[.agg #[.int .i64 a0_0, .int .i64 a0_1, .int .i64 a0_2, .int .i64 a0_3]] ?_; (with_reducible refine (impl_IsMatrix.calls k a0_0 a0_1 a0_2 a0_3 true _ A2.out).mono ?_); rintro e w11 ⟨rfl, hb⟩; refine ⟨_, rfl, ?_⟩; replace BK131 := bkz BK131 hb; replace HB := Az.mk (bwT bw_6 hb); (try clear hb)))
 replace BK131 := Az.mk (bkD BK131.out); replace HB := Az.mk (bwD HB.out)
 refine start_ (n := 15) (S := fun w' => w'.cell? ⟨gb131, 0, none⟩ = some (.int .i64 a0_0) ∧ w'.cell? ⟨gb131, 1, none⟩ = some (.int .i64 a0_1) ∧ w'.cell? ⟨gb131, 2, none⟩ = some (.int .i64 a0_2) ∧ w'.cell? ⟨gb131, 3, none⟩ = some (.int .i64 a0_3)) (ds := []) #[F,F,F,F,F,F,F,F,F,F,F,F,F,F,F] (by kernel_rfl) rfl rfl cs_ (fun hHeld => ?_); refine with_tabW impl_MatrixText.tab3 impl_MatrixText.bits3 (fun HT_ HW_ => ?_)
 generalize w11.drew = w12 at BK131 HB hHeld ⊢
 refine pu (i := 0) (N := some 6) #[T,F,F,F,F,F,F,F,F,F,F,F,F,F,F] (any_of HT_.out (by kernel_rfl)) ?_
 refine pu (i := 3) (N := some 9) #[T,F,F,T,F,F,F,F,F,F,F,F,F,F,F] (any_of HT_.out (by kernel_rfl)) ?_
 refine pu (i := 6) (N := some 12) #[T,F,F,T,F,F,T,F,F,F,F,F,F,F,F] (any_of HT_.out (by kernel_rfl)) ?_
 refine pu (i := 9) (N := some 15) #[T,F,F,T,F,F,T,F,F,T,F,F,F,F,F] (any_of HT_.out (by kernel_rfl)) ?_
 refine take_ (i := 1) (N := some 7) (v := ?_) (a' := ?_) #[T,T,F,T,F,F,T,F,F,T,F,F,F,F,F] rfl rfl (take_ofW HT_.out HW_.out (by kernel_rfl)) (fun _ _ _ h => h) (Or.inl ⟨by rfl, ?_⟩) hHeld ?_ ?_
 rotate_left
 ·rintro w' ⟨s0, s1, s2, s3⟩
  go_simp
  with_reducible rfl
 rotate_left
 ·exact acq
 refine take_ (i := 4) (N := some 10) (v := ?_) (a' := ?_) #[T,T,F,T,T,F,T,F,F,T,F,F,F,F,F] rfl rfl (take_ofW HT_.out HW_.out (by kernel_rfl)) (fun _ _ _ h => h) (Or.inl ⟨by rfl, ?_⟩) hHeld ?_ ?_
 rotate_left
 ·rintro w' ⟨s0, s1, s2, s3⟩
  go_simp
  with_reducible rfl
 rotate_left
 ·exact acq
 refine take_ (i := 7) (N := some 13) (v := ?_) (a' := ?_) #[T,T,F,T,T,F,T,T,F,T,F,F,F,F,F] rfl rfl (take_ofW HT_.out HW_.out (by kernel_rfl)) (fun _ _ _ h => h) (Or.inl ⟨by rfl, ?_⟩) hHeld ?_ ?_
 rotate_left
 ·rintro w' ⟨s0, s1, s2, s3⟩
  go_simp
  with_reducible rfl
 rotate_left
 ·exact acq
 refine take_ (i := 10) (N := some 16) (v := ?_) (a' := ?_) #[T,T,F,T,T,F,T,T,F,T,T,F,F,F,F] rfl rfl (take_ofW HT_.out HW_.out (by kernel_rfl)) (fun _ _ _ h => h) (Or.inl ⟨by rfl, ?_⟩) hHeld ?_ ?_
 rotate_left
 ·rintro w' ⟨s0, s1, s2, s3⟩
  go_simp
  with_reducible rfl
 rotate_left
 ·exact acq
 refine one_ (i := 2) (N := some 8) #[T,T,T,T,T,F,T,T,F,T,T,F,F,F,F] rfl rfl (one_of HT_.out (by kernel_rfl)) (by decide) (fun K hK => ?_)
 refine goes_ Tryd.func36 (by kernel_rfl) rfl #[.int .i64 a0_0] (by rfl) rfl rfl ln_6 ?_
 with_reducible refine (impl_FormatInt.calls a0_0 t133 _ A4.out).mono ?_
 rintro e w13 ⟨rfl, hb⟩
 refine ⟨_, rfl, ?_⟩
 replace BK131 := bkz BK131 hb; replace HB := Az.mk (bwT bw_6 hb)
 (try clear hb)
 (try clear hb2)
 (try clear hk)
 (try clear hi)
 refine hK.out _ _ cs_ (fun hHeld => ?_)
 clear hK K
 refine norm_ (a' := ?_) ?_ ?_
 rotate_left
 ·show Act.put _ (some 8) _ = _
  exact acq
 refine one_ (i := 5) (N := some 11) #[T,T,T,T,T,T,T,T,F,T,T,F,F,F,F] rfl rfl (one_of HT_.out (by kernel_rfl)) (by decide) (fun K hK => ?_)
 refine goes_ Tryd.func36 (by kernel_rfl) rfl #[.int .i64 a0_1] (by rfl) rfl rfl ln_6 ?_
 with_reducible refine (impl_FormatInt.calls a0_1 t134 _ A5.out).mono ?_
 rintro e w14 ⟨rfl, hb⟩
 refine ⟨_, rfl, ?_⟩
 replace BK131 := bkz BK131 hb; replace HB := Az.mk (bwT bw_6 hb)
 (try clear hb)
 (try clear hb2)
 (try clear hk)
 (try clear hi)
 refine hK.out _ _ cs_ (fun hHeld => ?_)
 clear hK K
 refine norm_ (a' := ?_) ?_ ?_
 rotate_left
 ·show Act.put _ (some 11) _ = _
  exact acq
 refine one_ (i := 8) (N := some 14) #[T,T,T,T,T,T,T,T,T,T,T,F,F,F,F] rfl rfl (one_of HT_.out (by kernel_rfl)) (by decide) (fun K hK => ?_)
 refine goes_ Tryd.func36 (by kernel_rfl) rfl #[.int .i64 a0_2] (by rfl) rfl rfl ln_6 ?_
 with_reducible refine (impl_FormatInt.calls a0_2 t135 _ A6.out).mono ?_
 rintro e w15 ⟨rfl, hb⟩
 refine ⟨_, rfl, ?_⟩
 replace BK131 := bkz BK131 hb; replace HB := Az.mk (bwT bw_6 hb)
 (try clear hb)
 (try clear hb2)
 (try clear hk)
 (try clear hi)
 refine hK.out _ _ cs_ (fun hHeld => ?_)
 clear hK K
 refine norm_ (a' := ?_) ?_ ?_
 rotate_left
 ·show Act.put _ (some 14) _ = _
  exact acq
 refine one_ (i := 11) (N := some 17) #[T,T,T,T,T,T,T,T,T,T,T,T,F,F,F] rfl rfl (one_of HT_.out (by kernel_rfl)) (by decide) (fun K hK => ?_)
 refine goes_ Tryd.func36 (by kernel_rfl) rfl #[.int .i64 a0_3] (by rfl) rfl rfl ln_6 ?_
 with_reducible refine (impl_FormatInt.calls a0_3 t136 _ A7.out).mono ?_
 rintro e w16 ⟨rfl, hb⟩
 refine ⟨_, rfl, ?_⟩
 replace BK131 := bkz BK131 hb; replace HB := Az.mk (bwT bw_6 hb)
 (try clear hb)
 (try clear hb2)
 (try clear hk)
 (try clear hi)
 refine hK.out _ _ cs_ (fun hHeld => ?_)
 clear hK K
 refine norm_ (a' := ?_) ?_ ?_
 rotate_left
 ·show Act.put _ (some 17) _ = _
  exact acq
 refine one_ (i := 12) (N := some 18) #[T,T,T,T,T,T,T,T,T,T,T,T,T,F,F] rfl rfl (one_of HT_.out (by kernel_rfl)) (by decide) (fun K hK => ?_)
 refine Kd.R_lit_step Kd.string _ 9 ?hg (N := 18) ?hd (xs := ([t133, t134, t135, t136] : List ByteArray)) (inner := [.string t133, .string t134, .string t135, .string t136]) (ok := fun _ => True) (okp := fun _ => True) ?hr ?hp (fun _ hk => hk) trivial (Below.refl _ _) (Nat.le_refl _) (by simp) ?_; (case hd => rfl); (case hg => rfl); (case hr => first | (go_simp; done) | (go_simp; rfl)); (case hp => exact (Reps.one (show Kd.M Kd.string _ _ _ t133 [.string t133] from rfl) (Reps.one (show Kd.M Kd.string _ _ _ t134 [.string t134] from rfl) (Reps.one (show Kd.M Kd.string _ _ _ t135 [.string t135] from rfl) (Reps.one (show Kd.M Kd.string _ _ _ t136 [.string t136] from rfl) (Reps.none _ _))))))
 intro v138 w17 ho18 hb hg_ hnew_
 clear hg_ hnew_
 (first | rw [← Ny137.out] at ho18 | (simp only [Int.reduceToNat] at ho18; rw [← Ny137.out] at ho18))
 have HO139 := Az.mk (Kd.R_lower ho18 (bwZ bw_6)); replace BK131 := bkz BK131 hb; replace HB := Az.mk (bwT bw_6 hb)
 clear hb ho18
 obtain ⟨Ao19, co19, eo19⟩ := Kd.R_slice HO139.out
 (first | subst eo19 | (injection eo19 with f1_ f2_ f3_; have f4_ := f1_.symm; have f5_ := f3_.symm; clear f1_ f2_ f3_; subst f4_; subst f5_))
 refine hK.out _ _ cs_ (fun hHeld => ?_)
 clear hK K
 refine norm_ (a' := ?_) ?_ ?_
 rotate_left
 ·show Act.put _ (some 18) _ = _
  exact acq
 refine one_ (i := 13) (N := some 19) #[T,T,T,T,T,T,T,T,T,T,T,T,T,T,F] rfl rfl (one_of HT_.out (by kernel_rfl)) (by decide) (fun K hK => ?_)
 refine goes_ Tryd.func35 (by kernel_rfl) rfl #[.slice Ao19 y137.length co19, .string (⟨#[44]⟩ : ByteArray)] (by rfl) rfl rfl ln_6 ?_
 with_reducible refine (impl_Join.calls _ _ y137 (⟨#[44]⟩ : ByteArray) t140 _ ?side1 ?side2 A8.out).mono ?_
 (case side1 => repeat (first | exact (Kd.R_reads' HO139.out).2.2 | (with_reducible refine Kd.C_alloc ?_ _) | (with_reducible refine Kd.C_drewN ?_ _) | (with_reducible refine Kd.C_drew ?_)))
 (case side2 => exact (Kd.R_reads' HO139.out).2.1)
 rintro e w20 ⟨rfl, hb⟩
 refine ⟨_, rfl, ?_⟩
 replace HO139 := Az.mk (Kd.R_below (by (with_reducible repeat (first | apply Kd.R_alloc | apply Kd.R_drewN | apply Kd.R_drew)); exact HO139.out) hb); replace BK131 := bkz BK131 hb; replace HB := Az.mk (bwT bw_6 hb)
 (try clear hb)
 (try clear hb2)
 (try clear hk)
 (try clear hi)
 refine hK.out _ _ cs_ (fun hHeld => ?_)
 clear hK K
 refine norm_ (a' := ?_) ?_ ?_
 rotate_left
 ·show Act.put _ (some 19) _ = _
  exact acq
 refine pu (i := 14) (N := some 2) #[T,T,T,T,T,T,T,T,T,T,T,T,T,T,T] (any_of HT_.out (by kernel_rfl)) ?_
 refine done_ (done_of HT_.out (by kernel_rfl)) ?_
 try go_wp2
 go_ret
 exact ⟨rq1, bw_6⟩

end Go.Proofs.YtnoiijdffdpabaaDoor.P

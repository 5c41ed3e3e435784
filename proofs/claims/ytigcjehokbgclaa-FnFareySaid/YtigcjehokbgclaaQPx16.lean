-- By this session's driver (wip/tools/mk.py) of the kit's print program, over several statements at once. Not trusted: Lean checks it.
import Derived.Test.YtigcjehokbgclaaQWZip
import Derived.Test.YtigcjehokbgclaaQPx0
import Derived.Test.YtigcjehokbgclaaQPx2
import Derived.Test.YtigcjehokbgclaaQPx13
namespace Go.Proofs.Ytigcjehokbgclaa.P
open Go.RowKit Go.Proofs.YtigcjehokbgclaaW.PrintWords Go.Proofs.YtigcjehokbgclaaW.PrintLast Go.Proofs.YtigcjehokbgclaaW.PrintMore
attribute [local go_sem] max2_int min2_int max_two min_two max_three min_three max_four min_four   -- for this text's walks alone
set_option linter.unusedVariables false
set_option linter.unusedSimpArgs false
theorem bw_16 {n : Nat} {v v' : World} (h : Below n v v' := by repeat (first | (with_reducible first | exact HB.out | apply bwA | apply pbN | apply bwD | refine bwS ?_ GE381.out | refine bwS ?_ GE382.out | refine bwS ?_ GE390.out | refine bwS ?_ GE394.out | refine bwS ?_ GE404.out | refine bwS ?_ GE405.out | refine bwS ?_ GE406.out | refine bwS ?_ GE411.out | refine bwS ?_ GE414.out | refine bwS ?_ GE419.out | refine bwS ?_ GE420.out | refine bwS ?_ GE421.out | refine bwS ?_ GE422.out | refine bwS ?_ GE423.out | refine bwS ?_ GE424.out) | exact HB.out)) : Below n v v' := h
theorem ln_16 {P : Prop} (h : P := by (try simp only [List.map_toArray, List.map_cons, List.map_nil]); first | done | rfl | (simp only [List.length_drop, List.length_take]; rfl)) : P := h
open Option renaming bind_eq_some_iff → be

/-! ### spec_CommonNeighbours: function 17 -/
def spec_CommonNeighbours.f (k : Nat) (a0_0 : Int) (a0_1 : Int) (a1_0 : Int) (a1_1 : Int) : Option ((List (S25))) := (spec_CrossNumber.f k a0_0 a0_1 a1_0 a1_1).bind fun t383 => (if t383 = 1 then ((spec_SlopeOf.f k (wrap64 (a0_0 + a1_0)) (wrap64 (a0_1 + a1_1))).bind fun bt387 => ((spec_SlopeOf.f k (wrap64 (a0_0 - a1_0)) (wrap64 (a0_1 - a1_1))).bind fun bt391 => (if bt387.2.2 = true then (if bt391.2.2 = true then (some (([(⟨bt387.1, bt387.2.1⟩ : S25), (⟨bt391.1, bt391.2.1⟩ : S25)] : List (S25)))) else (some (([] : List (S25))))) else (some (([] : List (S25))))))) else (some (([] : List (S25)))))
theorem spec_CommonNeighbours.mono : ∀ a0 a1 a2 a3 k, LeO (spec_CommonNeighbours.f k a0 a1 a2 a3) (spec_CommonNeighbours.f (k + 1) a0 a1 a2 a3) := by
 intro a0 a1 a2 a3 k
 unfold spec_CommonNeighbours.f
 exact mo_
instance spec_CommonNeighbours.mi {a0 a1 a2 a3 k} : MoO (spec_CommonNeighbours.f k a0 a1 a2 a3) (spec_CommonNeighbours.f (k + 1) a0 a1 a2 a3) := ⟨spec_CommonNeighbours.mono _ _ _ _ _⟩
set_option maxHeartbeats 8000000 in
set_option maxRecDepth 100000 in
theorem spec_CommonNeighbours.calls (k : Nat) (a0_0 : Int) (a0_1 : Int) (a1_0 : Int) (a1_1 : Int) (r : List (S25)) (w : World) (h : spec_CommonNeighbours.f k a0_0 a0_1 a1_0 a1_1 = some r) :
  Calls Try.prog 17 #[.agg #[.int .i64 a0_0, .int .i64 a0_1], .agg #[.int .i64 a1_0, .int .i64 a1_1]] w fun e w' => ∃ v0_ : Value, e = .returned (v0_) ∧ Kd.R k25 25 w' w.heap.size (fun _ => True) v0_ r ∧ Below w.heap.size w w' := by
 have hu25 := Try.underlying25
 have HB := Az.mk (Below.refl w.heap.size w)
 have H : ((spec_CrossNumber.f k a0_0 a0_1 a1_0 a1_1).bind fun t383 => (if t383 = 1 then ((spec_SlopeOf.f k (wrap64 (a0_0 + a1_0)) (wrap64 (a0_1 + a1_1))).bind fun bt387 => ((spec_SlopeOf.f k (wrap64 (a0_0 - a1_0)) (wrap64 (a0_1 - a1_1))).bind fun bt391 => (if bt387.2.2 = true then (if bt391.2.2 = true then (some (([(⟨bt387.1, bt387.2.1⟩ : S25), (⟨bt391.1, bt391.2.1⟩ : S25)] : List (S25)))) else (some (([] : List (S25))))) else (some (([] : List (S25))))))) else (some (([] : List (S25)))))) = some r := h
 clear h
 replace H := bez H
 obtain ⟨t383, A3, H⟩ := H
 try dsimp only at H
 by_cases c4 : t383 = 1
 rotate_left
 ·rw [if_neg c4] at H
  have c4b0 : (t383 == 1) = false := beq_eq_false_iff_ne.mpr c4
  have c4b1 : (t383 != 1) = true := bne_iff_ne.mpr c4
  obtain ⟨y384, hy384⟩ : ∃ y_ : List (S25), y_ = (([] : List (S25))) := ⟨_, rfl⟩
  replace H : (some y384) = some r := by first | (rw [hy384]; with_reducible exact H) | (have H2_ := (Option.bind_some _ _).symm.trans H; rw [hy384]; with_reducible exact H2_) | (have H2_ := (Option.bind_some _ _).symm.trans H; with_reducible exact H2_) | with_reducible exact H | (rw [hy384]; exact H) | exact H
  have Ny384 := Az.mk hy384
  clear hy384
  obtain rfl := Option.some.inj H
  go_enter Try.func17, Try.ntmps17
  go_wp2_with (first | ((with_reducible refine gtD (N := 2) rfl ?_); refine bx (N := 2) (cs := #[.int .i64 a0_0, .int .i64 a0_1]) (t := 25) ?_; intro gb381 hg w79 hbox hb; have BK381 := Az.mk (hbox); have GW381 := gwz hg bw_16; have GE381 := gwz hg bw_16; replace HB := Az.mk (bwT bw_16 hb); clear hb hbox hg) | ((with_reducible refine gtD (N := 3) rfl ?_); refine bx (N := 3) (cs := #[.int .i64 a1_0, .int .i64 a1_1]) (t := 25) ?_; intro gb382 hg w80 hbox hb; have BK382 := Az.mk (hbox); have GW382 := gwz hg bw_16; have GE382 := gwz hg bw_16; replace HB := Az.mk (bwT bw_16 hb); have NB381_382 := nlt BK381 hg; have NB382_381 := ngt BK381 hg; replace BK381 := bkz BK381 hb; clear hb hbox hg; have hnb81 := NB381_382.out; have hnc81 := NB382_381.out; obtain ⟨hcz82_0, hcz82_1, hfz82_0, hfz82_1⟩ := bq2 BK381; obtain ⟨hcz83_0, hcz83_1, hfz83_0, hfz83_1⟩ := bq2 BK382) | ((with_reducible refine gtC (f := 18) rfl ?_); refine clz Try.func18 (some 11) #[.agg #[.int .i64 a0_0, .int .i64 a0_1], .agg #[.int .i64 a1_0, .int .i64 a1_1]] ?_; (with_reducible refine (spec_CrossNumber.calls k a0_0 a0_1 a1_0 a1_1 t383 _ A3.out).mono ?_); rintro e w84 ⟨rfl, hb⟩; refine ⟨_, rfl, ?_⟩; replace BK381 := bkz BK381 hb; replace BK382 := bkz BK382 hb; replace HB := Az.mk (bwT bw_16 hb); (try clear hb)) | ((with_reducible refine gtD (N := 13) rfl ?_); refine Kd.R_lit k25 _ 25 ?hg (N := 13) ?hd (xs := ([] : List (S25))) (inner := []) (ok := fun _ => True) (okp := fun _ => True) ?hr ?hp (fun _ hk => hk) trivial (Below.refl _ _) (Nat.le_refl _) (by simp) ?_; (case hd => rfl); (case hg => rfl); (case hr => first | (go_simp; done) | (go_simp; rfl)); (case hp => exact (Reps.none _ _)); intro v385 w85 ho86 hb hg_ hnew_; clear hg_ hnew_; (first | rw [← Ny384.out] at ho86 | (simp only [Int.reduceToNat] at ho86; rw [← Ny384.out] at ho86)); have HO386 := Az.mk (Kd.R_lower (Kd.R_newB (Kd.R_newB ho86 (g := gb381) (o := .cells #[.int .i64 a0_0, .int .i64 a0_1] 25 (0, 0)) (bk1 BK381)) (g := gb382) (o := .cells #[.int .i64 a1_0, .int .i64 a1_1] 25 (0, 0)) (bk1 BK382)) (bwZ bw_16)); replace BK381 := bkz BK381 hb; replace BK382 := bkz BK382 hb; replace HB := Az.mk (bwT bw_16 hb); clear hb ho86))
  go_ret
  exact ⟨_, rq1, by (with_reducible repeat (first | apply Kd.R_alloc | apply Kd.R_drewN | apply Kd.R_drew)); exact Kd.R_mono HO386.out (fun _ hk => trivial), bw_16⟩
 rw [if_pos c4] at H
 have c4b0 : (t383 == 1) = true := beq_iff_eq.mpr c4
 have c4b1 : (t383 != 1) = false := bne_eq_false_iff_eq.mpr c4
 clear c4
 replace H := bez H
 obtain ⟨⟨t387, t388, t389⟩, A5, H⟩ := H
 try dsimp only at H
 replace H := bez H
 obtain ⟨⟨t391, t392, t393⟩, A6, H⟩ := H
 try dsimp only at H
 by_cases c7 : t389 = true
 rotate_left
 ·replace c7 := Bool.eq_false_iff.mpr c7
  subst c7
  rw [if_neg (show ¬ (false = true) by decide)] at H
  obtain ⟨y401, hy401⟩ : ∃ y_ : List (S25), y_ = (([] : List (S25))) := ⟨_, rfl⟩
  replace H : (some y401) = some r := by first | (rw [hy401]; with_reducible exact H) | (have H2_ := (Option.bind_some _ _).symm.trans H; rw [hy401]; with_reducible exact H2_) | (have H2_ := (Option.bind_some _ _).symm.trans H; with_reducible exact H2_) | with_reducible exact H | (rw [hy401]; exact H) | exact H
  have Ny401 := Az.mk hy401
  clear hy401
  obtain rfl := Option.some.inj H
  go_enter Try.func17, Try.ntmps17
  go_wp2_with (first | ((with_reducible refine gtD (N := 2) rfl ?_); refine bx (N := 2) (cs := #[.int .i64 a0_0, .int .i64 a0_1]) (t := 25) ?_; intro gb381 hg w56 hbox hb; have BK381 := Az.mk (hbox); have GW381 := gwz hg bw_16; have GE381 := gwz hg bw_16; replace HB := Az.mk (bwT bw_16 hb); clear hb hbox hg) | ((with_reducible refine gtD (N := 3) rfl ?_); refine bx (N := 3) (cs := #[.int .i64 a1_0, .int .i64 a1_1]) (t := 25) ?_; intro gb382 hg w57 hbox hb; have BK382 := Az.mk (hbox); have GW382 := gwz hg bw_16; have GE382 := gwz hg bw_16; replace HB := Az.mk (bwT bw_16 hb); have NB381_382 := nlt BK381 hg; have NB382_381 := ngt BK381 hg; replace BK381 := bkz BK381 hb; clear hb hbox hg; have hnb58 := NB381_382.out; have hnc58 := NB382_381.out; obtain ⟨hcz59_0, hcz59_1, hfz59_0, hfz59_1⟩ := bq2 BK381; obtain ⟨hcz60_0, hcz60_1, hfz60_0, hfz60_1⟩ := bq2 BK382) | ((with_reducible refine gtC (f := 18) rfl ?_); refine clz Try.func18 (some 11) #[.agg #[.int .i64 a0_0, .int .i64 a0_1], .agg #[.int .i64 a1_0, .int .i64 a1_1]] ?_; (with_reducible refine (spec_CrossNumber.calls k a0_0 a0_1 a1_0 a1_1 t383 _ A3.out).mono ?_); rintro e w61 ⟨rfl, hb⟩; refine ⟨_, rfl, ?_⟩; replace BK381 := bkz BK381 hb; replace BK382 := bkz BK382 hb; replace HB := Az.mk (bwT bw_16 hb); (try clear hb); obtain ⟨hcz62_0, hcz62_1, hfz62_0, hfz62_1⟩ := bq2 BK381; obtain ⟨hcz63_0, hcz63_1, hfz63_0, hfz63_1⟩ := bq2 BK382) | ((with_reducible refine gtC (f := 42) rfl ?_); refine clz Try.func42 (some 25) #[.int .i64 (wrap64 (a0_0 + a1_0)), .int .i64 (wrap64 (a0_1 + a1_1))] ?_; (with_reducible refine (spec_SlopeOf.calls k (wrap64 (a0_0 + a1_0)) (wrap64 (a0_1 + a1_1)) t387 t388 false _ A5.out).mono ?_); rintro e w64 ⟨rfl, hb⟩; refine ⟨_, rfl, ?_⟩; replace BK381 := bkz BK381 hb; replace BK382 := bkz BK382 hb; replace HB := Az.mk (bwT bw_16 hb); (try clear hb)) | ((with_reducible refine gtD (N := 5) rfl ?_); refine bx (N := 5) (cs := #[.int .i64 0, .int .i64 0]) (t := 25) ?_; intro gb390 hg w65 hbox hb; have BK390 := Az.mk (hbox); have GW390 := gwz hg bw_16; have GE390 := gwz hg bw_16; replace HB := Az.mk (bwT bw_16 hb); have NB381_390 := nlt BK381 hg; have NB390_381 := ngt BK381 hg; replace BK381 := bkz BK381 hb; have NB382_390 := nlt BK382 hg; have NB390_382 := ngt BK382 hg; replace BK382 := bkz BK382 hb; clear hb hbox hg; have hnb66 := NB390_381.out; have hnc66 := NB381_390.out; have hnb67 := NB390_382.out; have hnc67 := NB382_390.out; obtain ⟨hcz68_0, hcz68_1, hfz68_0, hfz68_1⟩ := bq2 BK390; obtain ⟨hcz69_0, hcz69_1, hfz69_0, hfz69_1⟩ := bq2 BK381; obtain ⟨hcz70_0, hcz70_1, hfz70_0, hfz70_1⟩ := bq2 BK382) | ((with_reducible refine gtC (f := 42) rfl ?_); refine clz Try.func42 (some 39) #[.int .i64 (wrap64 (a0_0 - a1_0)), .int .i64 (wrap64 (a0_1 - a1_1))] ?_; (with_reducible refine (spec_SlopeOf.calls k (wrap64 (a0_0 - a1_0)) (wrap64 (a0_1 - a1_1)) t391 t392 t393 _ A6.out).mono ?_); rintro e w71 ⟨rfl, hb⟩; refine ⟨_, rfl, ?_⟩; replace BK381 := Az.mk (bkB (g := gb381) (o := .cells #[.int .i64 a0_0, .int .i64 a0_1] 25 (0, 0)) bkv hb); replace BK382 := Az.mk (bkB (g := gb382) (o := .cells #[.int .i64 a1_0, .int .i64 a1_1] 25 (0, 0)) bkv hb); replace BK390 := Az.mk (bkB (g := gb390) (o := .cells #[.int .i64 t387, .int .i64 t388] 25 (0, 0)) bkv hb); replace HB := Az.mk (bwT bw_16 hb); (try clear hb)) | ((with_reducible refine gtD (N := 7) rfl ?_); refine bx (N := 7) (cs := #[.int .i64 0, .int .i64 0]) (t := 25) ?_; intro gb394 hg w72 hbox hb; have BK394 := Az.mk (hbox); have GW394 := gwz hg bw_16; have GE394 := gwz hg bw_16; replace HB := Az.mk (bwT bw_16 hb); have NB381_394 := nlt BK381 hg; have NB394_381 := ngt BK381 hg; replace BK381 := bkz BK381 hb; have NB382_394 := nlt BK382 hg; have NB394_382 := ngt BK382 hg; replace BK382 := bkz BK382 hb; have NB390_394 := nlt BK390 hg; have NB394_390 := ngt BK390 hg; replace BK390 := bkz BK390 hb; clear hb hbox hg; have hnb73 := NB394_381.out; have hnc73 := NB381_394.out; have hnb74 := NB394_382.out; have hnc74 := NB382_394.out; have hnb75 := NB394_390.out; have hnc75 := NB390_394.out; obtain ⟨hcz76_0, hcz76_1, hfz76_0, hfz76_1⟩ := bq2 BK394) | ((with_reducible refine gtD (N := 48) rfl ?_); refine Kd.R_lit k25 _ 25 ?hg (N := 48) ?hd (xs := ([] : List (S25))) (inner := []) (ok := fun _ => True) (okp := fun _ => True) ?hr ?hp (fun _ hk => hk) trivial (Below.refl _ _) (Nat.le_refl _) (by simp) ?_; (case hd => rfl); (case hg => rfl); (case hr => first | (go_simp; done) | (go_simp; rfl)); (case hp => exact (Reps.none _ _)); intro v402 w77 ho78 hb hg_ hnew_; clear hg_ hnew_; (first | rw [← Ny401.out] at ho78 | (simp only [Int.reduceToNat] at ho78; rw [← Ny401.out] at ho78)); have HO403 := Az.mk (Kd.R_lower (Kd.R_newB (Kd.R_newB (Kd.R_newB (Kd.R_newB ho78 (g := gb381) (o := .cells #[.int .i64 a0_0, .int .i64 a0_1] 25 (0, 0)) bkv) (g := gb382) (o := .cells #[.int .i64 a1_0, .int .i64 a1_1] 25 (0, 0)) bkv) (g := gb390) (o := .cells #[.int .i64 t387, .int .i64 t388] 25 (0, 0)) bkv) (g := gb394) (o := .cells #[.int .i64 t391, .int .i64 t392] 25 (0, 0)) bkv) (bwZ bw_16)); replace BK381 := Az.mk (bkB (g := gb381) (o := .cells #[.int .i64 a0_0, .int .i64 a0_1] 25 (0, 0)) bkv hb); replace BK382 := Az.mk (bkB (g := gb382) (o := .cells #[.int .i64 a1_0, .int .i64 a1_1] 25 (0, 0)) bkv hb); replace BK390 := Az.mk (bkB (g := gb390) (o := .cells #[.int .i64 t387, .int .i64 t388] 25 (0, 0)) bkv hb); replace BK394 := Az.mk (bkB (g := gb394) (o := .cells #[.int .i64 t391, .int .i64 t392] 25 (0, 0)) bkv hb); replace HB := Az.mk (bwT bw_16 hb); clear hb ho78))
  go_ret
  exact ⟨_, rq1, by (with_reducible repeat (first | apply Kd.R_alloc | apply Kd.R_drewN | apply Kd.R_drew)); exact Kd.R_mono HO403.out (fun _ hk => trivial), bw_16⟩
 subst c7
 rw [if_pos rfl] at H
 by_cases c8 : t393 = true
 ·subst c8
  rw [if_pos rfl] at H
  obtain ⟨y395, hy395⟩ : ∃ y_ : List (S25), y_ = (([(⟨t387, t388⟩ : S25), (⟨t391, t392⟩ : S25)] : List (S25))) := ⟨_, rfl⟩
  replace H : (some y395) = some r := by first | (rw [hy395]; with_reducible exact H) | (have H2_ := (Option.bind_some _ _).symm.trans H; rw [hy395]; with_reducible exact H2_) | (have H2_ := (Option.bind_some _ _).symm.trans H; with_reducible exact H2_) | with_reducible exact H | (rw [hy395]; exact H) | exact H
  have Ny395 := Az.mk hy395
  clear hy395
  obtain rfl := Option.some.inj H
  go_enter Try.func17, Try.ntmps17
  go_wp2_with (first | ((with_reducible refine gtD (N := 2) rfl ?_); refine bx (N := 2) (cs := #[.int .i64 a0_0, .int .i64 a0_1]) (t := 25) ?_; intro gb381 hg w9 hbox hb; have BK381 := Az.mk (hbox); have GW381 := gwz hg bw_16; have GE381 := gwz hg bw_16; replace HB := Az.mk (bwT bw_16 hb); clear hb hbox hg) | ((with_reducible refine gtD (N := 3) rfl ?_); refine bx (N := 3) (cs := #[.int .i64 a1_0, .int .i64 a1_1]) (t := 25) ?_; intro gb382 hg w10 hbox hb; have BK382 := Az.mk (hbox); have GW382 := gwz hg bw_16; have GE382 := gwz hg bw_16; replace HB := Az.mk (bwT bw_16 hb); have NB381_382 := nlt BK381 hg; have NB382_381 := ngt BK381 hg; replace BK381 := bkz BK381 hb; clear hb hbox hg; have hnb11 := NB381_382.out; have hnc11 := NB382_381.out; obtain ⟨hcz12_0, hcz12_1, hfz12_0, hfz12_1⟩ := bq2 BK381; obtain ⟨hcz13_0, hcz13_1, hfz13_0, hfz13_1⟩ := bq2 BK382) | ((with_reducible refine gtC (f := 18) rfl ?_); refine clz Try.func18 (some 11) #[.agg #[.int .i64 a0_0, .int .i64 a0_1], .agg #[.int .i64 a1_0, .int .i64 a1_1]] ?_; (with_reducible refine (spec_CrossNumber.calls k a0_0 a0_1 a1_0 a1_1 t383 _ A3.out).mono ?_); rintro e w14 ⟨rfl, hb⟩; refine ⟨_, rfl, ?_⟩; replace BK381 := bkz BK381 hb; replace BK382 := bkz BK382 hb; replace HB := Az.mk (bwT bw_16 hb); (try clear hb); obtain ⟨hcz15_0, hcz15_1, hfz15_0, hfz15_1⟩ := bq2 BK381; obtain ⟨hcz16_0, hcz16_1, hfz16_0, hfz16_1⟩ := bq2 BK382) | ((with_reducible refine gtC (f := 42) rfl ?_); refine clz Try.func42 (some 25) #[.int .i64 (wrap64 (a0_0 + a1_0)), .int .i64 (wrap64 (a0_1 + a1_1))] ?_; (with_reducible refine (spec_SlopeOf.calls k (wrap64 (a0_0 + a1_0)) (wrap64 (a0_1 + a1_1)) t387 t388 true _ A5.out).mono ?_); rintro e w17 ⟨rfl, hb⟩; refine ⟨_, rfl, ?_⟩; replace BK381 := bkz BK381 hb; replace BK382 := bkz BK382 hb; replace HB := Az.mk (bwT bw_16 hb); (try clear hb)) | ((with_reducible refine gtD (N := 5) rfl ?_); refine bx (N := 5) (cs := #[.int .i64 0, .int .i64 0]) (t := 25) ?_; intro gb390 hg w18 hbox hb; have BK390 := Az.mk (hbox); have GW390 := gwz hg bw_16; have GE390 := gwz hg bw_16; replace HB := Az.mk (bwT bw_16 hb); have NB381_390 := nlt BK381 hg; have NB390_381 := ngt BK381 hg; replace BK381 := bkz BK381 hb; have NB382_390 := nlt BK382 hg; have NB390_382 := ngt BK382 hg; replace BK382 := bkz BK382 hb; clear hb hbox hg; have hnb19 := NB390_381.out; have hnc19 := NB381_390.out; have hnb20 := NB390_382.out; have hnc20 := NB382_390.out; obtain ⟨hcz21_0, hcz21_1, hfz21_0, hfz21_1⟩ := bq2 BK390; obtain ⟨hcz22_0, hcz22_1, hfz22_0, hfz22_1⟩ := bq2 BK381; obtain ⟨hcz23_0, hcz23_1, hfz23_0, hfz23_1⟩ := bq2 BK382) | ((with_reducible refine gtC (f := 42) rfl ?_); refine clz Try.func42 (some 39) #[.int .i64 (wrap64 (a0_0 - a1_0)), .int .i64 (wrap64 (a0_1 - a1_1))] ?_; (with_reducible refine (spec_SlopeOf.calls k (wrap64 (a0_0 - a1_0)) (wrap64 (a0_1 - a1_1)) t391 t392 true _ A6.out).mono ?_); rintro e w24 ⟨rfl, hb⟩; refine ⟨_, rfl, ?_⟩; replace BK381 := Az.mk (bkB (g := gb381) (o := .cells #[.int .i64 a0_0, .int .i64 a0_1] 25 (0, 0)) bkv hb); replace BK382 := Az.mk (bkB (g := gb382) (o := .cells #[.int .i64 a1_0, .int .i64 a1_1] 25 (0, 0)) bkv hb); replace BK390 := Az.mk (bkB (g := gb390) (o := .cells #[.int .i64 t387, .int .i64 t388] 25 (0, 0)) bkv hb); replace HB := Az.mk (bwT bw_16 hb); (try clear hb)) | ((with_reducible refine gtD (N := 7) rfl ?_); refine bx (N := 7) (cs := #[.int .i64 0, .int .i64 0]) (t := 25) ?_; intro gb394 hg w25 hbox hb; have BK394 := Az.mk (hbox); have GW394 := gwz hg bw_16; have GE394 := gwz hg bw_16; replace HB := Az.mk (bwT bw_16 hb); have NB381_394 := nlt BK381 hg; have NB394_381 := ngt BK381 hg; replace BK381 := bkz BK381 hb; have NB382_394 := nlt BK382 hg; have NB394_382 := ngt BK382 hg; replace BK382 := bkz BK382 hb; have NB390_394 := nlt BK390 hg; have NB394_390 := ngt BK390 hg; replace BK390 := bkz BK390 hb; clear hb hbox hg; have hnb26 := NB394_381.out; have hnc26 := NB381_394.out; have hnb27 := NB394_382.out; have hnc27 := NB382_394.out; have hnb28 := NB394_390.out; have hnc28 := NB390_394.out; obtain ⟨hcz29_0, hcz29_1, hfz29_0, hfz29_1⟩ := bq2 BK394; obtain ⟨hcz30_0, hcz30_1, hfz30_0, hfz30_1⟩ := bq2 BK390) | ((with_reducible refine gtD (N := 51) rfl ?_); refine Kd.R_lit k25 _ 25 ?hg (N := 51) ?hd (xs := ([(⟨t387, t388⟩ : S25), (⟨t391, t392⟩ : S25)] : List (S25))) (inner := [.int .i64 t387, .int .i64 t388, .int .i64 t391, .int .i64 t392]) (ok := fun _ => True) (okp := fun _ => True) ?hr ?hp (fun _ hk => hk) trivial (Below.refl _ _) (Nat.le_refl _) (by simp) ?_; (case hd => rfl); (case hg => rfl); (case hr => first | (go_simp; done) | (go_simp; rfl)); (case hp => exact (Reps.c2 (show Kd.M k25 _ _ _ (⟨t387, t388⟩ : S25) [.int .i64 t387, .int .i64 t388] from (k25_mkM _ _ _ (⟨t387, t388⟩ : S25) )) (Reps.c2 (show Kd.M k25 _ _ _ (⟨t391, t392⟩ : S25) [.int .i64 t391, .int .i64 t392] from (k25_mkM _ _ _ (⟨t391, t392⟩ : S25) )) (Reps.none _ _)))); intro v396 w31 ho32 hb hg_ hnew_; clear hg_ hnew_; (first | rw [← Ny395.out] at ho32 | (simp only [Int.reduceToNat] at ho32; rw [← Ny395.out] at ho32)); have HO397 := Az.mk (Kd.R_lower (Kd.R_newB (Kd.R_newB (Kd.R_newB (Kd.R_newB ho32 (g := gb381) (o := .cells #[.int .i64 a0_0, .int .i64 a0_1] 25 (0, 0)) bkv) (g := gb382) (o := .cells #[.int .i64 a1_0, .int .i64 a1_1] 25 (0, 0)) bkv) (g := gb390) (o := .cells #[.int .i64 t387, .int .i64 t388] 25 (0, 0)) bkv) (g := gb394) (o := .cells #[.int .i64 t391, .int .i64 t392] 25 (0, 0)) bkv) (bwZ bw_16)); replace BK381 := Az.mk (bkB (g := gb381) (o := .cells #[.int .i64 a0_0, .int .i64 a0_1] 25 (0, 0)) bkv hb); replace BK382 := Az.mk (bkB (g := gb382) (o := .cells #[.int .i64 a1_0, .int .i64 a1_1] 25 (0, 0)) bkv hb); replace BK390 := Az.mk (bkB (g := gb390) (o := .cells #[.int .i64 t387, .int .i64 t388] 25 (0, 0)) bkv hb); replace BK394 := Az.mk (bkB (g := gb394) (o := .cells #[.int .i64 t391, .int .i64 t392] 25 (0, 0)) bkv hb); replace HB := Az.mk (bwT bw_16 hb); clear hb ho32))
  go_ret
  exact ⟨_, rq1, by (with_reducible repeat (first | apply Kd.R_alloc | apply Kd.R_drewN | apply Kd.R_drew)); exact Kd.R_mono HO397.out (fun _ hk => trivial), bw_16⟩
 replace c8 := Bool.eq_false_iff.mpr c8
 subst c8
 rw [if_neg (show ¬ (false = true) by decide)] at H
 obtain ⟨y398, hy398⟩ : ∃ y_ : List (S25), y_ = (([] : List (S25))) := ⟨_, rfl⟩
 replace H : (some y398) = some r := by first | (rw [hy398]; with_reducible exact H) | (have H2_ := (Option.bind_some _ _).symm.trans H; rw [hy398]; with_reducible exact H2_) | (have H2_ := (Option.bind_some _ _).symm.trans H; with_reducible exact H2_) | with_reducible exact H | (rw [hy398]; exact H) | exact H
 have Ny398 := Az.mk hy398
 clear hy398
 obtain rfl := Option.some.inj H
 go_enter Try.func17, Try.ntmps17
 go_wp2_with (first | ((with_reducible refine gtD (N := 2) rfl ?_); refine bx (N := 2) (cs := #[.int .i64 a0_0, .int .i64 a0_1]) (t := 25) ?_; intro gb381 hg w33 hbox hb; have BK381 := Az.mk (hbox); have GW381 := gwz hg bw_16; have GE381 := gwz hg bw_16; replace HB := Az.mk (bwT bw_16 hb); clear hb hbox hg) | ((with_reducible refine gtD (N := 3) rfl ?_); refine bx (N := 3) (cs := #[.int .i64 a1_0, .int .i64 a1_1]) (t := 25) ?_; intro gb382 hg w34 hbox hb; have BK382 := Az.mk (hbox); have GW382 := gwz hg bw_16; have GE382 := gwz hg bw_16; replace HB := Az.mk (bwT bw_16 hb); have NB381_382 := nlt BK381 hg; have NB382_381 := ngt BK381 hg; replace BK381 := bkz BK381 hb; clear hb hbox hg; have hnb35 := NB381_382.out; have hnc35 := NB382_381.out; obtain ⟨hcz36_0, hcz36_1, hfz36_0, hfz36_1⟩ := bq2 BK381; obtain ⟨hcz37_0, hcz37_1, hfz37_0, hfz37_1⟩ := bq2 BK382) | ((with_reducible refine gtC (f := 18) rfl ?_); refine clz Try.func18 (some 11) #[.agg #[.int .i64 a0_0, .int .i64 a0_1], .agg #[.int .i64 a1_0, .int .i64 a1_1]] ?_; (with_reducible refine (spec_CrossNumber.calls k a0_0 a0_1 a1_0 a1_1 t383 _ A3.out).mono ?_); rintro e w38 ⟨rfl, hb⟩; refine ⟨_, rfl, ?_⟩; replace BK381 := bkz BK381 hb; replace BK382 := bkz BK382 hb; replace HB := Az.mk (bwT bw_16 hb); (try clear hb); obtain ⟨hcz39_0, hcz39_1, hfz39_0, hfz39_1⟩ := bq2 BK381; obtain ⟨hcz40_0, hcz40_1, hfz40_0, hfz40_1⟩ := bq2 BK382) | ((with_reducible refine gtC (f := 42) rfl ?_); refine clz Try.func42 (some 25) #[.int .i64 (wrap64 (a0_0 + a1_0)), .int .i64 (wrap64 (a0_1 + a1_1))] ?_; (with_reducible refine (spec_SlopeOf.calls k (wrap64 (a0_0 + a1_0)) (wrap64 (a0_1 + a1_1)) t387 t388 true _ A5.out).mono ?_); rintro e w41 ⟨rfl, hb⟩; refine ⟨_, rfl, ?_⟩; replace BK381 := bkz BK381 hb; replace BK382 := bkz BK382 hb; replace HB := Az.mk (bwT bw_16 hb); (try clear hb)) | ((with_reducible refine gtD (N := 5) rfl ?_); refine bx (N := 5) (cs := #[.int .i64 0, .int .i64 0]) (t := 25) ?_; intro gb390 hg w42 hbox hb; have BK390 := Az.mk (hbox); have GW390 := gwz hg bw_16; have GE390 := gwz hg bw_16; replace HB := Az.mk (bwT bw_16 hb); have NB381_390 := nlt BK381 hg; have NB390_381 := ngt BK381 hg; replace BK381 := bkz BK381 hb; have NB382_390 := nlt BK382 hg; have NB390_382 := ngt BK382 hg; replace BK382 := bkz BK382 hb; clear hb hbox hg; have hnb43 := NB390_381.out; have hnc43 := NB381_390.out; have hnb44 := NB390_382.out; have hnc44 := NB382_390.out; obtain ⟨hcz45_0, hcz45_1, hfz45_0, hfz45_1⟩ := bq2 BK390; obtain ⟨hcz46_0, hcz46_1, hfz46_0, hfz46_1⟩ := bq2 BK381; obtain ⟨hcz47_0, hcz47_1, hfz47_0, hfz47_1⟩ := bq2 BK382) | ((with_reducible refine gtC (f := 42) rfl ?_); refine clz Try.func42 (some 39) #[.int .i64 (wrap64 (a0_0 - a1_0)), .int .i64 (wrap64 (a0_1 - a1_1))] ?_; (with_reducible refine (spec_SlopeOf.calls k (wrap64 (a0_0 - a1_0)) (wrap64 (a0_1 - a1_1)) t391 t392 false _ A6.out).mono ?_); rintro e w48 ⟨rfl, hb⟩; refine ⟨_, rfl, ?_⟩; replace BK381 := Az.mk (bkB (g := gb381) (o := .cells #[.int .i64 a0_0, .int .i64 a0_1] 25 (0, 0)) bkv hb); replace BK382 := Az.mk (bkB (g := gb382) (o := .cells #[.int .i64 a1_0, .int .i64 a1_1] 25 (0, 0)) bkv hb); replace BK390 := Az.mk (bkB (g := gb390) (o := .cells #[.int .i64 t387, .int .i64 t388] 25 (0, 0)) bkv hb); replace HB := Az.mk (bwT bw_16 hb); (try clear hb)) | ((with_reducible refine gtD (N := 7) rfl ?_); refine bx (N := 7) (cs := #[.int .i64 0, .int .i64 0]) (t := 25) ?_; intro gb394 hg w49 hbox hb; have BK394 := Az.mk (hbox); have GW394 := gwz hg bw_16; have GE394 := gwz hg bw_16; replace HB := Az.mk (bwT bw_16 hb); have NB381_394 := nlt BK381 hg; have NB394_381 := ngt BK381 hg; replace BK381 := bkz BK381 hb; have NB382_394 := nlt BK382 hg; have NB394_382 := ngt BK382 hg; replace BK382 := bkz BK382 hb; have NB390_394 := nlt BK390 hg; have NB394_390 := ngt BK390 hg; replace BK390 := bkz BK390 hb; clear hb hbox hg; have hnb50 := NB394_381.out; have hnc50 := NB381_394.out; have hnb51 := NB394_382.out; have hnc51 := NB382_394.out; have hnb52 := NB394_390.out; have hnc52 := NB390_394.out; obtain ⟨hcz53_0, hcz53_1, hfz53_0, hfz53_1⟩ := bq2 BK394) | ((with_reducible refine gtD (N := 48) rfl ?_); refine Kd.R_lit k25 _ 25 ?hg (N := 48) ?hd (xs := ([] : List (S25))) (inner := []) (ok := fun _ => True) (okp := fun _ => True) ?hr ?hp (fun _ hk => hk) trivial (Below.refl _ _) (Nat.le_refl _) (by simp) ?_; (case hd => rfl); (case hg => rfl); (case hr => first | (go_simp; done) | (go_simp; rfl)); (case hp => exact (Reps.none _ _)); intro v399 w54 ho55 hb hg_ hnew_; clear hg_ hnew_; (first | rw [← Ny398.out] at ho55 | (simp only [Int.reduceToNat] at ho55; rw [← Ny398.out] at ho55)); have HO400 := Az.mk (Kd.R_lower (Kd.R_newB (Kd.R_newB (Kd.R_newB (Kd.R_newB ho55 (g := gb381) (o := .cells #[.int .i64 a0_0, .int .i64 a0_1] 25 (0, 0)) bkv) (g := gb382) (o := .cells #[.int .i64 a1_0, .int .i64 a1_1] 25 (0, 0)) bkv) (g := gb390) (o := .cells #[.int .i64 t387, .int .i64 t388] 25 (0, 0)) bkv) (g := gb394) (o := .cells #[.int .i64 t391, .int .i64 t392] 25 (0, 0)) bkv) (bwZ bw_16)); replace BK381 := Az.mk (bkB (g := gb381) (o := .cells #[.int .i64 a0_0, .int .i64 a0_1] 25 (0, 0)) bkv hb); replace BK382 := Az.mk (bkB (g := gb382) (o := .cells #[.int .i64 a1_0, .int .i64 a1_1] 25 (0, 0)) bkv hb); replace BK390 := Az.mk (bkB (g := gb390) (o := .cells #[.int .i64 t387, .int .i64 t388] 25 (0, 0)) bkv hb); replace BK394 := Az.mk (bkB (g := gb394) (o := .cells #[.int .i64 t391, .int .i64 t392] 25 (0, 0)) bkv hb); replace HB := Az.mk (bwT bw_16 hb); clear hb ho55))
 go_ret
 exact ⟨_, rq1, by (with_reducible repeat (first | apply Kd.R_alloc | apply Kd.R_drewN | apply Kd.R_drew)); exact Kd.R_mono HO400.out (fun _ hk => trivial), bw_16⟩

/-! ### spec_SumSlope: function 19 -/
def spec_SumSlope.f (k : Nat) (a0_0 : Int) (a0_1 : Int) (a1_0 : Int) (a1_1 : Int) : Option (Int × Int × Bool) := (spec_CrossNumber.f k a0_0 a0_1 a1_0 a1_1).bind fun t407 => (if t407 = 1 then ((spec_SlopeOf.f k (wrap64 (a0_0 + a1_0)) (wrap64 (a0_1 + a1_1))).bind fun bt408 => (some (bt408.1, bt408.2.1, bt408.2.2))) else (some (0, 0, false)))
theorem spec_SumSlope.mono : ∀ a0 a1 a2 a3 k, LeO (spec_SumSlope.f k a0 a1 a2 a3) (spec_SumSlope.f (k + 1) a0 a1 a2 a3) := by
 intro a0 a1 a2 a3 k
 unfold spec_SumSlope.f
 exact mo_
instance spec_SumSlope.mi {a0 a1 a2 a3 k} : MoO (spec_SumSlope.f k a0 a1 a2 a3) (spec_SumSlope.f (k + 1) a0 a1 a2 a3) := ⟨spec_SumSlope.mono _ _ _ _ _⟩
set_option maxHeartbeats 8000000 in
set_option maxRecDepth 100000 in
theorem spec_SumSlope.calls (k : Nat) (a0_0 : Int) (a0_1 : Int) (a1_0 : Int) (a1_1 : Int) (r1 : Int) (r2 : Int) (r3 : Bool) (w : World) (h : spec_SumSlope.f k a0_0 a0_1 a1_0 a1_1 = some (r1, r2, r3)) :
  Calls Try.prog 19 #[.agg #[.int .i64 a0_0, .int .i64 a0_1], .agg #[.int .i64 a1_0, .int .i64 a1_1]] w fun e w' => e = .returned (.tuple #[.agg #[.int .i64 r1, .int .i64 r2], .bool r3]) ∧ Below w.heap.size w w' := by
 have hu25 := Try.underlying25
 have HB := Az.mk (Below.refl w.heap.size w)
 have H : ((spec_CrossNumber.f k a0_0 a0_1 a1_0 a1_1).bind fun t407 => (if t407 = 1 then ((spec_SlopeOf.f k (wrap64 (a0_0 + a1_0)) (wrap64 (a0_1 + a1_1))).bind fun bt408 => (some (bt408.1, bt408.2.1, bt408.2.2))) else (some (0, 0, false)))) = some (r1, r2, r3) := h
 clear h
 replace H := bez H
 obtain ⟨t407, A3, H⟩ := H
 try dsimp only at H
 by_cases c4 : t407 = 1
 rotate_left
 ·rw [if_neg c4] at H
  have c4b0 : (t407 == 1) = false := beq_eq_false_iff_ne.mpr c4
  have c4b1 : (t407 != 1) = true := bne_iff_ne.mpr c4
  simp only [Option.some.injEq, Prod.mk.injEq] at H
  obtain ⟨rfl, rfl, rfl⟩ := H
  go_enter Try.func19, Try.ntmps19
  go_wp2_with (first | ((with_reducible refine gtD (N := 2) rfl ?_); refine bx (N := 2) (cs := #[.int .i64 a0_0, .int .i64 a0_1]) (t := 25) ?_; intro gb404 hg w24 hbox hb; have BK404 := Az.mk (hbox); have GW404 := gwz hg bw_16; have GE404 := gwz hg bw_16; replace HB := Az.mk (bwT bw_16 hb); clear hb hbox hg) | ((with_reducible refine gtD (N := 3) rfl ?_); refine bx (N := 3) (cs := #[.int .i64 a1_0, .int .i64 a1_1]) (t := 25) ?_; intro gb405 hg w25 hbox hb; have BK405 := Az.mk (hbox); have GW405 := gwz hg bw_16; have GE405 := gwz hg bw_16; replace HB := Az.mk (bwT bw_16 hb); have NB404_405 := nlt BK404 hg; have NB405_404 := ngt BK404 hg; replace BK404 := bkz BK404 hb; clear hb hbox hg) | ((with_reducible refine gtD (N := 4) rfl ?_); refine bx (N := 4) (cs := #[.int .i64 0, .int .i64 0]) (t := 25) ?_; intro gb406 hg w26 hbox hb; have BK406 := Az.mk (hbox); have GW406 := gwz hg bw_16; have GE406 := gwz hg bw_16; replace HB := Az.mk (bwT bw_16 hb); have NB404_406 := nlt BK404 hg; have NB406_404 := ngt BK404 hg; replace BK404 := bkz BK404 hb; have NB405_406 := nlt BK405 hg; have NB406_405 := ngt BK405 hg; replace BK405 := bkz BK405 hb; clear hb hbox hg; have hnb27 := NB404_405.out; have hnc27 := NB405_404.out; have hnb28 := NB404_406.out; have hnc28 := NB406_404.out; obtain ⟨hcz29_0, hcz29_1, hfz29_0, hfz29_1⟩ := bq2 BK404; have hnb30 := NB405_406.out; have hnc30 := NB406_405.out; obtain ⟨hcz31_0, hcz31_1, hfz31_0, hfz31_1⟩ := bq2 BK405) | ((with_reducible refine gtC (f := 18) rfl ?_); refine clz Try.func18 (some 10) #[.agg #[.int .i64 a0_0, .int .i64 a0_1], .agg #[.int .i64 a1_0, .int .i64 a1_1]] ?_; (with_reducible refine (spec_CrossNumber.calls k a0_0 a0_1 a1_0 a1_1 t407 _ A3.out).mono ?_); rintro e w32 ⟨rfl, hb⟩; refine ⟨_, rfl, ?_⟩; replace BK404 := bkz BK404 hb; replace BK405 := bkz BK405 hb; replace BK406 := bkz BK406 hb; replace HB := Az.mk (bwT bw_16 hb); (try clear hb); obtain ⟨hcz33_0, hcz33_1, hfz33_0, hfz33_1⟩ := bq2 BK406))
  refine bodyPost_ret (results_ct rfl _ _ gb406 25 #[.int .i64 0, .int .i64 0] (0, 0) _ rfl bkv Try.underlying25 rfl (by kernel_rfl)) rfl ?_
  exact ⟨rq1, bw_16⟩
 rw [if_pos c4] at H
 have c4b0 : (t407 == 1) = true := beq_iff_eq.mpr c4
 have c4b1 : (t407 != 1) = false := bne_eq_false_iff_eq.mpr c4
 clear c4
 replace H := bez H
 obtain ⟨⟨t408, t409, t410⟩, A5, H⟩ := H
 try dsimp only at H
 simp only [Option.some.injEq, Prod.mk.injEq] at H
 obtain ⟨rfl, rfl, rfl⟩ := H
 go_enter Try.func19, Try.ntmps19
 go_wp2_with (first | ((with_reducible refine gtD (N := 2) rfl ?_); refine bx (N := 2) (cs := #[.int .i64 a0_0, .int .i64 a0_1]) (t := 25) ?_; intro gb404 hg w6 hbox hb; have BK404 := Az.mk (hbox); have GW404 := gwz hg bw_16; have GE404 := gwz hg bw_16; replace HB := Az.mk (bwT bw_16 hb); clear hb hbox hg) | ((with_reducible refine gtD (N := 3) rfl ?_); refine bx (N := 3) (cs := #[.int .i64 a1_0, .int .i64 a1_1]) (t := 25) ?_; intro gb405 hg w7 hbox hb; have BK405 := Az.mk (hbox); have GW405 := gwz hg bw_16; have GE405 := gwz hg bw_16; replace HB := Az.mk (bwT bw_16 hb); have NB404_405 := nlt BK404 hg; have NB405_404 := ngt BK404 hg; replace BK404 := bkz BK404 hb; clear hb hbox hg) | ((with_reducible refine gtD (N := 4) rfl ?_); refine bx (N := 4) (cs := #[.int .i64 0, .int .i64 0]) (t := 25) ?_; intro gb406 hg w8 hbox hb; have BK406 := Az.mk (hbox); have GW406 := gwz hg bw_16; have GE406 := gwz hg bw_16; replace HB := Az.mk (bwT bw_16 hb); have NB404_406 := nlt BK404 hg; have NB406_404 := ngt BK404 hg; replace BK404 := bkz BK404 hb; have NB405_406 := nlt BK405 hg; have NB406_405 := ngt BK405 hg; replace BK405 := bkz BK405 hb; clear hb hbox hg; have hnb9 := NB404_405.out; have hnc9 := NB405_404.out; have hnb10 := NB404_406.out; have hnc10 := NB406_404.out; obtain ⟨hcz11_0, hcz11_1, hfz11_0, hfz11_1⟩ := bq2 BK404; have hnb12 := NB405_406.out; have hnc12 := NB406_405.out; obtain ⟨hcz13_0, hcz13_1, hfz13_0, hfz13_1⟩ := bq2 BK405) | ((with_reducible refine gtC (f := 18) rfl ?_); refine clz Try.func18 (some 10) #[.agg #[.int .i64 a0_0, .int .i64 a0_1], .agg #[.int .i64 a1_0, .int .i64 a1_1]] ?_; (with_reducible refine (spec_CrossNumber.calls k a0_0 a0_1 a1_0 a1_1 t407 _ A3.out).mono ?_); rintro e w14 ⟨rfl, hb⟩; refine ⟨_, rfl, ?_⟩; replace BK404 := bkz BK404 hb; replace BK405 := bkz BK405 hb; replace BK406 := bkz BK406 hb; replace HB := Az.mk (bwT bw_16 hb); (try clear hb); obtain ⟨hcz15_0, hcz15_1, hfz15_0, hfz15_1⟩ := bq2 BK404; obtain ⟨hcz16_0, hcz16_1, hfz16_0, hfz16_1⟩ := bq2 BK405) | ((with_reducible refine gtC (f := 42) rfl ?_); refine clz Try.func42 (some 24) #[.int .i64 (wrap64 (a0_0 + a1_0)), .int .i64 (wrap64 (a0_1 + a1_1))] ?_; (with_reducible refine (spec_SlopeOf.calls k (wrap64 (a0_0 + a1_0)) (wrap64 (a0_1 + a1_1)) t408 t409 t410 _ A5.out).mono ?_); rintro e w17 ⟨rfl, hb⟩; refine ⟨_, rfl, ?_⟩; replace BK404 := bkz BK404 hb; replace BK405 := bkz BK405 hb; replace BK406 := bkz BK406 hb; replace HB := Az.mk (bwT bw_16 hb); (try clear hb)) | ((with_reducible refine gtD (N := 6) rfl ?_); refine bx (N := 6) (cs := #[.int .i64 0, .int .i64 0]) (t := 25) ?_; intro gb411 hg w18 hbox hb; have BK411 := Az.mk (hbox); have GW411 := gwz hg bw_16; have GE411 := gwz hg bw_16; replace HB := Az.mk (bwT bw_16 hb); have NB404_411 := nlt BK404 hg; have NB411_404 := ngt BK404 hg; replace BK404 := bkz BK404 hb; have NB405_411 := nlt BK405 hg; have NB411_405 := ngt BK405 hg; replace BK405 := bkz BK405 hb; have NB406_411 := nlt BK406 hg; have NB411_406 := ngt BK406 hg; replace BK406 := bkz BK406 hb; clear hb hbox hg; have hnb19 := NB411_404.out; have hnc19 := NB404_411.out; have hnb20 := NB411_405.out; have hnc20 := NB405_411.out; have hnb21 := NB411_406.out; have hnc21 := NB406_411.out; obtain ⟨hcz22_0, hcz22_1, hfz22_0, hfz22_1⟩ := bq2 BK411; obtain ⟨hcz23_0, hcz23_1, hfz23_0, hfz23_1⟩ := bq2 BK406))
 refine bodyPost_ret (results_ct rfl _ _ gb406 25 #[.int .i64 t408, .int .i64 t409] (0, 0) _ rfl bkv Try.underlying25 rfl (by kernel_rfl)) rfl ?_
 exact ⟨rq1, bw_16⟩

/-! ### spec_l11Fits: function 62 -/
def spec_l11Fits.l0 : Nat → List Int → Int → Option (Bool)
 | 0, _, _ => none
 | k + 1, x0, x3 => if x3 < (x0.length : Int) then (if 0 ≤ x3 then ((spec_l1In.f (rd x0 x3) (-1000) 1000).bind fun t413 => (if t413 = true then (spec_l11Fits.l0 k x0 (wrap64 (x3 + 1))) else (some false))) else (none)) else (some true)
def spec_l11Fits.f (k : Nat) (l0 : List Int) : Option (Bool) := spec_l11Fits.l0 k l0 0
theorem spec_l11Fits.mono_l : ∀ k, (∀ y0 y1, LeO (spec_l11Fits.l0 k y0 y1) (spec_l11Fits.l0 (k + 1) y0 y1))
 | 0 => fun _ _ r h => by simp [spec_l11Fits.l0] at h
 | k + 1 => by
  have ih0 := spec_l11Fits.mono_l k
  have i0 := fun z0 z1 => MoO.mk (ih0 z0 z1)
  ·intro y0 y1
   unfold spec_l11Fits.l0
   exact mo_
theorem spec_l11Fits.mono : ∀ a0 k, LeO (spec_l11Fits.f k a0) (spec_l11Fits.f (k + 1) a0) := by
 intro a0 k
 have ih0 := spec_l11Fits.mono_l k
 have i0 := fun z0 z1 => MoO.mk (ih0 z0 z1)
 unfold spec_l11Fits.f
 exact mo_
instance spec_l11Fits.mi {a0 k} : MoO (spec_l11Fits.f k a0) (spec_l11Fits.f (k + 1) a0) := ⟨spec_l11Fits.mono _ _⟩
set_option maxHeartbeats 8000000 in
set_option maxRecDepth 100000 in
theorem spec_l11Fits.calls (k : Nat) (A0 : Option Addr) (c0 : Nat) (l0 : List Int) (r : Bool) (w : World) (hr0 : Kd.C (Kd.int .i64) w A0 l0.length l0) (hc0 : l0.length ≤ c0) (h : spec_l11Fits.f k l0 = some r) :
  Calls Try.prog 62 #[.slice A0 l0.length c0] w fun e w' => e = .returned (.bool r) ∧ Drawn0 w w' := by
 have HR0 := Az.mk hr0
 have HC0 := Az.mk hc0
 clear hr0 hc0
 have H : (spec_l11Fits.l0 k l0 0) = some r := h
 clear h
 have H' := Az.mk H
 clear H
 go_enter Try.func62, Try.ntmps62
 go_wp2
 go_loopg [3] k (fun kq v3 w' => ∃ (x3_1 : Int), v3 = .int .i64 x3_1 ∧ Az (spec_l11Fits.l0 kq l0 x3_1 = some r) ∧ Az (kq ≤ k) ∧ Drawn0 w w')
 case atStart => exact ⟨(0), rq2, H', ⟨Nat.le_refl _⟩, by repeat (first | exact Drawn0.refl _ | apply Drawn0.step)⟩
 clear H'
 obtain ⟨x3_1, rfl, HA, HK1, ⟨m1, rfl⟩⟩ := hrel
 cases gk with
 | zero => exact absurd HA.out (by simp [spec_l11Fits.l0])
 | succ k1 =>
  have H := HA.out
  clear HA
  simp only [spec_l11Fits.l0] at H
  by_cases c2 : x3_1 < (l0.length : Int)
  rotate_left
  ·rw [if_neg c2] at H
   have c2b0 : decide (x3_1 < (l0.length : Int)) = false := decide_eq_false c2
   clear c2
   obtain rfl := Option.some.inj H
   go_wp2
   go_ret
   exact ⟨by first | rfl | (simp; done) | (simp [*]; done), by repeat (first | exact Drawn0.refl _ | apply Drawn0.step)⟩
  rw [if_pos c2] at H
  have c2b0 : decide (x3_1 < (l0.length : Int)) = true := decide_eq_true c2
  clear c2
  by_cases c3 : 0 ≤ x3_1
  rotate_left
  ·rw [if_neg c3] at H
   exact absurd H (by simp)
  rw [if_pos c3] at H
  have c3b0 : decide (0 ≤ x3_1) = true := decide_eq_true c3
  clear c3
  replace H := bez H
  obtain ⟨t413, A4, H⟩ := H
  try dsimp only at H
  by_cases c5 : t413 = true
  rotate_left
  ·replace c5 := Bool.eq_false_iff.mpr c5
   subst c5
   rw [if_neg (show ¬ (false = true) by decide)] at H
   obtain rfl := Option.some.inj H
   have p412 : 0 ≤ (x3_1 : Int) := of_decide_eq_true (by first | (with_reducible assumption) | assumption)
   have q412 : x3_1 < (l0.length : Int) := of_decide_eq_true (by first | (with_reducible assumption) | assumption)
   obtain ⟨ad412, e412, hx412_0⟩ := Kd.at_int HR0.out x3_1 p412 q412
   cases e412
   replace p412 := eq_true p412
   replace q412 := eq_true q412
   go_wp2_with (first | ((with_reducible refine gtC (f := 40) rfl ?_); refine clz Try.func40 (some 14) #[.int .i64 (rd l0 x3_1), .int .i64 (-1000), .int .i64 1000] ?_; (with_reducible refine (spec_l1In.calls (rd l0 x3_1) (-1000) 1000 false _ A4.out).mono ?_); rintro e w' ⟨rfl, ⟨nd, rfl⟩⟩; refine ⟨_, rfl, ?_⟩))
   go_ret
   exact ⟨by first | rfl | (simp; done) | (simp [*]; done), by repeat (first | exact Drawn0.refl _ | apply Drawn0.step)⟩
  subst c5
  rw [if_pos rfl] at H
  have H' := Az.mk H
  clear H
  have p412 : 0 ≤ (x3_1 : Int) := of_decide_eq_true (by first | (with_reducible assumption) | assumption)
  have q412 : x3_1 < (l0.length : Int) := of_decide_eq_true (by first | (with_reducible assumption) | assumption)
  obtain ⟨ad412, e412, hx412_0⟩ := Kd.at_int HR0.out x3_1 p412 q412
  cases e412
  replace p412 := eq_true p412
  replace q412 := eq_true q412
  go_wp2_with (first | ((with_reducible refine gtC (f := 40) rfl ?_); refine clz Try.func40 (some 14) #[.int .i64 (rd l0 x3_1), .int .i64 (-1000), .int .i64 1000] ?_; (with_reducible refine (spec_l1In.calls (rd l0 x3_1) (-1000) 1000 true _ A4.out).mono ?_); rintro e w' ⟨rfl, ⟨nd, rfl⟩⟩; refine ⟨_, rfl, ?_⟩))
  go_roundg k1
  case measure => have := HK1.out; omega
  case rel => exact ⟨(wrap64 (x3_1 + 1)), rq2, H', ⟨by have := HK1.out; omega⟩, by repeat (first | exact Drawn0.refl _ | apply Drawn0.step)⟩

/-! ### spec_IsMatrix: function 45 -/
def spec_IsMatrix.f (k : Nat) (a0_0 : Int) (a0_1 : Int) (a0_2 : Int) (a0_3 : Int) : Option (Bool) := (spec_l11Fits.f k (([a0_0, a0_1, a0_2, a0_3] : List Int))).bind fun t418 => (if t418 = true then (some ((wrap64 ((wrap64 (a0_0 * a0_3)) - (wrap64 (a0_1 * a0_2)))) == 1)) else (some false))
theorem spec_IsMatrix.mono : ∀ a0 a1 a2 a3 k, LeO (spec_IsMatrix.f k a0 a1 a2 a3) (spec_IsMatrix.f (k + 1) a0 a1 a2 a3) := by
 intro a0 a1 a2 a3 k
 unfold spec_IsMatrix.f
 exact mo_
instance spec_IsMatrix.mi {a0 a1 a2 a3 k} : MoO (spec_IsMatrix.f k a0 a1 a2 a3) (spec_IsMatrix.f (k + 1) a0 a1 a2 a3) := ⟨spec_IsMatrix.mono _ _ _ _ _⟩
set_option maxHeartbeats 8000000 in
set_option maxRecDepth 100000 in
theorem spec_IsMatrix.calls (k : Nat) (a0_0 : Int) (a0_1 : Int) (a0_2 : Int) (a0_3 : Int) (r : Bool) (w : World) (h : spec_IsMatrix.f k a0_0 a0_1 a0_2 a0_3 = some r) :
  Calls Try.prog 45 #[.agg #[.int .i64 a0_0, .int .i64 a0_1, .int .i64 a0_2, .int .i64 a0_3]] w fun e w' => e = .returned (.bool r) ∧ Below w.heap.size w w' := by
 have hu41 := Try.underlying41
 have HB := Az.mk (Below.refl w.heap.size w)
 have H : ((spec_l11Fits.f k (([a0_0, a0_1, a0_2, a0_3] : List Int))).bind fun t418 => (if t418 = true then (some ((wrap64 ((wrap64 (a0_0 * a0_3)) - (wrap64 (a0_1 * a0_2)))) == 1)) else (some false))) = some r := h
 clear h
 obtain ⟨y415, hy415⟩ : ∃ y_ : List Int, y_ = (([a0_0, a0_1, a0_2, a0_3] : List Int)) := ⟨_, rfl⟩
 replace H : ((spec_l11Fits.f k y415).bind fun t418 => (if t418 = true then (some ((wrap64 ((wrap64 (a0_0 * a0_3)) - (wrap64 (a0_1 * a0_2)))) == 1)) else (some false))) = some r := by first | (rw [hy415]; with_reducible exact H) | (have H2_ := (Option.bind_some _ _).symm.trans H; rw [hy415]; with_reducible exact H2_) | (have H2_ := (Option.bind_some _ _).symm.trans H; with_reducible exact H2_) | with_reducible exact H | (rw [hy415]; exact H) | exact H
 have Ny415 := Az.mk hy415
 clear hy415
 replace H := bez H
 obtain ⟨t418, A2, H⟩ := H
 try dsimp only at H
 by_cases c3 : t418 = true
 ·subst c3
  rw [if_pos rfl] at H
  obtain rfl := Option.some.inj H
  go_enter Try.func45, Try.ntmps45
  go_wp2_with (first | ((with_reducible refine gtD (N := 1) rfl ?_); refine bx (N := 1) (cs := #[.int .i64 a0_0, .int .i64 a0_1, .int .i64 a0_2, .int .i64 a0_3]) (t := 41) ?_; intro gb414 hg w4 hbox hb; have BK414 := Az.mk (hbox); have GW414 := gwz hg bw_16; have GE414 := gwz hg bw_16; replace HB := Az.mk (bwT bw_16 hb); clear hb hbox hg; obtain ⟨hcz5_0, hcz5_1, hcz5_2, hcz5_3, hfz5_0, hfz5_1, hfz5_2, hfz5_3⟩ := bq4 BK414) | ((with_reducible refine gtD (N := 11) rfl ?_); refine Kd.R_lit (Kd.int .i64) _ 3 ?hg (N := 11) ?hd (xs := ([a0_0, a0_1, a0_2, a0_3] : List Int)) (inner := [.int .i64 a0_0, .int .i64 a0_1, .int .i64 a0_2, .int .i64 a0_3]) (ok := fun _ => True) (okp := fun _ => True) ?hr ?hp (fun _ hk => hk) trivial (Below.refl _ _) (Nat.le_refl _) (by simp) ?_; (case hd => rfl); (case hg => rfl); (case hr => first | (go_simp; done) | (go_simp; rfl)); (case hp => exact (Reps.one (show Kd.M (Kd.int .i64) _ _ _ a0_0 [.int .i64 a0_0] from rfl) (Reps.one (show Kd.M (Kd.int .i64) _ _ _ a0_1 [.int .i64 a0_1] from rfl) (Reps.one (show Kd.M (Kd.int .i64) _ _ _ a0_2 [.int .i64 a0_2] from rfl) (Reps.one (show Kd.M (Kd.int .i64) _ _ _ a0_3 [.int .i64 a0_3] from rfl) (Reps.none _ _)))))); intro v416 w6 ho7 hb hg_ hnew_; clear hg_ hnew_; (first | rw [← Ny415.out] at ho7 | (simp only [Int.reduceToNat] at ho7; rw [← Ny415.out] at ho7)); have HO417 := Az.mk (Kd.R_lower ho7 (bwZ bw_16)); replace BK414 := bkz BK414 hb; replace HB := Az.mk (bwT bw_16 hb); clear hb ho7; obtain ⟨Ao8, co8, eo8⟩ := Kd.R_slice HO417.out; subst eo8) | ((with_reducible refine gtC (f := 62) rfl ?_); refine clz Try.func62 (some 12) #[.slice Ao8 y415.length co8] ?_; (with_reducible refine (spec_l11Fits.calls k _ _ y415 true _ ?side1 ?side2 A2.out).mono ?_); (case side1 => repeat (first | exact (Kd.R_reads' HO417.out).2.2 | (with_reducible refine Kd.C_alloc ?_ _) | (with_reducible refine Kd.C_drewN ?_ _) | (with_reducible refine Kd.C_drew ?_))); (case side2 => exact (Kd.R_reads' HO417.out).2.1); rintro e w' ⟨rfl, ⟨nd, rfl⟩⟩; refine ⟨_, rfl, ?_⟩; obtain ⟨hcz9_0, hcz9_1, hcz9_2, hcz9_3, hfz9_0, hfz9_1, hfz9_2, hfz9_3⟩ := bq4 BK414))
  go_ret
  exact ⟨rq1, bw_16⟩
 replace c3 := Bool.eq_false_iff.mpr c3
 subst c3
 rw [if_neg (show ¬ (false = true) by decide)] at H
 obtain rfl := Option.some.inj H
 go_enter Try.func45, Try.ntmps45
 go_wp2_with (first | ((with_reducible refine gtD (N := 1) rfl ?_); refine bx (N := 1) (cs := #[.int .i64 a0_0, .int .i64 a0_1, .int .i64 a0_2, .int .i64 a0_3]) (t := 41) ?_; intro gb414 hg w10 hbox hb; have BK414 := Az.mk (hbox); have GW414 := gwz hg bw_16; have GE414 := gwz hg bw_16; replace HB := Az.mk (bwT bw_16 hb); clear hb hbox hg; obtain ⟨hcz11_0, hcz11_1, hcz11_2, hcz11_3, hfz11_0, hfz11_1, hfz11_2, hfz11_3⟩ := bq4 BK414) | ((with_reducible refine gtD (N := 11) rfl ?_); refine Kd.R_lit (Kd.int .i64) _ 3 ?hg (N := 11) ?hd (xs := ([a0_0, a0_1, a0_2, a0_3] : List Int)) (inner := [.int .i64 a0_0, .int .i64 a0_1, .int .i64 a0_2, .int .i64 a0_3]) (ok := fun _ => True) (okp := fun _ => True) ?hr ?hp (fun _ hk => hk) trivial (Below.refl _ _) (Nat.le_refl _) (by simp) ?_; (case hd => rfl); (case hg => rfl); (case hr => first | (go_simp; done) | (go_simp; rfl)); (case hp => exact (Reps.one (show Kd.M (Kd.int .i64) _ _ _ a0_0 [.int .i64 a0_0] from rfl) (Reps.one (show Kd.M (Kd.int .i64) _ _ _ a0_1 [.int .i64 a0_1] from rfl) (Reps.one (show Kd.M (Kd.int .i64) _ _ _ a0_2 [.int .i64 a0_2] from rfl) (Reps.one (show Kd.M (Kd.int .i64) _ _ _ a0_3 [.int .i64 a0_3] from rfl) (Reps.none _ _)))))); intro v416 w12 ho13 hb hg_ hnew_; clear hg_ hnew_; (first | rw [← Ny415.out] at ho13 | (simp only [Int.reduceToNat] at ho13; rw [← Ny415.out] at ho13)); have HO417 := Az.mk (Kd.R_lower ho13 (bwZ bw_16)); replace BK414 := bkz BK414 hb; replace HB := Az.mk (bwT bw_16 hb); clear hb ho13; obtain ⟨Ao14, co14, eo14⟩ := Kd.R_slice HO417.out; subst eo14) | ((with_reducible refine gtC (f := 62) rfl ?_); refine clz Try.func62 (some 12) #[.slice Ao14 y415.length co14] ?_; (with_reducible refine (spec_l11Fits.calls k _ _ y415 false _ ?side1 ?side2 A2.out).mono ?_); (case side1 => repeat (first | exact (Kd.R_reads' HO417.out).2.2 | (with_reducible refine Kd.C_alloc ?_ _) | (with_reducible refine Kd.C_drewN ?_ _) | (with_reducible refine Kd.C_drew ?_))); (case side2 => exact (Kd.R_reads' HO417.out).2.1); rintro e w' ⟨rfl, ⟨nd, rfl⟩⟩; refine ⟨_, rfl, ?_⟩))
 go_ret
 exact ⟨rq1, bw_16⟩

/-! ### spec_l13Times: function 68 -/
def spec_l13Times.f (a0_0 : Int) (a0_1 : Int) (a0_2 : Int) (a0_3 : Int) (a1_0 : Int) (a1_1 : Int) (a1_2 : Int) (a1_3 : Int) : Option (Int × Int × Int × Int) := some (wrap64 ((wrap64 (a0_0 * a1_0)) + (wrap64 (a0_1 * a1_2))), wrap64 ((wrap64 (a0_0 * a1_1)) + (wrap64 (a0_1 * a1_3))), wrap64 ((wrap64 (a0_2 * a1_0)) + (wrap64 (a0_3 * a1_2))), wrap64 ((wrap64 (a0_2 * a1_1)) + (wrap64 (a0_3 * a1_3))))
set_option maxHeartbeats 8000000 in
set_option maxRecDepth 100000 in
theorem spec_l13Times.calls (a0_0 : Int) (a0_1 : Int) (a0_2 : Int) (a0_3 : Int) (a1_0 : Int) (a1_1 : Int) (a1_2 : Int) (a1_3 : Int) (r1 : Int) (r2 : Int) (r3 : Int) (r4 : Int) (w : World) (h : spec_l13Times.f a0_0 a0_1 a0_2 a0_3 a1_0 a1_1 a1_2 a1_3 = some (r1, r2, r3, r4)) :
  Calls Try.prog 68 #[.agg #[.int .i64 a0_0, .int .i64 a0_1, .int .i64 a0_2, .int .i64 a0_3], .agg #[.int .i64 a1_0, .int .i64 a1_1, .int .i64 a1_2, .int .i64 a1_3]] w fun e w' => e = .returned (.agg #[.int .i64 r1, .int .i64 r2, .int .i64 r3, .int .i64 r4]) ∧ Below w.heap.size w w' := by
 have hu41 := Try.underlying41
 have HB := Az.mk (Below.refl w.heap.size w)
 have H : (some (wrap64 ((wrap64 (a0_0 * a1_0)) + (wrap64 (a0_1 * a1_2))), wrap64 ((wrap64 (a0_0 * a1_1)) + (wrap64 (a0_1 * a1_3))), wrap64 ((wrap64 (a0_2 * a1_0)) + (wrap64 (a0_3 * a1_2))), wrap64 ((wrap64 (a0_2 * a1_1)) + (wrap64 (a0_3 * a1_3))))) = some (r1, r2, r3, r4) := h
 clear h
 simp only [Option.some.injEq, Prod.mk.injEq] at H
 obtain ⟨rfl, rfl, rfl, rfl⟩ := H
 go_enter Try.func68, Try.ntmps68
 go_wp2_with (first | ((with_reducible refine gtD (N := 2) rfl ?_); refine bx (N := 2) (cs := #[.int .i64 a0_0, .int .i64 a0_1, .int .i64 a0_2, .int .i64 a0_3]) (t := 41) ?_; intro gb419 hg w3 hbox hb; have BK419 := Az.mk (hbox); have GW419 := gwz hg bw_16; have GE419 := gwz hg bw_16; replace HB := Az.mk (bwT bw_16 hb); clear hb hbox hg) | ((with_reducible refine gtD (N := 3) rfl ?_); refine bx (N := 3) (cs := #[.int .i64 a1_0, .int .i64 a1_1, .int .i64 a1_2, .int .i64 a1_3]) (t := 41) ?_; intro gb420 hg w4 hbox hb; have BK420 := Az.mk (hbox); have GW420 := gwz hg bw_16; have GE420 := gwz hg bw_16; replace HB := Az.mk (bwT bw_16 hb); have NB419_420 := nlt BK419 hg; have NB420_419 := ngt BK419 hg; replace BK419 := bkz BK419 hb; clear hb hbox hg) | ((with_reducible refine gtD (N := 4) rfl ?_); refine bx (N := 4) (cs := #[.int .i64 0, .int .i64 0, .int .i64 0, .int .i64 0]) (t := 41) ?_; intro gb421 hg w5 hbox hb; have BK421 := Az.mk (hbox); have GW421 := gwz hg bw_16; have GE421 := gwz hg bw_16; replace HB := Az.mk (bwT bw_16 hb); have NB419_421 := nlt BK419 hg; have NB421_419 := ngt BK419 hg; replace BK419 := bkz BK419 hb; have NB420_421 := nlt BK420 hg; have NB421_420 := ngt BK420 hg; replace BK420 := bkz BK420 hb; clear hb hbox hg; have hnb6 := NB419_420.out; have hnc6 := NB420_419.out; have hnb7 := NB419_421.out; have hnc7 := NB421_419.out; obtain ⟨hcz8_0, hcz8_1, hcz8_2, hcz8_3, hfz8_0, hfz8_1, hfz8_2, hfz8_3⟩ := bq4 BK419; have hnb9 := NB420_421.out; have hnc9 := NB421_420.out; obtain ⟨hcz10_0, hcz10_1, hcz10_2, hcz10_3, hfz10_0, hfz10_1, hfz10_2, hfz10_3⟩ := bq4 BK420; obtain ⟨hcz11_0, hcz11_1, hcz11_2, hcz11_3, hfz11_0, hfz11_1, hfz11_2, hfz11_3⟩ := bq4 BK421))
 refine bodyPost_ret (results_cell_row rfl _ _ gb421 41 #[.int .i64 (wrap64 ((wrap64 (a0_0 * a1_0)) + (wrap64 (a0_1 * a1_2)))), .int .i64 (wrap64 ((wrap64 (a0_0 * a1_1)) + (wrap64 (a0_1 * a1_3)))), .int .i64 (wrap64 ((wrap64 (a0_2 * a1_0)) + (wrap64 (a0_3 * a1_2)))), .int .i64 (wrap64 ((wrap64 (a0_2 * a1_1)) + (wrap64 (a0_3 * a1_3))))] (0, 0) _ rfl (by (with_reducible repeat first | apply bkN | apply bkD | apply bkA); refine bkp (cs := #[.int .i64 (wrap64 ((wrap64 (a0_0 * a1_0)) + (wrap64 (a0_1 * a1_2)))), .int .i64 (wrap64 ((wrap64 (a0_0 * a1_1)) + (wrap64 (a0_1 * a1_3)))), .int .i64 (wrap64 ((wrap64 (a0_2 * a1_0)) + (wrap64 (a0_3 * a1_2)))), .int .i64 0]) ?_ 3 _ rfl; (with_reducible repeat first | apply bkN | apply bkD | apply bkA); refine bkp (cs := #[.int .i64 (wrap64 ((wrap64 (a0_0 * a1_0)) + (wrap64 (a0_1 * a1_2)))), .int .i64 (wrap64 ((wrap64 (a0_0 * a1_1)) + (wrap64 (a0_1 * a1_3)))), .int .i64 0, .int .i64 0]) ?_ 2 _ rfl; (with_reducible repeat first | apply bkN | apply bkD | apply bkA); refine bkp (cs := #[.int .i64 (wrap64 ((wrap64 (a0_0 * a1_0)) + (wrap64 (a0_1 * a1_2)))), .int .i64 0, .int .i64 0, .int .i64 0]) ?_ 1 _ rfl; (with_reducible repeat first | apply bkN | apply bkD | apply bkA); refine bkp (cs := #[.int .i64 0, .int .i64 0, .int .i64 0, .int .i64 0]) ?_ 0 _ rfl; (with_reducible repeat first | apply bkN | apply bkD | apply bkA); exact BK421.out) Try.underlying41 rfl (by kernel_rfl)) rfl ?_
 exact ⟨rq1, bw_16⟩

/-! ### spec_TimesMatrix: function 65 -/
def spec_TimesMatrix.f (k : Nat) (a0_0 : Int) (a0_1 : Int) (a0_2 : Int) (a0_3 : Int) (a1_0 : Int) (a1_1 : Int) (a1_2 : Int) (a1_3 : Int) : Option (Int × Int × Int × Int × Bool) := (spec_IsMatrix.f k a0_0 a0_1 a0_2 a0_3).bind fun t425 => (if t425 = true then ((spec_IsMatrix.f k a1_0 a1_1 a1_2 a1_3).bind fun t426 => (if t426 = true then ((spec_l13Times.f a0_0 a0_1 a0_2 a0_3 a1_0 a1_1 a1_2 a1_3).bind fun bt427 => ((spec_IsMatrix.f k bt427.1 bt427.2.1 bt427.2.2.1 bt427.2.2.2).bind fun t431 => (if t431 = true then ((spec_l13Times.f a0_0 a0_1 a0_2 a0_3 a1_0 a1_1 a1_2 a1_3).bind fun bt432 => (some (bt432.1, bt432.2.1, bt432.2.2.1, bt432.2.2.2, true))) else (some (0, 0, 0, 0, false))))) else (some (0, 0, 0, 0, false)))) else (some (0, 0, 0, 0, false)))
theorem spec_TimesMatrix.mono : ∀ a0 a1 a2 a3 a4 a5 a6 a7 k, LeO (spec_TimesMatrix.f k a0 a1 a2 a3 a4 a5 a6 a7) (spec_TimesMatrix.f (k + 1) a0 a1 a2 a3 a4 a5 a6 a7) := by
 intro a0 a1 a2 a3 a4 a5 a6 a7 k
 unfold spec_TimesMatrix.f
 exact mo_
instance spec_TimesMatrix.mi {a0 a1 a2 a3 a4 a5 a6 a7 k} : MoO (spec_TimesMatrix.f k a0 a1 a2 a3 a4 a5 a6 a7) (spec_TimesMatrix.f (k + 1) a0 a1 a2 a3 a4 a5 a6 a7) := ⟨spec_TimesMatrix.mono _ _ _ _ _ _ _ _ _⟩
set_option maxHeartbeats 8000000 in
set_option maxRecDepth 100000 in
theorem spec_TimesMatrix.calls (k : Nat) (a0_0 : Int) (a0_1 : Int) (a0_2 : Int) (a0_3 : Int) (a1_0 : Int) (a1_1 : Int) (a1_2 : Int) (a1_3 : Int) (r1 : Int) (r2 : Int) (r3 : Int) (r4 : Int) (r5 : Bool) (w : World) (h : spec_TimesMatrix.f k a0_0 a0_1 a0_2 a0_3 a1_0 a1_1 a1_2 a1_3 = some (r1, r2, r3, r4, r5)) :
  Calls Try.prog 65 #[.agg #[.int .i64 a0_0, .int .i64 a0_1, .int .i64 a0_2, .int .i64 a0_3], .agg #[.int .i64 a1_0, .int .i64 a1_1, .int .i64 a1_2, .int .i64 a1_3]] w fun e w' => e = .returned (.tuple #[.agg #[.int .i64 r1, .int .i64 r2, .int .i64 r3, .int .i64 r4], .bool r5]) ∧ Below w.heap.size w w' := by
 have hu41 := Try.underlying41
 have HB := Az.mk (Below.refl w.heap.size w)
 have H : ((spec_IsMatrix.f k a0_0 a0_1 a0_2 a0_3).bind fun t425 => (if t425 = true then ((spec_IsMatrix.f k a1_0 a1_1 a1_2 a1_3).bind fun t426 => (if t426 = true then ((spec_l13Times.f a0_0 a0_1 a0_2 a0_3 a1_0 a1_1 a1_2 a1_3).bind fun bt427 => ((spec_IsMatrix.f k bt427.1 bt427.2.1 bt427.2.2.1 bt427.2.2.2).bind fun t431 => (if t431 = true then ((spec_l13Times.f a0_0 a0_1 a0_2 a0_3 a1_0 a1_1 a1_2 a1_3).bind fun bt432 => (some (bt432.1, bt432.2.1, bt432.2.2.1, bt432.2.2.2, true))) else (some (0, 0, 0, 0, false))))) else (some (0, 0, 0, 0, false)))) else (some (0, 0, 0, 0, false)))) = some (r1, r2, r3, r4, r5) := h
 clear h
 replace H := bez H
 obtain ⟨t425, A3, H⟩ := H
 try dsimp only at H
 by_cases c4 : t425 = true
 rotate_left
 ·replace c4 := Bool.eq_false_iff.mpr c4
  subst c4
  rw [if_neg (show ¬ (false = true) by decide)] at H
  simp only [Option.some.injEq, Prod.mk.injEq] at H
  obtain ⟨rfl, rfl, rfl, rfl, rfl⟩ := H
  go_enter Try.func65, Try.ntmps65
  go_wp2_with (first | ((with_reducible refine gtD (N := 2) rfl ?_); refine bx (N := 2) (cs := #[.int .i64 a0_0, .int .i64 a0_1, .int .i64 a0_2, .int .i64 a0_3]) (t := 41) ?_; intro gb422 hg w55 hbox hb; have BK422 := Az.mk (hbox); have GW422 := gwz hg bw_16; have GE422 := gwz hg bw_16; replace HB := Az.mk (bwT bw_16 hb); clear hb hbox hg) | ((with_reducible refine gtD (N := 3) rfl ?_); refine bx (N := 3) (cs := #[.int .i64 a1_0, .int .i64 a1_1, .int .i64 a1_2, .int .i64 a1_3]) (t := 41) ?_; intro gb423 hg w56 hbox hb; have BK423 := Az.mk (hbox); have GW423 := gwz hg bw_16; have GE423 := gwz hg bw_16; replace HB := Az.mk (bwT bw_16 hb); have NB422_423 := nlt BK422 hg; have NB423_422 := ngt BK422 hg; replace BK422 := bkz BK422 hb; clear hb hbox hg) | ((with_reducible refine gtD (N := 4) rfl ?_); refine bx (N := 4) (cs := #[.int .i64 0, .int .i64 0, .int .i64 0, .int .i64 0]) (t := 41) ?_; intro gb424 hg w57 hbox hb; have BK424 := Az.mk (hbox); have GW424 := gwz hg bw_16; have GE424 := gwz hg bw_16; replace HB := Az.mk (bwT bw_16 hb); have NB422_424 := nlt BK422 hg; have NB424_422 := ngt BK422 hg; replace BK422 := bkz BK422 hb; have NB423_424 := nlt BK423 hg; have NB424_423 := ngt BK423 hg; replace BK423 := bkz BK423 hb; clear hb hbox hg; have hnb58 := NB422_423.out; have hnc58 := NB423_422.out; have hnb59 := NB422_424.out; have hnc59 := NB424_422.out; obtain ⟨hcz60_0, hcz60_1, hcz60_2, hcz60_3, hfz60_0, hfz60_1, hfz60_2, hfz60_3⟩ := bq4 BK422) | ((with_reducible refine gtC (f := 45) rfl ?_); refine clz Try.func45 (some 7) #[.agg #[.int .i64 a0_0, .int .i64 a0_1, .int .i64 a0_2, .int .i64 a0_3]] ?_; (with_reducible refine (spec_IsMatrix.calls k a0_0 a0_1 a0_2 a0_3 false _ A3.out).mono ?_); rintro e w61 ⟨rfl, hb⟩; refine ⟨_, rfl, ?_⟩; replace BK422 := bkz BK422 hb; replace BK423 := bkz BK423 hb; replace BK424 := bkz BK424 hb; replace HB := Az.mk (bwT bw_16 hb); (try clear hb); have hnb62 := NB424_423.out; have hnc62 := NB423_424.out; obtain ⟨hcz63_0, hcz63_1, hcz63_2, hcz63_3, hfz63_0, hfz63_1, hfz63_2, hfz63_3⟩ := bq4 BK424))
  refine bodyPost_ret (results_ct rfl _ _ gb424 41 #[.int .i64 0, .int .i64 0, .int .i64 0, .int .i64 0] (0, 0) _ rfl bkv Try.underlying41 rfl (by kernel_rfl)) rfl ?_
  exact ⟨rq1, bw_16⟩
 subst c4
 rw [if_pos rfl] at H
 replace H := bez H
 obtain ⟨t426, A5, H⟩ := H
 try dsimp only at H
 by_cases c6 : t426 = true
 rotate_left
 ·replace c6 := Bool.eq_false_iff.mpr c6
  subst c6
  rw [if_neg (show ¬ (false = true) by decide)] at H
  simp only [Option.some.injEq, Prod.mk.injEq] at H
  obtain ⟨rfl, rfl, rfl, rfl, rfl⟩ := H
  go_enter Try.func65, Try.ntmps65
  go_wp2_with (first | ((with_reducible refine gtD (N := 2) rfl ?_); refine bx (N := 2) (cs := #[.int .i64 a0_0, .int .i64 a0_1, .int .i64 a0_2, .int .i64 a0_3]) (t := 41) ?_; intro gb422 hg w44 hbox hb; have BK422 := Az.mk (hbox); have GW422 := gwz hg bw_16; have GE422 := gwz hg bw_16; replace HB := Az.mk (bwT bw_16 hb); clear hb hbox hg) | ((with_reducible refine gtD (N := 3) rfl ?_); refine bx (N := 3) (cs := #[.int .i64 a1_0, .int .i64 a1_1, .int .i64 a1_2, .int .i64 a1_3]) (t := 41) ?_; intro gb423 hg w45 hbox hb; have BK423 := Az.mk (hbox); have GW423 := gwz hg bw_16; have GE423 := gwz hg bw_16; replace HB := Az.mk (bwT bw_16 hb); have NB422_423 := nlt BK422 hg; have NB423_422 := ngt BK422 hg; replace BK422 := bkz BK422 hb; clear hb hbox hg) | ((with_reducible refine gtD (N := 4) rfl ?_); refine bx (N := 4) (cs := #[.int .i64 0, .int .i64 0, .int .i64 0, .int .i64 0]) (t := 41) ?_; intro gb424 hg w46 hbox hb; have BK424 := Az.mk (hbox); have GW424 := gwz hg bw_16; have GE424 := gwz hg bw_16; replace HB := Az.mk (bwT bw_16 hb); have NB422_424 := nlt BK422 hg; have NB424_422 := ngt BK422 hg; replace BK422 := bkz BK422 hb; have NB423_424 := nlt BK423 hg; have NB424_423 := ngt BK423 hg; replace BK423 := bkz BK423 hb; clear hb hbox hg; have hnb47 := NB422_423.out; have hnc47 := NB423_422.out; have hnb48 := NB422_424.out; have hnc48 := NB424_422.out; obtain ⟨hcz49_0, hcz49_1, hcz49_2, hcz49_3, hfz49_0, hfz49_1, hfz49_2, hfz49_3⟩ := bq4 BK422) | ((with_reducible refine gtC (f := 45) rfl ?_); refine clz Try.func45 (some 7) #[.agg #[.int .i64 a0_0, .int .i64 a0_1, .int .i64 a0_2, .int .i64 a0_3]] ?_; (with_reducible refine (spec_IsMatrix.calls k a0_0 a0_1 a0_2 a0_3 true _ A3.out).mono ?_); rintro e w50 ⟨rfl, hb⟩; refine ⟨_, rfl, ?_⟩; replace BK422 := bkz BK422 hb; replace BK423 := bkz BK423 hb; replace BK424 := bkz BK424 hb; replace HB := Az.mk (bwT bw_16 hb); (try clear hb); have hnb51 := NB423_424.out; have hnc51 := NB424_423.out; obtain ⟨hcz52_0, hcz52_1, hcz52_2, hcz52_3, hfz52_0, hfz52_1, hfz52_2, hfz52_3⟩ := bq4 BK423) | (go_at_call 45; (with_reducible refine (spec_IsMatrix.calls k a1_0 a1_1 a1_2 a1_3 false _ A5.out).mono ?_); rintro e w53 ⟨rfl, hb⟩; replace BK422 := bkz BK422 hb; replace BK423 := bkz BK423 hb; replace BK424 := bkz BK424 hb; replace HB := Az.mk (bwT bw_16 hb); (try clear hb); obtain ⟨hcz54_0, hcz54_1, hcz54_2, hcz54_3, hfz54_0, hfz54_1, hfz54_2, hfz54_3⟩ := bq4 BK424))
  refine bodyPost_ret (results_ct rfl _ _ gb424 41 #[.int .i64 0, .int .i64 0, .int .i64 0, .int .i64 0] (0, 0) _ rfl bkv Try.underlying41 rfl (by kernel_rfl)) rfl ?_
  exact ⟨rq1, bw_16⟩
 subst c6
 rw [if_pos rfl] at H
 replace H := bez H
 obtain ⟨⟨t427, t428, t429, t430⟩, A7, H⟩ := H
 try dsimp only at H
 replace H := bez H
 obtain ⟨t431, A8, H⟩ := H
 try dsimp only at H
 by_cases c9 : t431 = true
 rotate_left
 ·replace c9 := Bool.eq_false_iff.mpr c9
  subst c9
  rw [if_neg (show ¬ (false = true) by decide)] at H
  simp only [Option.some.injEq, Prod.mk.injEq] at H
  obtain ⟨rfl, rfl, rfl, rfl, rfl⟩ := H
  go_enter Try.func65, Try.ntmps65
  go_wp2_with (first | ((with_reducible refine gtD (N := 2) rfl ?_); refine bx (N := 2) (cs := #[.int .i64 a0_0, .int .i64 a0_1, .int .i64 a0_2, .int .i64 a0_3]) (t := 41) ?_; intro gb422 hg w29 hbox hb; have BK422 := Az.mk (hbox); have GW422 := gwz hg bw_16; have GE422 := gwz hg bw_16; replace HB := Az.mk (bwT bw_16 hb); clear hb hbox hg) | ((with_reducible refine gtD (N := 3) rfl ?_); refine bx (N := 3) (cs := #[.int .i64 a1_0, .int .i64 a1_1, .int .i64 a1_2, .int .i64 a1_3]) (t := 41) ?_; intro gb423 hg w30 hbox hb; have BK423 := Az.mk (hbox); have GW423 := gwz hg bw_16; have GE423 := gwz hg bw_16; replace HB := Az.mk (bwT bw_16 hb); have NB422_423 := nlt BK422 hg; have NB423_422 := ngt BK422 hg; replace BK422 := bkz BK422 hb; clear hb hbox hg) | ((with_reducible refine gtD (N := 4) rfl ?_); refine bx (N := 4) (cs := #[.int .i64 0, .int .i64 0, .int .i64 0, .int .i64 0]) (t := 41) ?_; intro gb424 hg w31 hbox hb; have BK424 := Az.mk (hbox); have GW424 := gwz hg bw_16; have GE424 := gwz hg bw_16; replace HB := Az.mk (bwT bw_16 hb); have NB422_424 := nlt BK422 hg; have NB424_422 := ngt BK422 hg; replace BK422 := bkz BK422 hb; have NB423_424 := nlt BK423 hg; have NB424_423 := ngt BK423 hg; replace BK423 := bkz BK423 hb; clear hb hbox hg; have hnb32 := NB422_423.out; have hnc32 := NB423_422.out; have hnb33 := NB422_424.out; have hnc33 := NB424_422.out; obtain ⟨hcz34_0, hcz34_1, hcz34_2, hcz34_3, hfz34_0, hfz34_1, hfz34_2, hfz34_3⟩ := bq4 BK422) | ((with_reducible refine gtC (f := 45) rfl ?_); refine clz Try.func45 (some 7) #[.agg #[.int .i64 a0_0, .int .i64 a0_1, .int .i64 a0_2, .int .i64 a0_3]] ?_; (with_reducible refine (spec_IsMatrix.calls k a0_0 a0_1 a0_2 a0_3 true _ A3.out).mono ?_); rintro e w35 ⟨rfl, hb⟩; refine ⟨_, rfl, ?_⟩; replace BK422 := bkz BK422 hb; replace BK423 := bkz BK423 hb; replace BK424 := bkz BK424 hb; replace HB := Az.mk (bwT bw_16 hb); (try clear hb); have hnb36 := NB423_424.out; have hnc36 := NB424_423.out; obtain ⟨hcz37_0, hcz37_1, hcz37_2, hcz37_3, hfz37_0, hfz37_1, hfz37_2, hfz37_3⟩ := bq4 BK423) | (go_at_call 45; (with_reducible refine (spec_IsMatrix.calls k a1_0 a1_1 a1_2 a1_3 true _ A5.out).mono ?_); rintro e w38 ⟨rfl, hb⟩; replace BK422 := bkz BK422 hb; replace BK423 := bkz BK423 hb; replace BK424 := bkz BK424 hb; replace HB := Az.mk (bwT bw_16 hb); (try clear hb); obtain ⟨hcz39_0, hcz39_1, hcz39_2, hcz39_3, hfz39_0, hfz39_1, hfz39_2, hfz39_3⟩ := bq4 BK422; obtain ⟨hcz40_0, hcz40_1, hcz40_2, hcz40_3, hfz40_0, hfz40_1, hfz40_2, hfz40_3⟩ := bq4 BK423) | (go_at_call 68; (with_reducible refine (spec_l13Times.calls a0_0 a0_1 a0_2 a0_3 a1_0 a1_1 a1_2 a1_3 t427 t428 t429 t430 _ A7.out).mono ?_); rintro e w41 ⟨rfl, hb⟩; replace BK422 := bkz BK422 hb; replace BK423 := bkz BK423 hb; replace BK424 := bkz BK424 hb; replace HB := Az.mk (bwT bw_16 hb); (try clear hb)) | (go_at_call 45; (with_reducible refine (spec_IsMatrix.calls k t427 t428 t429 t430 false _ A8.out).mono ?_); rintro e w42 ⟨rfl, hb⟩; replace BK422 := bkz BK422 hb; replace BK423 := bkz BK423 hb; replace BK424 := bkz BK424 hb; replace HB := Az.mk (bwT bw_16 hb); (try clear hb); obtain ⟨hcz43_0, hcz43_1, hcz43_2, hcz43_3, hfz43_0, hfz43_1, hfz43_2, hfz43_3⟩ := bq4 BK424))
  refine bodyPost_ret (results_ct rfl _ _ gb424 41 #[.int .i64 0, .int .i64 0, .int .i64 0, .int .i64 0] (0, 0) _ rfl bkv Try.underlying41 rfl (by kernel_rfl)) rfl ?_
  exact ⟨rq1, bw_16⟩
 subst c9
 rw [if_pos rfl] at H
 replace H := bez H
 obtain ⟨⟨t432, t433, t434, t435⟩, A10, H⟩ := H
 try dsimp only at H
 simp only [Option.some.injEq, Prod.mk.injEq] at H
 obtain ⟨rfl, rfl, rfl, rfl, rfl⟩ := H
 go_enter Try.func65, Try.ntmps65
 go_wp2_with (first | ((with_reducible refine gtD (N := 2) rfl ?_); refine bx (N := 2) (cs := #[.int .i64 a0_0, .int .i64 a0_1, .int .i64 a0_2, .int .i64 a0_3]) (t := 41) ?_; intro gb422 hg w11 hbox hb; have BK422 := Az.mk (hbox); have GW422 := gwz hg bw_16; have GE422 := gwz hg bw_16; replace HB := Az.mk (bwT bw_16 hb); clear hb hbox hg) | ((with_reducible refine gtD (N := 3) rfl ?_); refine bx (N := 3) (cs := #[.int .i64 a1_0, .int .i64 a1_1, .int .i64 a1_2, .int .i64 a1_3]) (t := 41) ?_; intro gb423 hg w12 hbox hb; have BK423 := Az.mk (hbox); have GW423 := gwz hg bw_16; have GE423 := gwz hg bw_16; replace HB := Az.mk (bwT bw_16 hb); have NB422_423 := nlt BK422 hg; have NB423_422 := ngt BK422 hg; replace BK422 := bkz BK422 hb; clear hb hbox hg) | ((with_reducible refine gtD (N := 4) rfl ?_); refine bx (N := 4) (cs := #[.int .i64 0, .int .i64 0, .int .i64 0, .int .i64 0]) (t := 41) ?_; intro gb424 hg w13 hbox hb; have BK424 := Az.mk (hbox); have GW424 := gwz hg bw_16; have GE424 := gwz hg bw_16; replace HB := Az.mk (bwT bw_16 hb); have NB422_424 := nlt BK422 hg; have NB424_422 := ngt BK422 hg; replace BK422 := bkz BK422 hb; have NB423_424 := nlt BK423 hg; have NB424_423 := ngt BK423 hg; replace BK423 := bkz BK423 hb; clear hb hbox hg; have hnb14 := NB422_423.out; have hnc14 := NB423_422.out; have hnb15 := NB422_424.out; have hnc15 := NB424_422.out; obtain ⟨hcz16_0, hcz16_1, hcz16_2, hcz16_3, hfz16_0, hfz16_1, hfz16_2, hfz16_3⟩ := bq4 BK422) | ((with_reducible refine gtC (f := 45) rfl ?_); refine clz Try.func45 (some 7) #[.agg #[.int .i64 a0_0, .int .i64 a0_1, .int .i64 a0_2, .int .i64 a0_3]] ?_; (with_reducible refine (spec_IsMatrix.calls k a0_0 a0_1 a0_2 a0_3 true _ A3.out).mono ?_); rintro e w17 ⟨rfl, hb⟩; refine ⟨_, rfl, ?_⟩; replace BK422 := bkz BK422 hb; replace BK423 := bkz BK423 hb; replace BK424 := bkz BK424 hb; replace HB := Az.mk (bwT bw_16 hb); (try clear hb); have hnb18 := NB423_424.out; have hnc18 := NB424_423.out; obtain ⟨hcz19_0, hcz19_1, hcz19_2, hcz19_3, hfz19_0, hfz19_1, hfz19_2, hfz19_3⟩ := bq4 BK423) | (go_at_call 45; (with_reducible refine (spec_IsMatrix.calls k a1_0 a1_1 a1_2 a1_3 true _ A5.out).mono ?_); rintro e w20 ⟨rfl, hb⟩; replace BK422 := bkz BK422 hb; replace BK423 := bkz BK423 hb; replace BK424 := bkz BK424 hb; replace HB := Az.mk (bwT bw_16 hb); (try clear hb); obtain ⟨hcz21_0, hcz21_1, hcz21_2, hcz21_3, hfz21_0, hfz21_1, hfz21_2, hfz21_3⟩ := bq4 BK422; obtain ⟨hcz22_0, hcz22_1, hcz22_2, hcz22_3, hfz22_0, hfz22_1, hfz22_2, hfz22_3⟩ := bq4 BK423) | (go_at_call 68; (with_reducible refine (spec_l13Times.calls a0_0 a0_1 a0_2 a0_3 a1_0 a1_1 a1_2 a1_3 t427 t428 t429 t430 _ A7.out).mono ?_); rintro e w23 ⟨rfl, hb⟩; replace BK422 := bkz BK422 hb; replace BK423 := bkz BK423 hb; replace BK424 := bkz BK424 hb; replace HB := Az.mk (bwT bw_16 hb); (try clear hb)) | (go_at_call 45; (with_reducible refine (spec_IsMatrix.calls k t427 t428 t429 t430 true _ A8.out).mono ?_); rintro e w24 ⟨rfl, hb⟩; replace BK422 := bkz BK422 hb; replace BK423 := bkz BK423 hb; replace BK424 := bkz BK424 hb; replace HB := Az.mk (bwT bw_16 hb); (try clear hb); obtain ⟨hcz25_0, hcz25_1, hcz25_2, hcz25_3, hfz25_0, hfz25_1, hfz25_2, hfz25_3⟩ := bq4 BK422; obtain ⟨hcz26_0, hcz26_1, hcz26_2, hcz26_3, hfz26_0, hfz26_1, hfz26_2, hfz26_3⟩ := bq4 BK423) | ((with_reducible refine gtC (f := 68) rfl ?_); refine clz Try.func68 (some 24) #[.agg #[.int .i64 a0_0, .int .i64 a0_1, .int .i64 a0_2, .int .i64 a0_3], .agg #[.int .i64 a1_0, .int .i64 a1_1, .int .i64 a1_2, .int .i64 a1_3]] ?_; (with_reducible refine (spec_l13Times.calls a0_0 a0_1 a0_2 a0_3 a1_0 a1_1 a1_2 a1_3 t432 t433 t434 t435 _ A10.out).mono ?_); rintro e w27 ⟨rfl, hb⟩; refine ⟨_, rfl, ?_⟩; replace BK422 := bkz BK422 hb; replace BK423 := bkz BK423 hb; replace BK424 := bkz BK424 hb; replace HB := Az.mk (bwT bw_16 hb); (try clear hb); obtain ⟨hcz28_0, hcz28_1, hcz28_2, hcz28_3, hfz28_0, hfz28_1, hfz28_2, hfz28_3⟩ := bq4 BK424))
 refine bodyPost_ret (results_ct rfl _ _ gb424 41 #[.int .i64 t432, .int .i64 t433, .int .i64 t434, .int .i64 t435] (0, 0) _ rfl bkv Try.underlying41 rfl (by kernel_rfl)) rfl ?_
 exact ⟨rq1, bw_16⟩

end Go.Proofs.Ytigcjehokbgclaa.P

-- By this session's driver (wip/tools/mk.py) of the kit's print program, over several statements at once. Not trusted: Lean checks it.
import Derived.Test.YtnoiijdffdpabaaDoorQWZip
import Derived.Test.YtnoiijdffdpabaaDoorQPx0
namespace Go.Proofs.YtnoiijdffdpabaaDoor.P
open Go.RowKit Go.Proofs.YtnoiijdffdpabaaDoorW.PrintWords Go.Proofs.YtnoiijdffdpabaaDoorW.PrintLast Go.Proofs.YtnoiijdffdpabaaDoorW.PrintMore
attribute [local go_sem] max2_int min2_int max_two min_two max_three min_three max_four min_four   -- for this text's walks alone
set_option linter.unusedVariables false
set_option linter.unusedSimpArgs false

theorem eqA35 (d : Nat) (w : World) (x0 y0 : Int) (x1 y1 : Int) :
  (Op.equalIn (d + 2) 35 (.agg #[.int .i64 x0, .int .i64 x1]) (.agg #[.int .i64 y0, .int .i64 y1])).run Tryd.prog w = .ok (x0 == y0 && (x1 == y1)) w := by
 refine eqA_of Tryd.underlying35 (by kernel_rfl) ?_
 refine eqf_cons (by rfl) (by go_simp; rfl) (by go_simp; rfl) (by go_simp) ?_
 exact eqf_last (by rfl) (by go_simp; rfl) (by go_simp; rfl) (by go_simp)
end Go.Proofs.YtnoiijdffdpabaaDoor.P
namespace Go.Proofs.YtnoiijdffdpabaaDoor.P
open Go.RowKit Go.Proofs.YtnoiijdffdpabaaDoorW.PrintWords Go.Proofs.YtnoiijdffdpabaaDoorW.PrintLast Go.Proofs.YtnoiijdffdpabaaDoorW.PrintMore
attribute [local go_sem] max2_int min2_int max_two min_two max_three min_three max_four min_four   -- for this text's walks alone
set_option linter.unusedVariables false
set_option linter.unusedSimpArgs false
theorem bw_3 {n : Nat} {v v' : World} (h : Below n v v' := by repeat (first | (with_reducible first | exact HB.out | apply bwA | apply pbN | apply bwD | refine bwS ?_ GE103.out) | exact HB.out)) : Below n v v' := h
theorem ln_3 {P : Prop} (h : P := by (try simp only [List.map_toArray, List.map_cons, List.map_nil]); first | done | rfl | (simp only [List.length_drop, List.length_take]; rfl)) : P := h

/-! ### spec_l1In: function 55 -/
def spec_l1In.f (a0 : Int) (a1 : Int) (a2 : Int) : Option (Bool) := if a0 ≥ a1 then (some (decide (a0 ≤ a2))) else (some false)
set_option maxHeartbeats 8000000 in
set_option maxRecDepth 100000 in
theorem spec_l1In.calls (a0 : Int) (a1 : Int) (a2 : Int) (r : Bool) (w : World) (h : spec_l1In.f a0 a1 a2 = some r) :
  Calls Tryd.prog 55 #[.int .i64 a0, .int .i64 a1, .int .i64 a2] w fun e w' => e = .returned (.bool r) ∧ Drawn0 w w' := by
 have H : (if a0 ≥ a1 then (some (decide (a0 ≤ a2))) else (some false)) = some r := h
 clear h
 by_cases c4 : a0 ≥ a1
 ·rw [if_pos c4] at H
  have c4b0 : decide (a1 ≤ a0) = true := decide_eq_true c4
  clear c4
  obtain rfl := Option.some.inj H
  go_enter Tryd.func55, Tryd.ntmps55
  go_wp2
  go_ret
  exact ⟨by first | rfl | (simp; done) | (simp [*]; done), by repeat (first | exact Drawn0.refl _ | apply Drawn0.step)⟩
 rw [if_neg c4] at H
 have c4b0 : decide (a1 ≤ a0) = false := decide_eq_false c4
 clear c4
 obtain rfl := Option.some.inj H
 go_enter Tryd.func55, Tryd.ntmps55
 go_wp2
 go_ret
 exact ⟨by first | rfl | (simp; done) | (simp [*]; done), by repeat (first | exact Drawn0.refl _ | apply Drawn0.step)⟩

/-! ### spec_l11Fits: function 53 -/
def spec_l11Fits.l0 : Nat → List Int → Int → Option (Bool)
 | 0, _, _ => none
 | k + 1, x0, x3 => if x3 < (x0.length : Int) then (if 0 ≤ x3 then ((spec_l1In.f (rd x0 x3) (-1000) 1000).bind fun t102 => (if t102 = true then (spec_l11Fits.l0 k x0 (wrap64 (x3 + 1))) else (some false))) else (none)) else (some true)
def spec_l11Fits.f (k : Nat) (l0 : List Int) : Option (Bool) := spec_l11Fits.l0 k l0 0
theorem spec_l11Fits.mono_l : ∀ k, (∀ y0 y1, LeO (spec_l11Fits.l0 k y0 y1) (spec_l11Fits.l0 (k + 1) y0 y1))
 | 0 => fun _ _ r h => by simp [spec_l11Fits.l0] at h
 | k + 1 => by
  have ih0 := spec_l11Fits.mono_l k
  have i0 := fun z0 z1 => MoO.mk (ih0 z0 z1)
  ·intro y0 y1
   unfold spec_l11Fits.l0
   exact mo_
theorem spec_l11Fits.mono : ∀ a0 k, LeO (spec_l11Fits.f k a0) (spec_l11Fits.f (k + 1) a0) := by
 intro a0 k
 have ih0 := spec_l11Fits.mono_l k
 have i0 := fun z0 z1 => MoO.mk (ih0 z0 z1)
 unfold spec_l11Fits.f
 exact mo_
instance spec_l11Fits.mi {a0 k} : MoO (spec_l11Fits.f k a0) (spec_l11Fits.f (k + 1) a0) := ⟨spec_l11Fits.mono _ _⟩
set_option maxHeartbeats 8000000 in
set_option maxRecDepth 100000 in
theorem spec_l11Fits.calls (k : Nat) (A0 : Option Addr) (c0 : Nat) (l0 : List Int) (r : Bool) (w : World) (hr0 : Kd.C (Kd.int .i64) w A0 l0.length l0) (hc0 : l0.length ≤ c0) (h : spec_l11Fits.f k l0 = some r) :
  Calls Tryd.prog 53 #[.slice A0 l0.length c0] w fun e w' => e = .returned (.bool r) ∧ Drawn0 w w' := by
 have HR0 := Az.mk hr0
 have HC0 := Az.mk hc0
 clear hr0 hc0
 have H : (spec_l11Fits.l0 k l0 0) = some r := h
 clear h
 have H' := Az.mk H
 clear H
 go_enter Tryd.func53, Tryd.ntmps53
 go_wp2
 go_loopg [3] k (fun kq v3 w' => ∃ (x3_1 : Int), v3 = .int .i64 x3_1 ∧ Az (spec_l11Fits.l0 kq l0 x3_1 = some r) ∧ Az (kq ≤ k) ∧ Drawn0 w w')
 case atStart => exact ⟨(0), rq2, H', ⟨Nat.le_refl _⟩, by repeat (first | exact Drawn0.refl _ | apply Drawn0.step)⟩
 clear H'
 obtain ⟨x3_1, rfl, HA, HK1, ⟨m1, rfl⟩⟩ := hrel
 cases gk with
 | zero => exact absurd HA.out (by simp [spec_l11Fits.l0])
 | succ k1 =>
  have H := HA.out
  clear HA
  simp only [spec_l11Fits.l0] at H
  by_cases c2 : x3_1 < (l0.length : Int)
  rotate_left
  ·rw [if_neg c2] at H
   have c2b0 : decide (x3_1 < (l0.length : Int)) = false := decide_eq_false c2
   clear c2
   obtain rfl := Option.some.inj H
   go_wp2
   go_ret
   exact ⟨by first | rfl | (simp; done) | (simp [*]; done), by repeat (first | exact Drawn0.refl _ | apply Drawn0.step)⟩
  rw [if_pos c2] at H
  have c2b0 : decide (x3_1 < (l0.length : Int)) = true := decide_eq_true c2
  clear c2
  by_cases c3 : 0 ≤ x3_1
  rotate_left
  ·rw [if_neg c3] at H
   exact absurd H (by simp)
  rw [if_pos c3] at H
  have c3b0 : decide (0 ≤ x3_1) = true := decide_eq_true c3
  clear c3
  replace H := bez H
  obtain ⟨t102, A4, H⟩ := H
  try dsimp only at H
  by_cases c5 : t102 = true
  rotate_left
  ·replace c5 := Bool.eq_false_iff.mpr c5
   subst c5
   rw [if_neg (show ¬ (false = true) by decide)] at H
   obtain rfl := Option.some.inj H
   have p101 : 0 ≤ (x3_1 : Int) := of_decide_eq_true (by first | (with_reducible assumption) | assumption)
   have q101 : x3_1 < (l0.length : Int) := of_decide_eq_true (by first | (with_reducible assumption) | assumption)
   obtain ⟨ad101, e101, hx101_0⟩ := Kd.at_int HR0.out x3_1 p101 q101
   cases e101
   replace p101 := eq_true p101
   replace q101 := eq_true q101
   go_wp2_with (first | ((with_reducible refine gtC (f := 55) rfl ?_); refine clz Tryd.func55 (some 14) #[.int .i64 (rd l0 x3_1), .int .i64 (-1000), .int .i64 1000] ?_; (with_reducible refine (spec_l1In.calls (rd l0 x3_1) (-1000) 1000 false _ A4.out).mono ?_); rintro e w' ⟨rfl, ⟨nd, rfl⟩⟩; refine ⟨_, rfl, ?_⟩))
   go_ret
   exact ⟨by first | rfl | (simp; done) | (simp [*]; done), by repeat (first | exact Drawn0.refl _ | apply Drawn0.step)⟩
  subst c5
  rw [if_pos rfl] at H
  have H' := Az.mk H
  clear H
  have p101 : 0 ≤ (x3_1 : Int) := of_decide_eq_true (by first | (with_reducible assumption) | assumption)
  have q101 : x3_1 < (l0.length : Int) := of_decide_eq_true (by first | (with_reducible assumption) | assumption)
  obtain ⟨ad101, e101, hx101_0⟩ := Kd.at_int HR0.out x3_1 p101 q101
  cases e101
  replace p101 := eq_true p101
  replace q101 := eq_true q101
  go_wp2_with (first | ((with_reducible refine gtC (f := 55) rfl ?_); refine clz Tryd.func55 (some 14) #[.int .i64 (rd l0 x3_1), .int .i64 (-1000), .int .i64 1000] ?_; (with_reducible refine (spec_l1In.calls (rd l0 x3_1) (-1000) 1000 true _ A4.out).mono ?_); rintro e w' ⟨rfl, ⟨nd, rfl⟩⟩; refine ⟨_, rfl, ?_⟩))
  go_roundg k1
  case measure => have := HK1.out; omega
  case rel => exact ⟨(wrap64 (x3_1 + 1)), rq2, H', ⟨by have := HK1.out; omega⟩, by repeat (first | exact Drawn0.refl _ | apply Drawn0.step)⟩

/-! ### spec_IsMatrix: function 22 -/
def spec_IsMatrix.f (k : Nat) (a0_0 : Int) (a0_1 : Int) (a0_2 : Int) (a0_3 : Int) : Option (Bool) := (spec_l11Fits.f k (([a0_0, a0_1, a0_2, a0_3] : List Int))).bind fun t107 => (if t107 = true then (some ((wrap64 ((wrap64 (a0_0 * a0_3)) - (wrap64 (a0_1 * a0_2)))) == 1)) else (some false))
theorem spec_IsMatrix.mono : ∀ a0 a1 a2 a3 k, LeO (spec_IsMatrix.f k a0 a1 a2 a3) (spec_IsMatrix.f (k + 1) a0 a1 a2 a3) := by
 intro a0 a1 a2 a3 k
 unfold spec_IsMatrix.f
 exact mo_
instance spec_IsMatrix.mi {a0 a1 a2 a3 k} : MoO (spec_IsMatrix.f k a0 a1 a2 a3) (spec_IsMatrix.f (k + 1) a0 a1 a2 a3) := ⟨spec_IsMatrix.mono _ _ _ _ _⟩
set_option maxHeartbeats 8000000 in
set_option maxRecDepth 100000 in
theorem spec_IsMatrix.calls (k : Nat) (a0_0 : Int) (a0_1 : Int) (a0_2 : Int) (a0_3 : Int) (r : Bool) (w : World) (h : spec_IsMatrix.f k a0_0 a0_1 a0_2 a0_3 = some r) :
  Calls Tryd.prog 22 #[.agg #[.int .i64 a0_0, .int .i64 a0_1, .int .i64 a0_2, .int .i64 a0_3]] w fun e w' => e = .returned (.bool r) ∧ Below w.heap.size w w' := by
 have hu25 := Tryd.underlying25
 have HB := Az.mk (Below.refl w.heap.size w)
 have H : ((spec_l11Fits.f k (([a0_0, a0_1, a0_2, a0_3] : List Int))).bind fun t107 => (if t107 = true then (some ((wrap64 ((wrap64 (a0_0 * a0_3)) - (wrap64 (a0_1 * a0_2)))) == 1)) else (some false))) = some r := h
 clear h
 obtain ⟨y104, hy104⟩ : ∃ y_ : List Int, y_ = (([a0_0, a0_1, a0_2, a0_3] : List Int)) := ⟨_, rfl⟩
 replace H : ((spec_l11Fits.f k y104).bind fun t107 => (if t107 = true then (some ((wrap64 ((wrap64 (a0_0 * a0_3)) - (wrap64 (a0_1 * a0_2)))) == 1)) else (some false))) = some r := by first | (rw [hy104]; with_reducible exact H) | (have H2_ := (Option.bind_some _ _).symm.trans H; rw [hy104]; with_reducible exact H2_) | (have H2_ := (Option.bind_some _ _).symm.trans H; with_reducible exact H2_) | with_reducible exact H | (rw [hy104]; exact H) | exact H
 have Ny104 := Az.mk hy104
 clear hy104
 replace H := bez H
 obtain ⟨t107, A2, H⟩ := H
 try dsimp only at H
 by_cases c3 : t107 = true
 ·subst c3
  rw [if_pos rfl] at H
  obtain rfl := Option.some.inj H
  go_enter Tryd.func22, Tryd.ntmps22
  go_wp2_with (first | ((with_reducible refine gtD (N := 1) rfl ?_); refine bx (N := 1) (cs := #[.int .i64 a0_0, .int .i64 a0_1, .int .i64 a0_2, .int .i64 a0_3]) (t := 25) ?_; intro gb103 hg w4 hbox hb; have BK103 := Az.mk (hbox); have GW103 := gwz hg bw_3; have GE103 := gwz hg bw_3; replace HB := Az.mk (bwT bw_3 hb); clear hb hbox hg; obtain ⟨hcz5_0, hcz5_1, hcz5_2, hcz5_3, hfz5_0, hfz5_1, hfz5_2, hfz5_3⟩ := bq4 BK103) | ((with_reducible refine gtD (N := 11) rfl ?_); refine Kd.R_lit (Kd.int .i64) _ 3 ?hg (N := 11) ?hd (xs := ([a0_0, a0_1, a0_2, a0_3] : List Int)) (inner := [.int .i64 a0_0, .int .i64 a0_1, .int .i64 a0_2, .int .i64 a0_3]) (ok := fun _ => True) (okp := fun _ => True) ?hr ?hp (fun _ hk => hk) trivial (Below.refl _ _) (Nat.le_refl _) (by simp) ?_; (case hd => rfl); (case hg => rfl); (case hr => first | (go_simp; done) | (go_simp; rfl)); (case hp => exact (Reps.one (show Kd.M (Kd.int .i64) _ _ _ a0_0 [.int .i64 a0_0] from rfl) (Reps.one (show Kd.M (Kd.int .i64) _ _ _ a0_1 [.int .i64 a0_1] from rfl) (Reps.one (show Kd.M (Kd.int .i64) _ _ _ a0_2 [.int .i64 a0_2] from rfl) (Reps.one (show Kd.M (Kd.int .i64) _ _ _ a0_3 [.int .i64 a0_3] from rfl) (Reps.none _ _)))))); intro v105 w6 ho7 hb hg_ hnew_; clear hg_ hnew_; (first | rw [← Ny104.out] at ho7 | (simp only [Int.reduceToNat] at ho7; rw [← Ny104.out] at ho7)); have HO106 := Az.mk (Kd.R_lower ho7 (bwZ bw_3)); replace BK103 := bkz BK103 hb; replace HB := Az.mk (bwT bw_3 hb); clear hb ho7; obtain ⟨Ao8, co8, eo8⟩ := Kd.R_slice HO106.out; subst eo8) | ((with_reducible refine gtC (f := 53) rfl ?_); refine clz Tryd.func53 (some 12) #[.slice Ao8 y104.length co8] ?_; (with_reducible refine (spec_l11Fits.calls k _ _ y104 true _ ?side1 ?side2 A2.out).mono ?_); (case side1 => repeat (first | exact (Kd.R_reads' HO106.out).2.2 | (with_reducible refine Kd.C_alloc ?_ _) | (with_reducible refine Kd.C_drewN ?_ _) | (with_reducible refine Kd.C_drew ?_))); (case side2 => exact (Kd.R_reads' HO106.out).2.1); rintro e w' ⟨rfl, ⟨nd, rfl⟩⟩; refine ⟨_, rfl, ?_⟩; obtain ⟨hcz9_0, hcz9_1, hcz9_2, hcz9_3, hfz9_0, hfz9_1, hfz9_2, hfz9_3⟩ := bq4 BK103))
  go_ret
  exact ⟨rq1, bw_3⟩
 replace c3 := Bool.eq_false_iff.mpr c3
 subst c3
 rw [if_neg (show ¬ (false = true) by decide)] at H
 obtain rfl := Option.some.inj H
 go_enter Tryd.func22, Tryd.ntmps22
 go_wp2_with (first | ((with_reducible refine gtD (N := 1) rfl ?_); refine bx (N := 1) (cs := #[.int .i64 a0_0, .int .i64 a0_1, .int .i64 a0_2, .int .i64 a0_3]) (t := 25) ?_; intro gb103 hg w10 hbox hb; have BK103 := Az.mk (hbox); have GW103 := gwz hg bw_3; have GE103 := gwz hg bw_3; replace HB := Az.mk (bwT bw_3 hb); clear hb hbox hg; obtain ⟨hcz11_0, hcz11_1, hcz11_2, hcz11_3, hfz11_0, hfz11_1, hfz11_2, hfz11_3⟩ := bq4 BK103) | ((with_reducible refine gtD (N := 11) rfl ?_); refine Kd.R_lit (Kd.int .i64) _ 3 ?hg (N := 11) ?hd (xs := ([a0_0, a0_1, a0_2, a0_3] : List Int)) (inner := [.int .i64 a0_0, .int .i64 a0_1, .int .i64 a0_2, .int .i64 a0_3]) (ok := fun _ => True) (okp := fun _ => True) ?hr ?hp (fun _ hk => hk) trivial (Below.refl _ _) (Nat.le_refl _) (by simp) ?_; (case hd => rfl); (case hg => rfl); (case hr => first | (go_simp; done) | (go_simp; rfl)); (case hp => exact (Reps.one (show Kd.M (Kd.int .i64) _ _ _ a0_0 [.int .i64 a0_0] from rfl) (Reps.one (show Kd.M (Kd.int .i64) _ _ _ a0_1 [.int .i64 a0_1] from rfl) (Reps.one (show Kd.M (Kd.int .i64) _ _ _ a0_2 [.int .i64 a0_2] from rfl) (Reps.one (show Kd.M (Kd.int .i64) _ _ _ a0_3 [.int .i64 a0_3] from rfl) (Reps.none _ _)))))); intro v105 w12 ho13 hb hg_ hnew_; clear hg_ hnew_; (first | rw [← Ny104.out] at ho13 | (simp only [Int.reduceToNat] at ho13; rw [← Ny104.out] at ho13)); have HO106 := Az.mk (Kd.R_lower ho13 (bwZ bw_3)); replace BK103 := bkz BK103 hb; replace HB := Az.mk (bwT bw_3 hb); clear hb ho13; obtain ⟨Ao14, co14, eo14⟩ := Kd.R_slice HO106.out; subst eo14) | ((with_reducible refine gtC (f := 53) rfl ?_); refine clz Tryd.func53 (some 12) #[.slice Ao14 y104.length co14] ?_; (with_reducible refine (spec_l11Fits.calls k _ _ y104 false _ ?side1 ?side2 A2.out).mono ?_); (case side1 => repeat (first | exact (Kd.R_reads' HO106.out).2.2 | (with_reducible refine Kd.C_alloc ?_ _) | (with_reducible refine Kd.C_drewN ?_ _) | (with_reducible refine Kd.C_drew ?_))); (case side2 => exact (Kd.R_reads' HO106.out).2.1); rintro e w' ⟨rfl, ⟨nd, rfl⟩⟩; refine ⟨_, rfl, ?_⟩))
 go_ret
 exact ⟨rq1, bw_3⟩

/-! ### spec_FormatInt: function 34 -/
def spec_FormatInt.l0 : Nat → Int → Bool → ByteArray → Option (ByteArray)
 | 0, _, _, _ => none
 | k + 1, x0, x3, x4 => if x0 = 0 then (if x3 = true then (if 1 + x4.size ≤ 9223372036854775807 then (some ((⟨#[45]⟩ : ByteArray) ++ x4)) else (none)) else (some x4)) else (if (Int.tmod x0 10) < 0 then ((some (([(wrap64 (48 + (wrap64 (-(Int.tmod x0 10))))) % 256] : List Int) : List Int)).bind fun y108 => (if (strOfNums y108).size + x4.size ≤ 9223372036854775807 then (spec_FormatInt.l0 k (wrap64 (Int.tdiv x0 10)) x3 ((strOfNums y108) ++ x4)) else (none))) else ((some (([(wrap64 (48 + (Int.tmod x0 10))) % 256] : List Int) : List Int)).bind fun y111 => (if (strOfNums y111).size + x4.size ≤ 9223372036854775807 then (spec_FormatInt.l0 k (wrap64 (Int.tdiv x0 10)) x3 ((strOfNums y111) ++ x4)) else (none))))
def spec_FormatInt.f (k : Nat) (a0 : Int) : Option (ByteArray) := if a0 = 0 then (some (⟨#[48]⟩ : ByteArray)) else (spec_FormatInt.l0 k a0 (decide (a0 < 0)) (⟨#[]⟩ : ByteArray))
theorem spec_FormatInt.mono_l : ∀ k, (∀ y0 y1 y2, LeO (spec_FormatInt.l0 k y0 y1 y2) (spec_FormatInt.l0 (k + 1) y0 y1 y2))
 | 0 => fun _ _ _ r h => by simp [spec_FormatInt.l0] at h
 | k + 1 => by
  have ih0 := spec_FormatInt.mono_l k
  have i0 := fun z0 z1 z2 => MoO.mk (ih0 z0 z1 z2)
  ·intro y0 y1 y2
   unfold spec_FormatInt.l0
   exact mo_
theorem spec_FormatInt.mono : ∀ a0 k, LeO (spec_FormatInt.f k a0) (spec_FormatInt.f (k + 1) a0) := by
 intro a0 k
 have ih0 := spec_FormatInt.mono_l k
 have i0 := fun z0 z1 z2 => MoO.mk (ih0 z0 z1 z2)
 unfold spec_FormatInt.f
 exact mo_
instance spec_FormatInt.mi {a0 k} : MoO (spec_FormatInt.f k a0) (spec_FormatInt.f (k + 1) a0) := ⟨spec_FormatInt.mono _ _⟩
set_option maxHeartbeats 8000000 in
set_option maxRecDepth 100000 in
theorem spec_FormatInt.calls (k : Nat) (a0 : Int) (r : ByteArray) (w : World) (h : spec_FormatInt.f k a0 = some r) :
  Calls Tryd.prog 34 #[.int .i64 a0] w fun e w' => e = .returned (.string r) ∧ Below w.heap.size w w' := by
 have HB := Az.mk (Below.refl w.heap.size w)
 have H : (if a0 = 0 then (some (⟨#[48]⟩ : ByteArray)) else (spec_FormatInt.l0 k a0 (decide (a0 < 0)) (⟨#[]⟩ : ByteArray))) = some r := h
 clear h
 by_cases c2 : a0 = 0
 ·rw [if_pos c2] at H
  have c2b0 : (a0 == 0) = true := beq_iff_eq.mpr c2
  have c2b1 : (a0 != 0) = false := bne_eq_false_iff_eq.mpr c2
  clear c2
  obtain rfl := Option.some.inj H
  go_enter Tryd.func34, Tryd.ntmps34
  go_wp2
  go_ret
  exact ⟨rq1, bw_3⟩
 rw [if_neg c2] at H
 have c2b0 : (a0 == 0) = false := beq_eq_false_iff_ne.mpr c2
 have c2b1 : (a0 != 0) = true := bne_iff_ne.mpr c2
 have H' := Az.mk H
 clear H
 go_enter Tryd.func34, Tryd.ntmps34
 go_wp2
 go_loopg [0, 4] k (fun kq v0 v4 w' => ∃ (x0_1 : Int) (x4_1 : ByteArray), v0 = .int .i64 x0_1 ∧ v4 = .string x4_1 ∧ Az (spec_FormatInt.l0 kq x0_1 (decide (a0 < 0)) x4_1 = some r) ∧ Az (kq ≤ k) ∧ Az (Below w.heap.size w w'))
 case atStart => exact ⟨(a0), ((⟨#[]⟩ : ByteArray)), rq2, rq2, H', ⟨Nat.le_refl _⟩, ⟨bw_3⟩⟩
 clear H'
 try clear c2
 try clear c2b0
 try clear c2b1
 obtain ⟨x0_1, x4_1, rfl, rfl, HA, HK1, HB⟩ := hrel
 cases gk with
 | zero => exact absurd HA.out (by simp [spec_FormatInt.l0])
 | succ k1 =>
  have H := HA.out
  clear HA
  simp only [spec_FormatInt.l0] at H
  by_cases c3 : x0_1 = 0
  ·rw [if_pos c3] at H
   have c3b0 : (x0_1 == 0) = true := beq_iff_eq.mpr c3
   have c3b1 : (x0_1 != 0) = false := bne_eq_false_iff_eq.mpr c3
   clear c3
   by_cases c4 : (decide (a0 < 0)) = true
   rotate_left
   ·rw [if_neg c4] at H
    have c4b0 : (decide (a0 < 0)) = false := by simpa using c4
    have c4b9 : ¬ a0 < 0 := of_decide_eq_false c4b0
    clear c4
    obtain rfl := Option.some.inj H
    go_wp2
    go_ret
    exact ⟨rq1, bw_3⟩
   rw [if_pos c4] at H
   have c4b0 : (decide (a0 < 0)) = true := c4
   have c4b9 : a0 < 0 := of_decide_eq_true c4
   clear c4
   by_cases c5 : 1 + x4_1.size ≤ 9223372036854775807
   rotate_left
   ·rw [if_neg c5] at H
    exact absurd H (by simp)
   rw [if_pos c5] at H
   have c5b0 := eq_true c5
   have c5b1 : decide (1 + x4_1.size ≤ 9223372036854775807) = true := decide_eq_true c5
   try have c5b2 : (9223372036854775807 < 1 + x4_1.size) = False := eq_false (Nat.not_lt.2 c5)
   obtain rfl := Option.some.inj H
   go_wp2
   go_ret
   exact ⟨rq1, bw_3⟩
  rw [if_neg c3] at H
  have c3b0 : (x0_1 == 0) = false := beq_eq_false_iff_ne.mpr c3
  have c3b1 : (x0_1 != 0) = true := bne_iff_ne.mpr c3
  by_cases c6 : (Int.tmod x0_1 10) < 0
  ·rw [if_pos c6] at H
   have c6b0 : decide ((Int.tmod x0_1 10) < 0) = true := decide_eq_true c6
   clear c6
   obtain ⟨y108, hy108⟩ : ∃ y_ : List Int, y_ = (([(wrap64 (48 + (wrap64 (-(Int.tmod x0_1 10))))) % 256] : List Int)) := ⟨_, rfl⟩
   replace H : (if (strOfNums y108).size + x4_1.size ≤ 9223372036854775807 then (spec_FormatInt.l0 k1 (wrap64 (Int.tdiv x0_1 10)) (decide (a0 < 0)) ((strOfNums y108) ++ x4_1)) else (none)) = some r := by first | (rw [hy108]; with_reducible exact H) | (have H2_ := (Option.bind_some _ _).symm.trans H; rw [hy108]; with_reducible exact H2_) | (have H2_ := (Option.bind_some _ _).symm.trans H; with_reducible exact H2_) | with_reducible exact H | (rw [hy108]; exact H) | exact H
   have Ny108 := Az.mk hy108
   clear hy108
   by_cases c7 : (strOfNums y108).size + x4_1.size ≤ 9223372036854775807
   rotate_left
   ·rw [if_neg c7] at H
    exact absurd H (by simp)
   rw [if_pos c7] at H
   have c7b0 := eq_true c7
   have c7b1 : decide ((strOfNums y108).size + x4_1.size ≤ 9223372036854775807) = true := decide_eq_true c7
   try have c7b2 : (9223372036854775807 < (strOfNums y108).size + x4_1.size) = False := eq_false (Nat.not_lt.2 c7)
   have H' := Az.mk H
   clear H
   go_wp2_with (first | ((with_reducible refine gtD (N := 21) rfl ?_); refine Kd.R_lit (Kd.int .u8) _ 5 ?hg (N := 21) ?hd (xs := ([(wrap64 (48 + (wrap64 (-(Int.tmod x0_1 10))))) % 256] : List Int)) (inner := [.int .u8 ((wrap64 (48 + (wrap64 (-(Int.tmod x0_1 10))))) % 256)]) (ok := fun _ => True) (okp := fun _ => True) ?hr ?hp (fun _ hk => hk) trivial (Below.refl _ _) (Nat.le_refl _) (by simp) ?_; (case hd => rfl); (case hg => rfl); (case hr => first | (go_simp; done) | (go_simp; rfl)); (case hp => exact (Reps.one (show Kd.M (Kd.int .u8) _ _ _ ((wrap64 (48 + (wrap64 (-(Int.tmod x0_1 10))))) % 256) [.int .u8 ((wrap64 (48 + (wrap64 (-(Int.tmod x0_1 10))))) % 256)] from rfl) (Reps.none _ _))); intro v109 w8 ho9 hb hg_ hnew_; clear hg_ hnew_; (first | rw [← Ny108.out] at ho9 | (simp only [Int.reduceToNat] at ho9; rw [← Ny108.out] at ho9)); have HO110 := Az.mk (Kd.R_lower ho9 (bwZ bw_3)); replace HB := Az.mk (bwT bw_3 hb); clear hb ho9; have hcv10 := own_string (P := Tryd.prog) Tryd.underlying28 Tryd.underlying5 Tryd.underlying9 (Kd.own_of_R HO110.out)))
   go_roundg k1
   case measure => have := HK1.out; omega
   case rel => exact ⟨(wrap64 (Int.tdiv x0_1 10)), ((strOfNums y108) ++ x4_1), rq2, rq2, H', ⟨by have := HK1.out; omega⟩, ⟨bw_3⟩⟩
  rw [if_neg c6] at H
  have c6b0 : decide ((Int.tmod x0_1 10) < 0) = false := decide_eq_false c6
  clear c6
  obtain ⟨y111, hy111⟩ : ∃ y_ : List Int, y_ = (([(wrap64 (48 + (Int.tmod x0_1 10))) % 256] : List Int)) := ⟨_, rfl⟩
  replace H : (if (strOfNums y111).size + x4_1.size ≤ 9223372036854775807 then (spec_FormatInt.l0 k1 (wrap64 (Int.tdiv x0_1 10)) (decide (a0 < 0)) ((strOfNums y111) ++ x4_1)) else (none)) = some r := by first | (rw [hy111]; with_reducible exact H) | (have H2_ := (Option.bind_some _ _).symm.trans H; rw [hy111]; with_reducible exact H2_) | (have H2_ := (Option.bind_some _ _).symm.trans H; with_reducible exact H2_) | with_reducible exact H | (rw [hy111]; exact H) | exact H
  have Ny111 := Az.mk hy111
  clear hy111
  by_cases c11 : (strOfNums y111).size + x4_1.size ≤ 9223372036854775807
  rotate_left
  ·rw [if_neg c11] at H
   exact absurd H (by simp)
  rw [if_pos c11] at H
  have c11b0 := eq_true c11
  have c11b1 : decide ((strOfNums y111).size + x4_1.size ≤ 9223372036854775807) = true := decide_eq_true c11
  try have c11b2 : (9223372036854775807 < (strOfNums y111).size + x4_1.size) = False := eq_false (Nat.not_lt.2 c11)
  have H' := Az.mk H
  clear H
  go_wp2_with (first | ((with_reducible refine gtD (N := 21) rfl ?_); refine Kd.R_lit (Kd.int .u8) _ 5 ?hg (N := 21) ?hd (xs := ([(wrap64 (48 + (Int.tmod x0_1 10))) % 256] : List Int)) (inner := [.int .u8 ((wrap64 (48 + (Int.tmod x0_1 10))) % 256)]) (ok := fun _ => True) (okp := fun _ => True) ?hr ?hp (fun _ hk => hk) trivial (Below.refl _ _) (Nat.le_refl _) (by simp) ?_; (case hd => rfl); (case hg => rfl); (case hr => first | (go_simp; done) | (go_simp; rfl)); (case hp => exact (Reps.one (show Kd.M (Kd.int .u8) _ _ _ ((wrap64 (48 + (Int.tmod x0_1 10))) % 256) [.int .u8 ((wrap64 (48 + (Int.tmod x0_1 10))) % 256)] from rfl) (Reps.none _ _))); intro v112 w12 ho13 hb hg_ hnew_; clear hg_ hnew_; (first | rw [← Ny111.out] at ho13 | (simp only [Int.reduceToNat] at ho13; rw [← Ny111.out] at ho13)); have HO113 := Az.mk (Kd.R_lower ho13 (bwZ bw_3)); replace HB := Az.mk (bwT bw_3 hb); clear hb ho13; have hcv14 := own_string (P := Tryd.prog) Tryd.underlying28 Tryd.underlying5 Tryd.underlying9 (Kd.own_of_R HO113.out)))
  go_roundg k1
  case measure => have := HK1.out; omega
  case rel => exact ⟨(wrap64 (Int.tdiv x0_1 10)), ((strOfNums y111) ++ x4_1), rq2, rq2, H', ⟨by have := HK1.out; omega⟩, ⟨bw_3⟩⟩

end Go.Proofs.YtnoiijdffdpabaaDoor.P
namespace Go.Proofs.YtnoiijdffdpabaaDoor.P
open Go.RowKit Go.Proofs.YtnoiijdffdpabaaDoorW.PrintWords Go.Proofs.YtnoiijdffdpabaaDoorW.PrintLast Go.Proofs.YtnoiijdffdpabaaDoorW.PrintMore
attribute [local go_sem] max2_int min2_int max_two min_two max_three min_three max_four min_four   -- for this text's walks alone
set_option linter.unusedVariables false
set_option linter.unusedSimpArgs false
open Bool renaming true → T, false → F
theorem bw_4 {n : Nat} {v v' : World} (h : Below n v v' := by repeat (first | (with_reducible first | exact HB.out | apply bwA | apply pbN | apply bwD | refine bwS ?_ GE114.out) | exact HB.out)) : Below n v v' := h
theorem ln_4 {P : Prop} (h : P := by (try simp only [List.map_toArray, List.map_cons, List.map_nil]); first | done | rfl | (simp only [List.length_drop, List.length_take]; rfl)) : P := h
open Option renaming bind_eq_some_iff → be

/-! ### spec_MatrixText: function 5 -/
def spec_MatrixText.f (k : Nat) (a0_0 : Int) (a0_1 : Int) (a0_2 : Int) (a0_3 : Int) : Option (ByteArray) := (spec_IsMatrix.f k a0_0 a0_1 a0_2 a0_3).bind fun t115 => (if t115 = true then ((spec_FormatInt.f k a0_0).bind fun t116 => (if t116.size + 1 ≤ 9223372036854775807 then ((spec_FormatInt.f k a0_1).bind fun t117 => (if (t116 ++ (⟨#[44]⟩ : ByteArray)).size + t117.size ≤ 9223372036854775807 then (if ((t116 ++ (⟨#[44]⟩ : ByteArray)) ++ t117).size + 1 ≤ 9223372036854775807 then ((spec_FormatInt.f k a0_2).bind fun t118 => (if (((t116 ++ (⟨#[44]⟩ : ByteArray)) ++ t117) ++ (⟨#[44]⟩ : ByteArray)).size + t118.size ≤ 9223372036854775807 then (if ((((t116 ++ (⟨#[44]⟩ : ByteArray)) ++ t117) ++ (⟨#[44]⟩ : ByteArray)) ++ t118).size + 1 ≤ 9223372036854775807 then ((spec_FormatInt.f k a0_3).bind fun t119 => (if (((((t116 ++ (⟨#[44]⟩ : ByteArray)) ++ t117) ++ (⟨#[44]⟩ : ByteArray)) ++ t118) ++ (⟨#[44]⟩ : ByteArray)).size + t119.size ≤ 9223372036854775807 then (some ((((((t116 ++ (⟨#[44]⟩ : ByteArray)) ++ t117) ++ (⟨#[44]⟩ : ByteArray)) ++ t118) ++ (⟨#[44]⟩ : ByteArray)) ++ t119)) else (none))) else (none)) else (none))) else (none)) else (none))) else (none))) else (some (⟨#[]⟩ : ByteArray)))
theorem spec_MatrixText.mono : ∀ a0 a1 a2 a3 k, LeO (spec_MatrixText.f k a0 a1 a2 a3) (spec_MatrixText.f (k + 1) a0 a1 a2 a3) := by
 intro a0 a1 a2 a3 k
 unfold spec_MatrixText.f
 exact mo_
instance spec_MatrixText.mi {a0 a1 a2 a3 k} : MoO (spec_MatrixText.f k a0 a1 a2 a3) (spec_MatrixText.f (k + 1) a0 a1 a2 a3) := ⟨spec_MatrixText.mono _ _ _ _ _⟩
def spec_MatrixText.T3 : Bool × List (List Nat × List Nat) := (true, [([], []), ([0], [0]), ([1], [1]), ([2], [2]), ([], []), ([4], [4]), ([5, 2], [5]), ([3, 6], [3, 6]), ([7], [7]), ([], []), ([9], [9]), ([10, 6], [10]), ([8, 11], [8, 11]), ([12], [12]), ([], []), ([14], [14]), ([15, 11], [15]), ([13, 16], [13, 16]), ([17, 16, 0, 1, 2, 3, 4, 5, 6, 7, 8, 9, 10, 11, 12, 13, 14, 15, 16, 17], [17])])
def spec_MatrixText.B3 : List Nat := [0, 1, 3, 7, 0, 16, 55, 127, 255, 0, 512, 1655, 4095, 8191, 0, 16384, 52855, 131071, 262143]
theorem spec_MatrixText.tab3 : rtab .any (opsOf Tryd.f5 3) = spec_MatrixText.T3 := by kernel_rfl
theorem spec_MatrixText.bits3 : waitsOk spec_MatrixText.T3.2 spec_MatrixText.B3 = true := by kernel_rfl
set_option maxHeartbeats 8000000 in
set_option maxRecDepth 100000 in
theorem spec_MatrixText.calls (k : Nat) (a0_0 : Int) (a0_1 : Int) (a0_2 : Int) (a0_3 : Int) (r : ByteArray) (w : World) (h : spec_MatrixText.f k a0_0 a0_1 a0_2 a0_3 = some r) :
  Calls Tryd.prog 5 #[.agg #[.int .i64 a0_0, .int .i64 a0_1, .int .i64 a0_2, .int .i64 a0_3]] w fun e w' => e = .returned (.string r) ∧ Below w.heap.size w w' := by
 have hu25 := Tryd.underlying25
 have HB := Az.mk (Below.refl w.heap.size w)
 have H : ((spec_IsMatrix.f k a0_0 a0_1 a0_2 a0_3).bind fun t115 => (if t115 = true then ((spec_FormatInt.f k a0_0).bind fun t116 => (if t116.size + 1 ≤ 9223372036854775807 then ((spec_FormatInt.f k a0_1).bind fun t117 => (if (t116 ++ (⟨#[44]⟩ : ByteArray)).size + t117.size ≤ 9223372036854775807 then (if ((t116 ++ (⟨#[44]⟩ : ByteArray)) ++ t117).size + 1 ≤ 9223372036854775807 then ((spec_FormatInt.f k a0_2).bind fun t118 => (if (((t116 ++ (⟨#[44]⟩ : ByteArray)) ++ t117) ++ (⟨#[44]⟩ : ByteArray)).size + t118.size ≤ 9223372036854775807 then (if ((((t116 ++ (⟨#[44]⟩ : ByteArray)) ++ t117) ++ (⟨#[44]⟩ : ByteArray)) ++ t118).size + 1 ≤ 9223372036854775807 then ((spec_FormatInt.f k a0_3).bind fun t119 => (if (((((t116 ++ (⟨#[44]⟩ : ByteArray)) ++ t117) ++ (⟨#[44]⟩ : ByteArray)) ++ t118) ++ (⟨#[44]⟩ : ByteArray)).size + t119.size ≤ 9223372036854775807 then (some ((((((t116 ++ (⟨#[44]⟩ : ByteArray)) ++ t117) ++ (⟨#[44]⟩ : ByteArray)) ++ t118) ++ (⟨#[44]⟩ : ByteArray)) ++ t119)) else (none))) else (none)) else (none))) else (none)) else (none))) else (none))) else (some (⟨#[]⟩ : ByteArray)))) = some r := h
 clear h
 replace H := bez H
 obtain ⟨t115, A2, H⟩ := H
 try dsimp only at H
 by_cases c3 : t115 = true
 rotate_left
 ·replace c3 := Bool.eq_false_iff.mpr c3
  subst c3
  rw [if_neg (show ¬ (false = true) by decide)] at H
  obtain rfl := Option.some.inj H
  go_enter Tryd.func5, Tryd.ntmps5
  go_wp2_with (first | ((with_reducible refine gtD (N := 1) rfl ?_); refine bx (N := 1) (cs := #[.int .i64 a0_0, .int .i64 a0_1, .int .i64 a0_2, .int .i64 a0_3]) (t := 25) ?_; intro gb114 hg w22 hbox hb; have BK114 := Az.mk (hbox); have GW114 := gwz hg bw_4; have GE114 := gwz hg bw_4; replace HB := Az.mk (bwT bw_4 hb); clear hb hbox hg; obtain ⟨hcz23_0, hcz23_1, hcz23_2, hcz23_3, hfz23_0, hfz23_1, hfz23_2, hfz23_3⟩ := bq4 BK114) | ((with_reducible refine gtC (f := 22) rfl ?_); refine clz Tryd.func22 (some 4) #[.agg #[.int .i64 a0_0, .int .i64 a0_1, .int .i64 a0_2, .int .i64 a0_3]] ?_; (with_reducible refine (spec_IsMatrix.calls k a0_0 a0_1 a0_2 a0_3 false _ A2.out).mono ?_); rintro e w24 ⟨rfl, hb⟩; refine ⟨_, rfl, ?_⟩; replace BK114 := bkz BK114 hb; replace HB := Az.mk (bwT bw_4 hb); (try clear hb)))
  go_ret
  exact ⟨rq1, bw_4⟩
 subst c3
 rw [if_pos rfl] at H
 replace H := bez H
 obtain ⟨t116, A4, H⟩ := H
 try dsimp only at H
 by_cases c5 : t116.size + 1 ≤ 9223372036854775807
 rotate_left
 ·rw [if_neg c5] at H
  exact absurd H (by simp)
 rw [if_pos c5] at H
 have c5b0 := eq_true c5
 have c5b1 : decide (t116.size + 1 ≤ 9223372036854775807) = true := decide_eq_true c5
 try have c5b2 : (9223372036854775807 < t116.size + 1) = False := eq_false (Nat.not_lt.2 c5)
 replace H := bez H
 obtain ⟨t117, A6, H⟩ := H
 try dsimp only at H
 by_cases c7 : (t116 ++ (⟨#[44]⟩ : ByteArray)).size + t117.size ≤ 9223372036854775807
 rotate_left
 ·rw [if_neg c7] at H
  exact absurd H (by simp)
 rw [if_pos c7] at H
 have c7b0 := eq_true c7
 have c7b3 := c7
 simp only [ByteArray.size_append, show (⟨#[44]⟩ : ByteArray).size = 1 from rfl] at c7b3
 have c7b4 := eq_true c7b3
 have c7b5 := eq_false (Nat.not_lt.2 c7b3)
 have c7b6 := decide_eq_true c7b3
 have c7b1 : decide ((t116 ++ (⟨#[44]⟩ : ByteArray)).size + t117.size ≤ 9223372036854775807) = true := decide_eq_true c7
 try have c7b2 : (9223372036854775807 < (t116 ++ (⟨#[44]⟩ : ByteArray)).size + t117.size) = False := eq_false (Nat.not_lt.2 c7)
 by_cases c8 : ((t116 ++ (⟨#[44]⟩ : ByteArray)) ++ t117).size + 1 ≤ 9223372036854775807
 rotate_left
 ·rw [if_neg c8] at H
  exact absurd H (by simp)
 rw [if_pos c8] at H
 have c8b0 := eq_true c8
 have c8b3 := c8
 simp only [ByteArray.size_append, show (⟨#[44]⟩ : ByteArray).size = 1 from rfl] at c8b3
 have c8b4 := eq_true c8b3
 have c8b5 := eq_false (Nat.not_lt.2 c8b3)
 have c8b6 := decide_eq_true c8b3
 have c8b1 : decide (((t116 ++ (⟨#[44]⟩ : ByteArray)) ++ t117).size + 1 ≤ 9223372036854775807) = true := decide_eq_true c8
 try have c8b2 : (9223372036854775807 < ((t116 ++ (⟨#[44]⟩ : ByteArray)) ++ t117).size + 1) = False := eq_false (Nat.not_lt.2 c8)
 replace H := bez H
 obtain ⟨t118, A9, H⟩ := H
 try dsimp only at H
 by_cases c10 : (((t116 ++ (⟨#[44]⟩ : ByteArray)) ++ t117) ++ (⟨#[44]⟩ : ByteArray)).size + t118.size ≤ 9223372036854775807
 rotate_left
 ·rw [if_neg c10] at H
  exact absurd H (by simp)
 rw [if_pos c10] at H
 have c10b0 := eq_true c10
 have c10b3 := c10
 simp only [ByteArray.size_append, show (⟨#[44]⟩ : ByteArray).size = 1 from rfl] at c10b3
 have c10b4 := eq_true c10b3
 have c10b5 := eq_false (Nat.not_lt.2 c10b3)
 have c10b6 := decide_eq_true c10b3
 have c10b1 : decide ((((t116 ++ (⟨#[44]⟩ : ByteArray)) ++ t117) ++ (⟨#[44]⟩ : ByteArray)).size + t118.size ≤ 9223372036854775807) = true := decide_eq_true c10
 try have c10b2 : (9223372036854775807 < (((t116 ++ (⟨#[44]⟩ : ByteArray)) ++ t117) ++ (⟨#[44]⟩ : ByteArray)).size + t118.size) = False := eq_false (Nat.not_lt.2 c10)
 by_cases c11 : ((((t116 ++ (⟨#[44]⟩ : ByteArray)) ++ t117) ++ (⟨#[44]⟩ : ByteArray)) ++ t118).size + 1 ≤ 9223372036854775807
 rotate_left
 ·rw [if_neg c11] at H
  exact absurd H (by simp)
 rw [if_pos c11] at H
 have c11b0 := eq_true c11
 have c11b3 := c11
 simp only [ByteArray.size_append, show (⟨#[44]⟩ : ByteArray).size = 1 from rfl] at c11b3
 have c11b4 := eq_true c11b3
 have c11b5 := eq_false (Nat.not_lt.2 c11b3)
 have c11b6 := decide_eq_true c11b3
 have c11b1 : decide (((((t116 ++ (⟨#[44]⟩ : ByteArray)) ++ t117) ++ (⟨#[44]⟩ : ByteArray)) ++ t118).size + 1 ≤ 9223372036854775807) = true := decide_eq_true c11
 try have c11b2 : (9223372036854775807 < ((((t116 ++ (⟨#[44]⟩ : ByteArray)) ++ t117) ++ (⟨#[44]⟩ : ByteArray)) ++ t118).size + 1) = False := eq_false (Nat.not_lt.2 c11)
 replace H := bez H
 obtain ⟨t119, A12, H⟩ := H
 try dsimp only at H
 by_cases c13 : (((((t116 ++ (⟨#[44]⟩ : ByteArray)) ++ t117) ++ (⟨#[44]⟩ : ByteArray)) ++ t118) ++ (⟨#[44]⟩ : ByteArray)).size + t119.size ≤ 9223372036854775807
 rotate_left
 ·rw [if_neg c13] at H
  exact absurd H (by simp)
 rw [if_pos c13] at H
 have c13b0 := eq_true c13
 have c13b3 := c13
 simp only [ByteArray.size_append, show (⟨#[44]⟩ : ByteArray).size = 1 from rfl] at c13b3
 have c13b4 := eq_true c13b3
 have c13b5 := eq_false (Nat.not_lt.2 c13b3)
 have c13b6 := decide_eq_true c13b3
 have c13b1 : decide ((((((t116 ++ (⟨#[44]⟩ : ByteArray)) ++ t117) ++ (⟨#[44]⟩ : ByteArray)) ++ t118) ++ (⟨#[44]⟩ : ByteArray)).size + t119.size ≤ 9223372036854775807) = true := decide_eq_true c13
 try have c13b2 : (9223372036854775807 < (((((t116 ++ (⟨#[44]⟩ : ByteArray)) ++ t117) ++ (⟨#[44]⟩ : ByteArray)) ++ t118) ++ (⟨#[44]⟩ : ByteArray)).size + t119.size) = False := eq_false (Nat.not_lt.2 c13)
 obtain rfl := Option.some.inj H
 go_enter Tryd.func5, Tryd.ntmps5
 try go_wp2_with (first | ((with_reducible refine gtD (N := 1) rfl ?_); refine bx (N := 1) (cs := #[.int .i64 a0_0, .int .i64 a0_1, .int .i64 a0_2, .int .i64 a0_3]) (t := 25) ?_; intro gb114 hg w14 hbox hb; have BK114 := Az.mk (hbox); have GW114 := gwz hg bw_4; have GE114 := gwz hg bw_4; replace HB := Az.mk (bwT bw_4 hb); clear hb hbox hg; obtain ⟨hcz15_0, hcz15_1, hcz15_2, hcz15_3, hfz15_0, hfz15_1, hfz15_2, hfz15_3⟩ := bq4 BK114) | ((with_reducible refine gtC (f := 22) rfl ?_); refine clz Tryd.func22 (some 4) #[.agg #[.int .i64 a0_0, .int .i64 a0_1, .int .i64 a0_2, .int .i64 a0_3]] ?_; (with_reducible refine (spec_IsMatrix.calls k a0_0 a0_1 a0_2 a0_3 true _ A2.out).mono ?_); rintro e w16 ⟨rfl, hb⟩; refine ⟨_, rfl, ?_⟩; replace BK114 := bkz BK114 hb; replace HB := Az.mk (bwT bw_4 hb); (try clear hb)))
 replace BK114 := Az.mk (bkD BK114.out); replace HB := Az.mk (bwD HB.out)
 refine start_ (n := 19) (S := fun w' => w'.cell? ⟨gb114, 0, none⟩ = some (.int .i64 a0_0) ∧ w'.cell? ⟨gb114, 1, none⟩ = some (.int .i64 a0_1) ∧ w'.cell? ⟨gb114, 2, none⟩ = some (.int .i64 a0_2) ∧ w'.cell? ⟨gb114, 3, none⟩ = some (.int .i64 a0_3)) (ds := []) #[F,F,F,F,F,F,F,F,F,F,F,F,F,F,F,F,F,F,F] (by kernel_rfl) rfl rfl cs_ (fun hHeld => ?_); refine with_tabW spec_MatrixText.tab3 spec_MatrixText.bits3 (fun HT_ HW_ => ?_)
 generalize w16.drew = w17 at BK114 HB hHeld ⊢
 refine pu (i := 0) (N := some 6) #[T,F,F,F,F,F,F,F,F,F,F,F,F,F,F,F,F,F,F] (any_of HT_.out (by kernel_rfl)) ?_
 refine pu (i := 4) (N := some 10) #[T,F,F,F,T,F,F,F,F,F,F,F,F,F,F,F,F,F,F] (any_of HT_.out (by kernel_rfl)) ?_
 refine pu (i := 9) (N := some 15) #[T,F,F,F,T,F,F,F,F,T,F,F,F,F,F,F,F,F,F] (any_of HT_.out (by kernel_rfl)) ?_
 refine pu (i := 14) (N := some 20) #[T,F,F,F,T,F,F,F,F,T,F,F,F,F,T,F,F,F,F] (any_of HT_.out (by kernel_rfl)) ?_
 refine take_ (i := 1) (N := some 7) (v := ?_) (a' := ?_) #[T,T,F,F,T,F,F,F,F,T,F,F,F,F,T,F,F,F,F] rfl rfl (take_ofW HT_.out HW_.out (by kernel_rfl)) (fun _ _ _ h => h) (Or.inl ⟨by rfl, ?_⟩) hHeld ?_ ?_
 rotate_left
 ·rintro w' ⟨s0, s1, s2, s3⟩
  go_simp
  with_reducible rfl
 rotate_left
 ·exact acq
 refine take_ (i := 5) (N := some 11) (v := ?_) (a' := ?_) #[T,T,F,F,T,T,F,F,F,T,F,F,F,F,T,F,F,F,F] rfl rfl (take_ofW HT_.out HW_.out (by kernel_rfl)) (fun _ _ _ h => h) (Or.inl ⟨by rfl, ?_⟩) hHeld ?_ ?_
 rotate_left
 ·rintro w' ⟨s0, s1, s2, s3⟩
  go_simp
  with_reducible rfl
 rotate_left
 ·exact acq
 refine take_ (i := 10) (N := some 16) (v := ?_) (a' := ?_) #[T,T,F,F,T,T,F,F,F,T,T,F,F,F,T,F,F,F,F] rfl rfl (take_ofW HT_.out HW_.out (by kernel_rfl)) (fun _ _ _ h => h) (Or.inl ⟨by rfl, ?_⟩) hHeld ?_ ?_
 rotate_left
 ·rintro w' ⟨s0, s1, s2, s3⟩
  go_simp
  with_reducible rfl
 rotate_left
 ·exact acq
 refine take_ (i := 15) (N := some 21) (v := ?_) (a' := ?_) #[T,T,F,F,T,T,F,F,F,T,T,F,F,F,T,T,F,F,F] rfl rfl (take_ofW HT_.out HW_.out (by kernel_rfl)) (fun _ _ _ h => h) (Or.inl ⟨by rfl, ?_⟩) hHeld ?_ ?_
 rotate_left
 ·rintro w' ⟨s0, s1, s2, s3⟩
  go_simp
  with_reducible rfl
 rotate_left
 ·exact acq
 refine one_ (i := 2) (N := some 8) #[T,T,T,F,T,T,F,F,F,T,T,F,F,F,T,T,F,F,F] rfl rfl (one_of HT_.out (by kernel_rfl)) (by decide) (fun K hK => ?_)
 refine goes_ Tryd.func34 (by kernel_rfl) rfl #[.int .i64 a0_0] (by rfl) rfl rfl ln_4 ?_
 with_reducible refine (spec_FormatInt.calls k a0_0 t116 _ A4.out).mono ?_
 rintro e w18 ⟨rfl, hb⟩
 refine ⟨_, rfl, ?_⟩
 replace BK114 := bkz BK114 hb; replace HB := Az.mk (bwT bw_4 hb)
 (try clear hb)
 (try clear hb2)
 (try clear hk)
 (try clear hi)
 refine hK.out _ _ cs_ (fun hHeld => ?_)
 clear hK K
 refine norm_ (a' := ?_) ?_ ?_
 rotate_left
 ·show Act.put _ (some 8) _ = _
  exact acq
 refine pu (i := 3) (N := some 9) #[T,T,T,T,T,T,F,F,F,T,T,F,F,F,T,T,F,F,F] (any_of HT_.out (by kernel_rfl)) ?_
 refine one_ (i := 6) (N := some 12) #[T,T,T,T,T,T,T,F,F,T,T,F,F,F,T,T,F,F,F] rfl rfl (one_of HT_.out (by kernel_rfl)) (by decide) (fun K hK => ?_)
 refine goes_ Tryd.func34 (by kernel_rfl) rfl #[.int .i64 a0_1] (by rfl) rfl rfl ln_4 ?_
 with_reducible refine (spec_FormatInt.calls k a0_1 t117 _ A6.out).mono ?_
 rintro e w19 ⟨rfl, hb⟩
 refine ⟨_, rfl, ?_⟩
 replace BK114 := bkz BK114 hb; replace HB := Az.mk (bwT bw_4 hb)
 (try clear hb)
 (try clear hb2)
 (try clear hk)
 (try clear hi)
 refine hK.out _ _ cs_ (fun hHeld => ?_)
 clear hK K
 refine norm_ (a' := ?_) ?_ ?_
 rotate_left
 ·show Act.put _ (some 12) _ = _
  exact acq
 refine pu (i := 7) (N := some 13) #[T,T,T,T,T,T,T,T,F,T,T,F,F,F,T,T,F,F,F] (any_of HT_.out (by kernel_rfl)) ?_
 refine pu (i := 8) (N := some 14) #[T,T,T,T,T,T,T,T,T,T,T,F,F,F,T,T,F,F,F] (any_of HT_.out (by kernel_rfl)) ?_
 refine one_ (i := 11) (N := some 17) #[T,T,T,T,T,T,T,T,T,T,T,T,F,F,T,T,F,F,F] rfl rfl (one_of HT_.out (by kernel_rfl)) (by decide) (fun K hK => ?_)
 refine goes_ Tryd.func34 (by kernel_rfl) rfl #[.int .i64 a0_2] (by rfl) rfl rfl ln_4 ?_
 with_reducible refine (spec_FormatInt.calls k a0_2 t118 _ A9.out).mono ?_
 rintro e w20 ⟨rfl, hb⟩
 refine ⟨_, rfl, ?_⟩
 replace BK114 := bkz BK114 hb; replace HB := Az.mk (bwT bw_4 hb)
 (try clear hb)
 (try clear hb2)
 (try clear hk)
 (try clear hi)
 refine hK.out _ _ cs_ (fun hHeld => ?_)
 clear hK K
 refine norm_ (a' := ?_) ?_ ?_
 rotate_left
 ·show Act.put _ (some 17) _ = _
  exact acq
 refine pu (i := 12) (N := some 18) #[T,T,T,T,T,T,T,T,T,T,T,T,T,F,T,T,F,F,F] (any_of HT_.out (by kernel_rfl)) ?_
 refine pu (i := 13) (N := some 19) #[T,T,T,T,T,T,T,T,T,T,T,T,T,T,T,T,F,F,F] (any_of HT_.out (by kernel_rfl)) ?_
 refine one_ (i := 16) (N := some 22) #[T,T,T,T,T,T,T,T,T,T,T,T,T,T,T,T,T,F,F] rfl rfl (one_of HT_.out (by kernel_rfl)) (by decide) (fun K hK => ?_)
 refine goes_ Tryd.func34 (by kernel_rfl) rfl #[.int .i64 a0_3] (by rfl) rfl rfl ln_4 ?_
 with_reducible refine (spec_FormatInt.calls k a0_3 t119 _ A12.out).mono ?_
 rintro e w21 ⟨rfl, hb⟩
 refine ⟨_, rfl, ?_⟩
 replace BK114 := bkz BK114 hb; replace HB := Az.mk (bwT bw_4 hb)
 (try clear hb)
 (try clear hb2)
 (try clear hk)
 (try clear hi)
 refine hK.out _ _ cs_ (fun hHeld => ?_)
 clear hK K
 refine norm_ (a' := ?_) ?_ ?_
 rotate_left
 ·show Act.put _ (some 22) _ = _
  exact acq
 refine pu (i := 17) (N := some 23) #[T,T,T,T,T,T,T,T,T,T,T,T,T,T,T,T,T,T,F] (any_of HT_.out (by kernel_rfl)) ?_
 refine pu (i := 18) (N := some 2) #[T,T,T,T,T,T,T,T,T,T,T,T,T,T,T,T,T,T,T] (any_of HT_.out (by kernel_rfl)) ?_
 refine done_ (done_of HT_.out (by kernel_rfl)) ?_
 try go_wp2
 go_ret
 exact ⟨rq1, bw_4⟩

/-! ### impl_within: function 54 -/
def impl_within.f (a0 : Int) (a1 : Int) (a2 : Int) : Option (Bool) := if a0 ≥ a1 then (some (decide (a0 ≤ a2))) else (some false)
set_option maxHeartbeats 8000000 in
set_option maxRecDepth 100000 in
theorem impl_within.calls (a0 : Int) (a1 : Int) (a2 : Int) (r : Bool) (w : World) (h : impl_within.f a0 a1 a2 = some r) :
  Calls Tryd.prog 54 #[.int .i64 a0, .int .i64 a1, .int .i64 a2] w fun e w' => e = .returned (.bool r) ∧ Drawn0 w w' := by
 have H : (if a0 ≥ a1 then (some (decide (a0 ≤ a2))) else (some false)) = some r := h
 clear h
 by_cases c4 : a0 ≥ a1
 ·rw [if_pos c4] at H
  have c4b0 : decide (a1 ≤ a0) = true := decide_eq_true c4
  clear c4
  obtain rfl := Option.some.inj H
  go_enter Tryd.func54, Tryd.ntmps54
  go_wp2
  go_ret
  exact ⟨by first | rfl | (simp; done) | (simp [*]; done), by repeat (first | exact Drawn0.refl _ | apply Drawn0.step)⟩
 rw [if_neg c4] at H
 have c4b0 : decide (a1 ≤ a0) = false := decide_eq_false c4
 clear c4
 obtain rfl := Option.some.inj H
 go_enter Tryd.func54, Tryd.ntmps54
 go_wp2
 go_ret
 exact ⟨by first | rfl | (simp; done) | (simp [*]; done), by repeat (first | exact Drawn0.refl _ | apply Drawn0.step)⟩

/-! ### impl_areSmall: function 52 -/
def impl_areSmall.l0 : Nat → List Int → Int → Int → Option (Bool)
 | 0, _, _, _ => none
 | k + 1, x5, x6, x7 => if x7 < x6 then (if 0 ≤ x7 then (if x7 < (x5.length : Int) then ((impl_within.f (rd x5 x7) (-1000) 1000).bind fun t124 => (if t124 = true then (impl_areSmall.l0 k x5 x6 (wrap64 (x7 + 1))) else (some false))) else (none)) else (none)) else (some true)
def impl_areSmall.f (k : Nat) (l0 : List Int) : Option (Bool) := impl_areSmall.l0 k l0 (l0.length : Int) 0
theorem impl_areSmall.mono_l : ∀ k, (∀ y0 y1 y2, LeO (impl_areSmall.l0 k y0 y1 y2) (impl_areSmall.l0 (k + 1) y0 y1 y2))
 | 0 => fun _ _ _ r h => by simp [impl_areSmall.l0] at h
 | k + 1 => by
  have ih0 := impl_areSmall.mono_l k
  have i0 := fun z0 z1 z2 => MoO.mk (ih0 z0 z1 z2)
  ·intro y0 y1 y2
   unfold impl_areSmall.l0
   exact mo_
theorem impl_areSmall.mono : ∀ a0 k, LeO (impl_areSmall.f k a0) (impl_areSmall.f (k + 1) a0) := by
 intro a0 k
 have ih0 := impl_areSmall.mono_l k
 have i0 := fun z0 z1 z2 => MoO.mk (ih0 z0 z1 z2)
 unfold impl_areSmall.f
 exact mo_
instance impl_areSmall.mi {a0 k} : MoO (impl_areSmall.f k a0) (impl_areSmall.f (k + 1) a0) := ⟨impl_areSmall.mono _ _⟩
set_option maxHeartbeats 8000000 in
set_option maxRecDepth 100000 in
theorem impl_areSmall.calls (k : Nat) (A0 : Option Addr) (c0 : Nat) (l0 : List Int) (r : Bool) (w : World) (hr0 : Kd.C (Kd.int .i64) w A0 l0.length l0) (hc0 : l0.length ≤ c0) (h : impl_areSmall.f k l0 = some r) :
  Calls Tryd.prog 52 #[.slice A0 l0.length c0] w fun e w' => e = .returned (.bool r) ∧ Drawn0 w w' := by
 have HR0 := Az.mk hr0
 have HC0 := Az.mk hc0
 clear hr0 hc0
 have H : (impl_areSmall.l0 k l0 (l0.length : Int) 0) = some r := h
 clear h
 have H' := Az.mk H
 clear H
 go_enter Tryd.func52, Tryd.ntmps52
 go_wp2
 go_loopg [7] k (fun kq v7 w' => ∃ (x7_1 : Int), v7 = .int .i64 x7_1 ∧ Az (impl_areSmall.l0 kq l0 (l0.length : Int) x7_1 = some r) ∧ Az (kq ≤ k) ∧ Drawn0 w w')
 case atStart => exact ⟨(0), rq2, H', ⟨Nat.le_refl _⟩, by repeat (first | exact Drawn0.refl _ | apply Drawn0.step)⟩
 clear H'
 obtain ⟨x7_1, rfl, HA, HK1, ⟨m1, rfl⟩⟩ := hrel
 cases gk with
 | zero => exact absurd HA.out (by simp [impl_areSmall.l0])
 | succ k1 =>
  have H := HA.out
  clear HA
  simp only [impl_areSmall.l0] at H
  by_cases c2 : x7_1 < (l0.length : Int)
  rotate_left
  ·rw [if_neg c2] at H
   have c2b0 : decide (x7_1 < (l0.length : Int)) = false := decide_eq_false c2
   clear c2
   obtain rfl := Option.some.inj H
   go_wp2
   go_ret
   exact ⟨by first | rfl | (simp; done) | (simp [*]; done), by repeat (first | exact Drawn0.refl _ | apply Drawn0.step)⟩
  rw [if_pos c2] at H
  have c2b0 : decide (x7_1 < (l0.length : Int)) = true := decide_eq_true c2
  clear c2
  by_cases c3 : 0 ≤ x7_1
  rotate_left
  ·rw [if_neg c3] at H
   exact absurd H (by simp)
  rw [if_pos c3] at H
  have c3b0 : decide (0 ≤ x7_1) = true := decide_eq_true c3
  clear c3
  by_cases c4 : x7_1 < (l0.length : Int)
  rotate_left
  ·rw [if_neg c4] at H
   exact absurd H (by simp)
  rw [if_pos c4] at H
  have c4b0 : decide (x7_1 < (l0.length : Int)) = true := decide_eq_true c4
  clear c4
  replace H := bez H
  obtain ⟨t124, A5, H⟩ := H
  try dsimp only at H
  by_cases c6 : t124 = true
  rotate_left
  ·replace c6 := Bool.eq_false_iff.mpr c6
   subst c6
   rw [if_neg (show ¬ (false = true) by decide)] at H
   obtain rfl := Option.some.inj H
   have p123 : 0 ≤ (x7_1 : Int) := of_decide_eq_true (by first | (with_reducible assumption) | assumption)
   have q123 : x7_1 < (l0.length : Int) := of_decide_eq_true (by first | (with_reducible assumption) | assumption)
   obtain ⟨ad123, e123, hx123_0⟩ := Kd.at_int HR0.out x7_1 p123 q123
   cases e123
   replace p123 := eq_true p123
   replace q123 := eq_true q123
   go_wp2_with (first | ((with_reducible refine gtC (f := 54) rfl ?_); refine clz Tryd.func54 (some 12) #[.int .i64 (rd l0 x7_1), .int .i64 (-1000), .int .i64 1000] ?_; (with_reducible refine (impl_within.calls (rd l0 x7_1) (-1000) 1000 false _ A5.out).mono ?_); rintro e w' ⟨rfl, ⟨nd, rfl⟩⟩; refine ⟨_, rfl, ?_⟩))
   go_ret
   exact ⟨by first | rfl | (simp; done) | (simp [*]; done), by repeat (first | exact Drawn0.refl _ | apply Drawn0.step)⟩
  subst c6
  rw [if_pos rfl] at H
  have H' := Az.mk H
  clear H
  have p123 : 0 ≤ (x7_1 : Int) := of_decide_eq_true (by first | (with_reducible assumption) | assumption)
  have q123 : x7_1 < (l0.length : Int) := of_decide_eq_true (by first | (with_reducible assumption) | assumption)
  obtain ⟨ad123, e123, hx123_0⟩ := Kd.at_int HR0.out x7_1 p123 q123
  cases e123
  replace p123 := eq_true p123
  replace q123 := eq_true q123
  go_wp2_with (first | ((with_reducible refine gtC (f := 54) rfl ?_); refine clz Tryd.func54 (some 12) #[.int .i64 (rd l0 x7_1), .int .i64 (-1000), .int .i64 1000] ?_; (with_reducible refine (impl_within.calls (rd l0 x7_1) (-1000) 1000 true _ A5.out).mono ?_); rintro e w' ⟨rfl, ⟨nd, rfl⟩⟩; refine ⟨_, rfl, ?_⟩))
  go_roundg k1
  case measure => have := HK1.out; omega
  case rel => exact ⟨(wrap64 (x7_1 + 1)), rq2, H', ⟨by have := HK1.out; omega⟩, by repeat (first | exact Drawn0.refl _ | apply Drawn0.step)⟩

end Go.Proofs.YtnoiijdffdpabaaDoor.P

-- By this session's driver (wip/tools/mk.py) of the kit's print program, over several statements at once. Not trusted: Lean checks it.
import Derived.Test.YtigcjehokbgclaaQWZip
import Derived.Test.YtigcjehokbgclaaQPx0
import Derived.Test.YtigcjehokbgclaaQPx2
import Derived.Test.YtigcjehokbgclaaQPx5
import Derived.Test.YtigcjehokbgclaaQPx7
import Derived.Test.YtigcjehokbgclaaQPx16
import Derived.Test.YtigcjehokbgclaaQPx18
namespace Go.Proofs.Ytigcjehokbgclaa.P
open Go.RowKit Go.Proofs.YtigcjehokbgclaaW.PrintWords Go.Proofs.YtigcjehokbgclaaW.PrintLast Go.Proofs.YtigcjehokbgclaaW.PrintMore
attribute [local go_sem] max2_int min2_int max_two min_two max_three min_three max_four min_four   -- for this text's walks alone
set_option linter.unusedVariables false
set_option linter.unusedSimpArgs false
theorem bw_19 {n : Nat} {v v' : World} (h : Below n v v' := by repeat (first | (with_reducible first | exact HB.out | apply bwA | apply pbN | apply bwD | refine bwS ?_ GE487.out | refine bwS ?_ GE503.out | refine bwS ?_ GE504.out | refine bwS ?_ GE505.out | refine bwS ?_ GE511.out | refine bwS ?_ GE512.out) | exact HB.out)) : Below n v v' := h
theorem ln_19 {P : Prop} (h : P := by (try simp only [List.map_toArray, List.map_cons, List.map_nil]); first | done | rfl | (simp only [List.length_drop, List.length_take]; rfl)) : P := h
open Option renaming bind_eq_some_iff → be
theorem z19_7 {p : Prop} (h : p := by repeat (first | (with_reducible first | exact HB.out | apply bwA | apply pbN | apply bwD | refine bwS ?_ (IsS68.ge HI0.out)) | exact HB.out)) : p := h
theorem z19_6 {p : Prop} (h : p := by repeat (first | (with_reducible first | exact HB.out | apply bwA | apply pbN | apply bwD | refine bwS ?_ (IsS68.ge HI0.out) | refine bwS ?_ GE462.out) | exact HB.out)) : p := h
theorem z19_5 {p : Prop} (h : p := by repeat (first | (with_reducible first | exact HI0.out | apply IsS68.alloc | apply IsS68.drewN | apply IsS68.drew | apply IsS68.set_1 | apply IsS68.set_2) | exact HI0.out)) : p := h
theorem z19_4 {p : Prop} (h : p := by repeat (first | (with_reducible first | exact HK.out | apply KeepBut.set_ | apply keep_drewN | apply keep_drew | apply keep_alloc | refine keep_far ?_ GW462.out _ | refine keep_far ?_ GW471.out _) | exact HK.out)) : p := h
theorem z19_3 {p : Prop} (h : p := by repeat (first | (with_reducible first | exact HI0.out | apply IsS68.alloc | apply IsS68.drewN | apply IsS68.drew | apply IsS68.set_1 | apply IsS68.set_2 | refine IsS68.far ?_ NB0_462.out _ | refine IsS68.far ?_ NB0_471.out _) | exact HI0.out)) : p := h
theorem z19_2 {p : Prop} (h : p := by repeat (first | (with_reducible first | exact HI0.out | apply IsS68.alloc | apply IsS68.drewN | apply IsS68.drew | apply IsS68.set_1 | apply IsS68.set_2 | refine IsS68.far ?_ NB0_462.out _) | exact HI0.out)) : p := h
theorem z19_1 {p : Prop} (h : p := by repeat (first | (with_reducible first | exact HK.out | apply KeepBut.set_ | apply keep_drewN | apply keep_drew | apply keep_alloc) | exact HK.out)) : p := h
theorem z19_0 {p : Prop} (h : p := by repeat (first | (with_reducible first | exact HK.out | apply KeepBut.set_ | apply keep_drewN | apply keep_drew | apply keep_alloc | refine keep_far ?_ GW462.out _) | exact HK.out)) : p := h

/-! ### spec_l1Pick: function 67 -/
def spec_l1Pick.f (s0_0 : List Int) (s0_1 : Int) (s0_2 : Int) (l1 : List ByteArray) : Option (ByteArray × Int × Int) := (spec_l1Below.f s0_0 s0_1 s0_2 (l1.length : Int)).bind fun bt449 => (if 0 ≤ bt449.1 then (if bt449.1 < (l1.length : Int) then (some (rdOf ByteArray.empty l1 bt449.1, bt449.2.1, bt449.2.2)) else (none)) else (none))
set_option maxHeartbeats 8000000 in
set_option maxRecDepth 100000 in
theorem spec_l1Pick.calls (g : Nat) (s0_0 : List Int) (s0_1 : Int) (s0_2 : Int) (A1 : Option Addr) (c1 : Nat) (l1 : List ByteArray) (r1 : ByteArray) (r2 : Int) (r3 : Int) (w0 w : World) (hI : IsS68 w0 w g s0_0 s0_1 s0_2) (hB : Below w0.heap.size w0 w) (hr1 : Kd.C Kd.string w A1 l1.length l1) (hc1 : l1.length ≤ c1) (hf1 : ∀ ad, A1 = some ad → 0 < l1.length → ad.block ≠ g) (h : spec_l1Pick.f s0_0 s0_1 s0_2 l1 = some (r1, r2, r3)) :
  Calls Try.prog 67 #[.pointer (some ⟨g, 0, none⟩), .slice A1 l1.length c1] w fun e w' => e = .returned (.string r1) ∧ IsS68 w0 w' g s0_0 r2 r3 ∧ Below w0.heap.size w0 w' ∧ KeepBut w w' g none := by
 have HR1 := Az.mk hr1
 have HC1 := Az.mk hc1
 clear hr1 hc1
 have HI0 := Az.mk hI
 have HK := Az.mk (KeepBut.refl w g none)
 have HL := Az.mk hB.size
 clear hI
 have HW0 := Az.mk hB.size
 have HB := Az.mk hB
 clear hB
 have H : ((spec_l1Below.f s0_0 s0_1 s0_2 (l1.length : Int)).bind fun bt449 => (if 0 ≤ bt449.1 then (if bt449.1 < (l1.length : Int) then (some (rdOf ByteArray.empty l1 bt449.1, bt449.2.1, bt449.2.2)) else (none)) else (none))) = some (r1, r2, r3) := h
 clear h
 replace H := bez H
 obtain ⟨⟨t449, t450, t451⟩, A3, H⟩ := H
 try dsimp only at H
 by_cases c4 : 0 ≤ t449
 rotate_left
 ·rw [if_neg c4] at H
  exact absurd H (by simp)
 rw [if_pos c4] at H
 have c4b0 : decide (0 ≤ t449) = true := decide_eq_true c4
 clear c4
 by_cases c5 : t449 < (l1.length : Int)
 rotate_left
 ·rw [if_neg c5] at H
  exact absurd H (by simp)
 rw [if_pos c5] at H
 have c5b0 : decide (t449 < (l1.length : Int)) = true := decide_eq_true c5
 clear c5
 simp only [Option.some.injEq, Prod.mk.injEq] at H
 obtain ⟨rfl, rfl, rfl⟩ := H
 go_enter Try.func67, Try.ntmps67
 go_wp2_with (first | ((with_reducible refine gtC (f := 51) rfl ?_); refine clz Try.func51 (some 9) #[.pointer (some ⟨g, 0, none⟩), .int .i64 (l1.length : Int)] ?_; (with_reducible refine (spec_l1Below.calls g s0_0 s0_1 s0_2 (l1.length : Int) t449 t450 t451 w0 _ ?side1 ?side2 A3.out).mono ?_); (case side1 => exact z19_5); (case side2 => repeat (first | (with_reducible first | exact HB.out | apply bwA | apply pbN | apply bwD | refine bwS ?_ (IsS68.ge HI0.out)) | exact HB.out)); rintro e w6 ⟨rfl, hi, hb, hk⟩; refine ⟨_, rfl, ?_⟩; replace HK := Az.mk (KeepBut.trans z19_1 hk (.inl rfl)); replace HB := Az.mk (hb); replace HI0 := Az.mk (hi); (try clear hb); (try clear hk); (try clear hi); have p452 : 0 ≤ (t449 : Int) := of_decide_eq_true (by first | (with_reducible assumption) | assumption); have q452 : t449 < (l1.length : Int) := of_decide_eq_true (by first | (with_reducible assumption) | assumption); obtain ⟨ad452, e452, hx452_0⟩ := Kd.at_string HR1.out t449 p452 q452; cases e452; replace hx452_0 := keep_cell HK.out hx452_0 (by first | (rw [add_block]; exact hf1 _ rfl (by omega)) | exact hf1 _ rfl (by omega) | exact hf1 ad452 rfl (by omega)); replace p452 := eq_true p452; replace q452 := eq_true q452))
 go_ret
 exact ⟨rq1, by repeat (first | (with_reducible first | exact HI0.out | apply IsS68.alloc | apply IsS68.drewN | apply IsS68.drew | apply IsS68.set_1 | apply IsS68.set_2) | exact HI0.out), by repeat (first | (with_reducible first | exact HB.out | apply bwA | apply pbN | apply bwD | refine bwS ?_ (IsS68.ge HI0.out)) | exact HB.out), by repeat (first | (with_reducible first | exact HK.out | apply KeepBut.set_ | apply keep_drewN | apply keep_drew | apply keep_alloc) | exact HK.out)⟩

/-! ### spec_l13Word: function 61 -/
def spec_l13Word.l0 : Nat → ByteArray → Int → List Int → Int → Int → Option (ByteArray × Int × Int)
 | 0, _, _, _, _, _ => none
 | k + 1, x5, x6, x1000, x1001, x1002 => if x6 > 0 then ((spec_l1Pick.f x1000 x1001 x1002 (([(⟨#[82]⟩ : ByteArray), (⟨#[76]⟩ : ByteArray), (⟨#[114]⟩ : ByteArray), (⟨#[108]⟩ : ByteArray)] : List ByteArray))).bind fun bt459 => (if x5.size + bt459.1.size ≤ 9223372036854775807 then (spec_l13Word.l0 k (x5 ++ bt459.1) (wrap64 (x6 - 1)) x1000 bt459.2.1 bt459.2.2) else (none))) else (some (x5, x1001, x1002))
def spec_l13Word.f (k : Nat) (s0_0 : List Int) (s0_1 : Int) (s0_2 : Int) (a1 : Int) : Option (ByteArray × Int × Int) := (spec_l1Below.f s0_0 s0_1 s0_2 (wrap64 (a1 + 1))).bind fun bt453 => (spec_l13Word.l0 k (⟨#[]⟩ : ByteArray) bt453.1 s0_0 bt453.2.1 bt453.2.2)
theorem spec_l13Word.mono_l : ∀ k, (∀ y0 y1 y2 y3 y4, LeO (spec_l13Word.l0 k y0 y1 y2 y3 y4) (spec_l13Word.l0 (k + 1) y0 y1 y2 y3 y4))
 | 0 => fun _ _ _ _ _ r h => by simp [spec_l13Word.l0] at h
 | k + 1 => by
  have ih0 := spec_l13Word.mono_l k
  have i0 := fun z0 z1 z2 z3 z4 => MoO.mk (ih0 z0 z1 z2 z3 z4)
  ·intro y0 y1 y2 y3 y4
   unfold spec_l13Word.l0
   exact mo_
theorem spec_l13Word.mono : ∀ a0 a1 a2 a3 k, LeO (spec_l13Word.f k a0 a1 a2 a3) (spec_l13Word.f (k + 1) a0 a1 a2 a3) := by
 intro a0 a1 a2 a3 k
 have ih0 := spec_l13Word.mono_l k
 have i0 := fun z0 z1 z2 z3 z4 => MoO.mk (ih0 z0 z1 z2 z3 z4)
 unfold spec_l13Word.f
 exact mo_
instance spec_l13Word.mi {a0 a1 a2 a3 k} : MoO (spec_l13Word.f k a0 a1 a2 a3) (spec_l13Word.f (k + 1) a0 a1 a2 a3) := ⟨spec_l13Word.mono _ _ _ _ _⟩
set_option maxHeartbeats 8000000 in
set_option maxRecDepth 100000 in
theorem spec_l13Word.calls (k : Nat) (g : Nat) (s0_0 : List Int) (s0_1 : Int) (s0_2 : Int) (a1 : Int) (r1 : ByteArray) (r2 : Int) (r3 : Int) (w0 w : World) (hI : IsS68 w0 w g s0_0 s0_1 s0_2) (hB : Below w0.heap.size w0 w) (h : spec_l13Word.f k s0_0 s0_1 s0_2 a1 = some (r1, r2, r3)) :
  Calls Try.prog 61 #[.pointer (some ⟨g, 0, none⟩), .int .i64 a1] w fun e w' => e = .returned (.string r1) ∧ IsS68 w0 w' g s0_0 r2 r3 ∧ Below w0.heap.size w0 w' ∧ KeepBut w w' g none := by
 have HI0 := Az.mk hI
 have HK := Az.mk (KeepBut.refl w g none)
 have HL := Az.mk hB.size
 clear hI
 have HW0 := Az.mk hB.size
 have HB := Az.mk hB
 clear hB
 have H : ((spec_l1Below.f s0_0 s0_1 s0_2 (wrap64 (a1 + 1))).bind fun bt453 => (spec_l13Word.l0 k (⟨#[]⟩ : ByteArray) bt453.1 s0_0 bt453.2.1 bt453.2.2)) = some (r1, r2, r3) := h
 clear h
 replace H := bez H
 obtain ⟨⟨t453, t454, t455⟩, A3, H⟩ := H
 try dsimp only at H
 have H' := Az.mk H
 clear H
 go_enter Try.func61, Try.ntmps61
 go_wp2_with (first | ((with_reducible refine gtC (f := 51) rfl ?_); refine clz Try.func51 (some 10) #[.pointer (some ⟨g, 0, none⟩), .int .i64 (wrap64 (a1 + 1))] ?_; (with_reducible refine (spec_l1Below.calls g s0_0 s0_1 s0_2 (wrap64 (a1 + 1)) t453 t454 t455 w0 _ ?side1 ?side2 A3.out).mono ?_); (case side1 => exact z19_5); (case side2 => repeat (first | (with_reducible first | exact HB.out | apply bwA | apply pbN | apply bwD | refine bwS ?_ (IsS68.ge HI0.out)) | exact HB.out)); rintro e w4 ⟨rfl, hi, hb, hk⟩; refine ⟨_, rfl, ?_⟩; replace HK := Az.mk (KeepBut.trans z19_1 hk (.inl rfl)); replace HB := Az.mk (hb); replace HI0 := Az.mk (hi); (try clear hb); (try clear hk); (try clear hi)))
 go_loopg [5, 6] k (fun kq v5 v6 w' => ∃ (x5_1 : ByteArray) (x6_1 : Int) (x1001_1 : Int) (x1002_1 : Int), v5 = .string x5_1 ∧ v6 = .int .i64 x6_1 ∧ Az (spec_l13Word.l0 kq x5_1 x6_1 s0_0 x1001_1 x1002_1 = some (r1, r2, r3)) ∧ Az (kq ≤ k) ∧ Az (IsS68 w0 w' g s0_0 x1001_1 x1002_1) ∧ Az (KeepBut w w' g none) ∧ Az (Below w0.heap.size w0 w'))
 case atStart => exact ⟨((⟨#[]⟩ : ByteArray)), (t453), (t454), (t455), rq2, rq2, H', ⟨Nat.le_refl _⟩, ⟨by repeat (first | (with_reducible first | exact HI0.out | apply IsS68.alloc | apply IsS68.drewN | apply IsS68.drew | apply IsS68.set_1 | apply IsS68.set_2) | exact HI0.out)⟩, ⟨by repeat (first | (with_reducible first | exact HK.out | apply KeepBut.set_ | apply keep_drewN | apply keep_drew | apply keep_alloc) | exact HK.out)⟩, ⟨by repeat (first | (with_reducible first | exact HB.out | apply bwA | apply pbN | apply bwD | refine bwS ?_ (IsS68.ge HI0.out)) | exact HB.out)⟩⟩
 clear H'
 obtain ⟨x5_1, x6_1, x1001_1, x1002_1, rfl, rfl, HA, HK1, HI0, HK, HB⟩ := hrel
 cases gk with
 | zero => exact absurd HA.out (by simp [spec_l13Word.l0])
 | succ k1 =>
  have H := HA.out
  clear HA
  simp only [spec_l13Word.l0] at H
  by_cases c5 : x6_1 > 0
  rotate_left
  ·rw [if_neg c5] at H
   have c5b0 : decide (0 < x6_1) = false := decide_eq_false c5
   clear c5
   simp only [Option.some.injEq, Prod.mk.injEq] at H
   obtain ⟨rfl, rfl, rfl⟩ := H
   go_wp2
   go_ret
   exact ⟨rq1, by repeat (first | (with_reducible first | exact HI0.out | apply IsS68.alloc | apply IsS68.drewN | apply IsS68.drew | apply IsS68.set_1 | apply IsS68.set_2) | exact HI0.out), by repeat (first | (with_reducible first | exact HB.out | apply bwA | apply pbN | apply bwD | refine bwS ?_ (IsS68.ge HI0.out)) | exact HB.out), by repeat (first | (with_reducible first | exact HK.out | apply KeepBut.set_ | apply keep_drewN | apply keep_drew | apply keep_alloc) | exact HK.out)⟩
  rw [if_pos c5] at H
  have c5b0 : decide (0 < x6_1) = true := decide_eq_true c5
  clear c5
  obtain ⟨y456, hy456⟩ : ∃ y_ : List ByteArray, y_ = (([(⟨#[82]⟩ : ByteArray), (⟨#[76]⟩ : ByteArray), (⟨#[114]⟩ : ByteArray), (⟨#[108]⟩ : ByteArray)] : List ByteArray)) := ⟨_, rfl⟩
  replace H : ((spec_l1Pick.f s0_0 x1001_1 x1002_1 y456).bind fun bt459 => (if x5_1.size + bt459.1.size ≤ 9223372036854775807 then (spec_l13Word.l0 k1 (x5_1 ++ bt459.1) (wrap64 (x6_1 - 1)) s0_0 bt459.2.1 bt459.2.2) else (none))) = some (r1, r2, r3) := by first | (rw [hy456]; with_reducible exact H) | (have H2_ := (Option.bind_some _ _).symm.trans H; rw [hy456]; with_reducible exact H2_) | (have H2_ := (Option.bind_some _ _).symm.trans H; with_reducible exact H2_) | with_reducible exact H | (rw [hy456]; exact H) | exact H
  have Ny456 := Az.mk hy456
  clear hy456
  replace H := bez H
  obtain ⟨⟨t459, t460, t461⟩, A6, H⟩ := H
  try dsimp only at H
  by_cases c7 : x5_1.size + t459.size ≤ 9223372036854775807
  rotate_left
  ·rw [if_neg c7] at H
   exact absurd H (by simp)
  rw [if_pos c7] at H
  have c7b0 := eq_true c7
  have c7b1 : decide (x5_1.size + t459.size ≤ 9223372036854775807) = true := decide_eq_true c7
  try have c7b2 : (9223372036854775807 < x5_1.size + t459.size) = False := eq_false (Nat.not_lt.2 c7)
  have H' := Az.mk H
  clear H
  go_wp2_with (first | ((with_reducible refine gtD (N := 17) rfl ?_); refine Kd.R_lit Kd.string _ 9 ?hg (N := 17) ?hd (xs := ([(⟨#[82]⟩ : ByteArray), (⟨#[76]⟩ : ByteArray), (⟨#[114]⟩ : ByteArray), (⟨#[108]⟩ : ByteArray)] : List ByteArray)) (inner := [.string (⟨#[82]⟩ : ByteArray), .string (⟨#[76]⟩ : ByteArray), .string (⟨#[114]⟩ : ByteArray), .string (⟨#[108]⟩ : ByteArray)]) (ok := fun _ => True) (okp := fun _ => True) ?hr ?hp (fun _ hk => hk) trivial (Below.refl _ _) (Nat.le_refl _) (by simp) ?_; (case hd => rfl); (case hg => rfl); (case hr => first | (go_simp; done) | (go_simp; rfl)); (case hp => exact (Reps.one (show Kd.M Kd.string _ _ _ (⟨#[82]⟩ : ByteArray) [.string (⟨#[82]⟩ : ByteArray)] from rfl) (Reps.one (show Kd.M Kd.string _ _ _ (⟨#[76]⟩ : ByteArray) [.string (⟨#[76]⟩ : ByteArray)] from rfl) (Reps.one (show Kd.M Kd.string _ _ _ (⟨#[114]⟩ : ByteArray) [.string (⟨#[114]⟩ : ByteArray)] from rfl) (Reps.one (show Kd.M Kd.string _ _ _ (⟨#[108]⟩ : ByteArray) [.string (⟨#[108]⟩ : ByteArray)] from rfl) (Reps.none _ _)))))); intro v457 w8 ho9 hb hg_ hnew_; clear hg_ hnew_; (first | rw [← Ny456.out] at ho9 | (simp only [Int.reduceToNat] at ho9; rw [← Ny456.out] at ho9)); have HO458 := Az.mk (Kd.R_lower ho9 (keep_size (w := w) (g := g) (row := none) z19_1)); replace HK := Az.mk (KeepBut.trans z19_1 (KeepBut.of_below hb g none) (.inl rfl)); replace HB := Az.mk (bwT z19_7 hb); replace HI0 := Az.mk (IsS68.below z19_5 hb); clear hb ho9; obtain ⟨Ao10, co10, eo10⟩ := Kd.R_slice HO458.out; subst eo10) | ((with_reducible refine gtC (f := 67) rfl ?_); refine clz Try.func67 (some 18) #[.pointer (some ⟨g, 0, none⟩), .slice Ao10 y456.length co10] ?_; (with_reducible refine (spec_l1Pick.calls g s0_0 x1001_1 x1002_1 _ _ y456 t459 t460 t461 w0 _ ?side1 ?side2 ?side3 ?side4 ?side5 A6.out).mono ?_); (case side1 => exact z19_5); (case side2 => repeat (first | (with_reducible first | exact HB.out | apply bwA | apply pbN | apply bwD | refine bwS ?_ (IsS68.ge HI0.out)) | exact HB.out)); (case side3 => repeat (first | exact (Kd.R_reads' HO458.out).2.2 | (with_reducible refine Kd.C_alloc ?_ _) | (with_reducible refine Kd.C_drewN ?_ _) | (with_reducible refine Kd.C_drew ?_))); (case side4 => exact (Kd.R_reads' HO458.out).2.1); (case side5 => exact far_slice (IsS68.own_ne HI0.out HO458.out (by decide))); rintro e w11 ⟨rfl, hi, hb, hk⟩; refine ⟨_, rfl, ?_⟩; replace HO458 := Az.mk (Kd.R_mono (Kd.R_keep (IsS68.apart (show IsS68 w0 _ g s0_0 x1001_1 x1002_1 from by repeat (first | (with_reducible first | exact HI0.out | apply IsS68.alloc | apply IsS68.drewN | apply IsS68.drew | apply IsS68.set_1 | apply IsS68.set_2) | exact HI0.out)) (by (with_reducible repeat (first | apply Kd.R_alloc | apply Kd.R_drewN | apply Kd.R_drew)); exact HO458.out) (by decide)) hk (fun _ h => h.2)) (fun _ h => h.1)); replace HK := Az.mk (KeepBut.trans z19_1 hk (.inl rfl)); replace HB := Az.mk (hb); replace HI0 := Az.mk (hi); (try clear hb); (try clear hk); (try clear hi)))
  go_roundg k1
  case measure => have := HK1.out; omega
  case rel => exact ⟨(x5_1 ++ t459), (wrap64 (x6_1 - 1)), (t460), (t461), rq2, rq2, H', ⟨by have := HK1.out; omega⟩, ⟨by repeat (first | (with_reducible first | exact HI0.out | apply IsS68.alloc | apply IsS68.drewN | apply IsS68.drew | apply IsS68.set_1 | apply IsS68.set_2) | exact HI0.out)⟩, ⟨by repeat (first | (with_reducible first | exact HK.out | apply KeepBut.set_ | apply keep_drewN | apply keep_drew | apply keep_alloc) | exact HK.out)⟩, ⟨by repeat (first | (with_reducible first | exact HB.out | apply bwA | apply pbN | apply bwD | refine bwS ?_ (IsS68.ge HI0.out)) | exact HB.out)⟩⟩

/-! ### spec_l13Draw: function 44 -/
def spec_l13Draw.f (k : Nat) (s0_0 : List Int) (s0_1 : Int) (s0_2 : Int) : Option (Int × Int × Int × Int × Int × Int) := (spec_l13Word.f k s0_0 s0_1 s0_2 6).bind fun bt463 => ((spec_TurnsOf.f k bt463.1).bind fun bt466 => ((spec_l1Below.f s0_0 bt463.2.1 bt463.2.2 14).bind fun bt472 => (if bt472.1 = 0 then ((spec_l1Below.f s0_0 bt472.2.1 bt472.2.2 3).bind fun bt475 => ((spec_l1Below.f s0_0 bt475.2.1 bt475.2.2 3).bind fun bt478 => ((spec_l1Below.f s0_0 bt478.2.1 bt478.2.2 3).bind fun bt481 => ((spec_l1Below.f s0_0 bt481.2.1 bt481.2.2 3).bind fun bt484 => (some (wrap64 (bt475.1 - 1), wrap64 (bt478.1 - 1), wrap64 (bt481.1 - 1), wrap64 (bt484.1 - 1), bt484.2.1, bt484.2.2)))))) else (if bt472.1 = 1 then (some ((-1), 0, 0, (-1), bt472.2.1, bt472.2.2)) else (if bt472.1 = 2 then (some (0, (-1), 1, 0, bt472.2.1, bt472.2.2)) else (some (bt466.1, bt466.2.1, bt466.2.2.1, bt466.2.2.2.1, bt472.2.1, bt472.2.2)))))))
theorem spec_l13Draw.mono : ∀ a0 a1 a2 k, LeO (spec_l13Draw.f k a0 a1 a2) (spec_l13Draw.f (k + 1) a0 a1 a2) := by
 intro a0 a1 a2 k
 unfold spec_l13Draw.f
 exact mo_
instance spec_l13Draw.mi {a0 a1 a2 k} : MoO (spec_l13Draw.f k a0 a1 a2) (spec_l13Draw.f (k + 1) a0 a1 a2) := ⟨spec_l13Draw.mono _ _ _ _⟩
set_option maxHeartbeats 8000000 in
set_option maxRecDepth 100000 in
theorem spec_l13Draw.calls (k : Nat) (g : Nat) (s0_0 : List Int) (s0_1 : Int) (s0_2 : Int) (r1 : Int) (r2 : Int) (r3 : Int) (r4 : Int) (r5 : Int) (r6 : Int) (w0 w : World) (hI : IsS68 w0 w g s0_0 s0_1 s0_2) (hB : Below w0.heap.size w0 w) (h : spec_l13Draw.f k s0_0 s0_1 s0_2 = some (r1, r2, r3, r4, r5, r6)) :
  Calls Try.prog 44 #[.pointer (some ⟨g, 0, none⟩)] w fun e w' => e = .returned (.agg #[.int .i64 r1, .int .i64 r2, .int .i64 r3, .int .i64 r4]) ∧ IsS68 w0 w' g s0_0 r5 r6 ∧ Below w0.heap.size w0 w' ∧ KeepBut w w' g none := by
 have hu41 := Try.underlying41
 have HI0 := Az.mk hI
 have HK := Az.mk (KeepBut.refl w g none)
 have HL := Az.mk hB.size
 clear hI
 have HW0 := Az.mk hB.size
 have HB := Az.mk hB
 clear hB
 have H : ((spec_l13Word.f k s0_0 s0_1 s0_2 6).bind fun bt463 => ((spec_TurnsOf.f k bt463.1).bind fun bt466 => ((spec_l1Below.f s0_0 bt463.2.1 bt463.2.2 14).bind fun bt472 => (if bt472.1 = 0 then ((spec_l1Below.f s0_0 bt472.2.1 bt472.2.2 3).bind fun bt475 => ((spec_l1Below.f s0_0 bt475.2.1 bt475.2.2 3).bind fun bt478 => ((spec_l1Below.f s0_0 bt478.2.1 bt478.2.2 3).bind fun bt481 => ((spec_l1Below.f s0_0 bt481.2.1 bt481.2.2 3).bind fun bt484 => (some (wrap64 (bt475.1 - 1), wrap64 (bt478.1 - 1), wrap64 (bt481.1 - 1), wrap64 (bt484.1 - 1), bt484.2.1, bt484.2.2)))))) else (if bt472.1 = 1 then (some ((-1), 0, 0, (-1), bt472.2.1, bt472.2.2)) else (if bt472.1 = 2 then (some (0, (-1), 1, 0, bt472.2.1, bt472.2.2)) else (some (bt466.1, bt466.2.1, bt466.2.2.1, bt466.2.2.2.1, bt472.2.1, bt472.2.2)))))))) = some (r1, r2, r3, r4, r5, r6) := h
 clear h
 replace H := bez H
 obtain ⟨⟨t463, t464, t465⟩, A2, H⟩ := H
 try dsimp only at H
 replace H := bez H
 obtain ⟨⟨t466, t467, t468, t469, t470⟩, A3, H⟩ := H
 try dsimp only at H
 replace H := bez H
 obtain ⟨⟨t472, t473, t474⟩, A4, H⟩ := H
 try dsimp only at H
 by_cases c5 : t472 = 0
 ·rw [if_pos c5] at H
  have c5b0 : (t472 == 0) = true := beq_iff_eq.mpr c5
  have c5b1 : (t472 != 0) = false := bne_eq_false_iff_eq.mpr c5
  clear c5
  replace H := bez H
  obtain ⟨⟨t475, t476, t477⟩, A6, H⟩ := H
  try dsimp only at H
  replace H := bez H
  obtain ⟨⟨t478, t479, t480⟩, A7, H⟩ := H
  try dsimp only at H
  replace H := bez H
  obtain ⟨⟨t481, t482, t483⟩, A8, H⟩ := H
  try dsimp only at H
  replace H := bez H
  obtain ⟨⟨t484, t485, t486⟩, A9, H⟩ := H
  try dsimp only at H
  simp only [Option.some.injEq, Prod.mk.injEq] at H
  obtain ⟨rfl, rfl, rfl, rfl, rfl, rfl⟩ := H
  go_enter Try.func44, Try.ntmps44
  go_wp2_with (first | ((with_reducible refine gtD (N := 2) rfl ?_); refine bx (N := 2) (cs := #[.int .i64 0, .int .i64 0, .int .i64 0, .int .i64 0]) (t := 41) ?_; intro gb462 hg w10 hbox hb; replace HB := Az.mk (bwT z19_7 hb); have BK462 := Az.mk (hbox); have GW462 := Az.mk ((by rw [hg]; exact (keep_size (w := w) (g := g) (row := none) z19_1) : w.heap.size ≤ gb462)); have GE462 := Az.mk ((Nat.le_trans HW0.out (by rw [hg]; exact (keep_size (w := w) (g := g) (row := none) z19_1) : w.heap.size ≤ gb462) : w0.heap.size ≤ gb462)); replace HK := Az.mk (KeepBut.trans z19_1 (KeepBut.of_below hb g none) (.inl rfl)); have NB0_462 := Az.mk ((by rw [hg]; exact Nat.ne_of_lt (IsS68.lt (show IsS68 w0 _ g s0_0 s0_1 s0_2 from by repeat (first | (with_reducible first | exact HI0.out | apply IsS68.alloc | apply IsS68.drewN | apply IsS68.drew | apply IsS68.set_1 | apply IsS68.set_2) | exact HI0.out))) : g ≠ gb462)); have NB462_0 := Az.mk ((by rw [hg]; exact Nat.ne_of_gt (IsS68.lt (show IsS68 w0 _ g s0_0 s0_1 s0_2 from by repeat (first | (with_reducible first | exact HI0.out | apply IsS68.alloc | apply IsS68.drewN | apply IsS68.drew | apply IsS68.set_1 | apply IsS68.set_2) | exact HI0.out))) : gb462 ≠ g)); replace HI0 := Az.mk (IsS68.below z19_5 hb); clear hb hbox hg) | ((with_reducible refine gtC (f := 61) rfl ?_); refine clz Try.func61 (some 7) #[.pointer (some ⟨g, 0, none⟩), .int .i64 6] ?_; (with_reducible refine (spec_l13Word.calls k g s0_0 s0_1 s0_2 6 t463 t464 t465 w0 _ ?side1 ?side2 A2.out).mono ?_); (case side1 => exact z19_2); (case side2 => repeat (first | (with_reducible first | exact HB.out | apply bwA | apply pbN | apply bwD | refine bwS ?_ (IsS68.ge HI0.out) | refine bwS ?_ GE462.out) | exact HB.out)); rintro e w11 ⟨rfl, hi, hb, hk⟩; refine ⟨_, rfl, ?_⟩; replace BK462 := bkk BK462 hk NB462_0; replace HK := Az.mk (KeepBut.trans z19_0 hk (.inl rfl)); replace HB := Az.mk (hb); replace HI0 := Az.mk (hi); (try clear hb); (try clear hk); (try clear hi)) | ((with_reducible refine gtC (f := 60) rfl ?_); refine clz Try.func60 (some 8) #[.string t463] ?_; (with_reducible refine (spec_TurnsOf.calls k t463 t466 t467 t468 t469 t470 _ A3.out).mono ?_); rintro e w12 ⟨rfl, hb⟩; refine ⟨_, rfl, ?_⟩; replace BK462 := bkz BK462 hb; replace HK := Az.mk (KeepBut.trans z19_0 (KeepBut.of_below hb g none) (.inl rfl)); replace HB := Az.mk (bwT z19_6 hb); replace HI0 := Az.mk (IsS68.below z19_2 hb); (try clear hb)) | ((with_reducible refine gtD (N := 3) rfl ?_); refine bx (N := 3) (cs := #[.int .i64 0, .int .i64 0, .int .i64 0, .int .i64 0]) (t := 41) ?_; intro gb471 hg w13 hbox hb; replace HB := Az.mk (bwT z19_6 hb); have BK471 := Az.mk (hbox); have GW471 := Az.mk ((by rw [hg]; exact (keep_size (w := w) (g := g) (row := none) z19_0) : w.heap.size ≤ gb471)); have GE471 := Az.mk ((Nat.le_trans HW0.out (by rw [hg]; exact (keep_size (w := w) (g := g) (row := none) z19_0) : w.heap.size ≤ gb471) : w0.heap.size ≤ gb471)); replace HK := Az.mk (KeepBut.trans z19_0 (KeepBut.of_below hb g none) (.inl rfl)); have NB462_471 := nlt BK462 hg; have NB471_462 := ngt BK462 hg; replace BK462 := bkz BK462 hb; have NB0_471 := Az.mk ((by rw [hg]; exact Nat.ne_of_lt (IsS68.lt (show IsS68 w0 _ g s0_0 t464 t465 from by repeat (first | (with_reducible first | exact HI0.out | apply IsS68.alloc | apply IsS68.drewN | apply IsS68.drew | apply IsS68.set_1 | apply IsS68.set_2 | refine IsS68.far ?_ NB0_462.out _) | exact HI0.out))) : g ≠ gb471)); have NB471_0 := Az.mk ((by rw [hg]; exact Nat.ne_of_gt (IsS68.lt (show IsS68 w0 _ g s0_0 t464 t465 from by repeat (first | (with_reducible first | exact HI0.out | apply IsS68.alloc | apply IsS68.drewN | apply IsS68.drew | apply IsS68.set_1 | apply IsS68.set_2 | refine IsS68.far ?_ NB0_462.out _) | exact HI0.out))) : gb471 ≠ g)); replace HI0 := Az.mk (IsS68.below z19_2 hb); clear hb hbox hg; have hnb14 := NB471_462.out; have hnc14 := NB462_471.out; have hnb15 := NB471_0.out; have hnc15 := NB0_471.out; obtain ⟨hcz16_0, hcz16_1, hcz16_2, hcz16_3, hfz16_0, hfz16_1, hfz16_2, hfz16_3⟩ := bq4 BK471) | ((with_reducible refine gtC (f := 51) rfl ?_); refine clz Try.func51 (some 12) #[.pointer (some ⟨g, 0, none⟩), .int .i64 14] ?_; (with_reducible refine (spec_l1Below.calls g s0_0 t464 t465 14 t472 t473 t474 w0 _ ?side1 ?side2 A4.out).mono ?_); (case side1 => exact z19_3); (case side2 => repeat (first | (with_reducible first | exact HB.out | apply bwA | apply pbN | apply bwD | refine bwS ?_ (IsS68.ge HI0.out) | refine bwS ?_ GE462.out | refine bwS ?_ GE471.out) | exact HB.out)); rintro e w17 ⟨rfl, hi, hb, hk⟩; refine ⟨_, rfl, ?_⟩; replace BK462 := Az.mk (KeepBut.blk hk (g' := gb462) (o := .cells #[.int .i64 0, .int .i64 0, .int .i64 0, .int .i64 0] 41 (0, 0)) bkv NB462_0.out (by simp)); replace BK471 := Az.mk (KeepBut.blk hk (g' := gb471) (o := .cells #[.int .i64 t466, .int .i64 t467, .int .i64 t468, .int .i64 t469] 41 (0, 0)) bkv NB471_0.out (by simp)); replace HK := Az.mk (KeepBut.trans z19_4 hk (.inl rfl)); replace HB := Az.mk (hb); replace HI0 := Az.mk (hi); (try clear hb); (try clear hk); (try clear hi)) | ((with_reducible refine gtC (f := 51) rfl ?_); refine clz Try.func51 (some 16) #[.pointer (some ⟨g, 0, none⟩), .int .i64 3] ?_; (with_reducible refine (spec_l1Below.calls g s0_0 t473 t474 3 t475 t476 t477 w0 _ ?side1 ?side2 A6.out).mono ?_); (case side1 => exact z19_3); (case side2 => repeat (first | (with_reducible first | exact HB.out | apply bwA | apply pbN | apply bwD | refine bwS ?_ (IsS68.ge HI0.out) | refine bwS ?_ GE462.out | refine bwS ?_ GE471.out) | exact HB.out)); rintro e w18 ⟨rfl, hi, hb, hk⟩; refine ⟨_, rfl, ?_⟩; replace BK462 := bkk BK462 hk NB462_0; replace BK471 := bkk BK471 hk NB471_0; replace HK := Az.mk (KeepBut.trans z19_4 hk (.inl rfl)); replace HB := Az.mk (hb); replace HI0 := Az.mk (hi); (try clear hb); (try clear hk); (try clear hi)) | ((with_reducible refine gtC (f := 51) rfl ?_); refine clz Try.func51 (some 19) #[.pointer (some ⟨g, 0, none⟩), .int .i64 3] ?_; (with_reducible refine (spec_l1Below.calls g s0_0 t476 t477 3 t478 t479 t480 w0 _ ?side1 ?side2 A7.out).mono ?_); (case side1 => exact z19_3); (case side2 => repeat (first | (with_reducible first | exact HB.out | apply bwA | apply pbN | apply bwD | refine bwS ?_ (IsS68.ge HI0.out) | refine bwS ?_ GE462.out | refine bwS ?_ GE471.out) | exact HB.out)); rintro e w19 ⟨rfl, hi, hb, hk⟩; refine ⟨_, rfl, ?_⟩; replace BK462 := bkk BK462 hk NB462_0; replace BK471 := bkk BK471 hk NB471_0; replace HK := Az.mk (KeepBut.trans z19_4 hk (.inl rfl)); replace HB := Az.mk (hb); replace HI0 := Az.mk (hi); (try clear hb); (try clear hk); (try clear hi)) | ((with_reducible refine gtC (f := 51) rfl ?_); refine clz Try.func51 (some 22) #[.pointer (some ⟨g, 0, none⟩), .int .i64 3] ?_; (with_reducible refine (spec_l1Below.calls g s0_0 t479 t480 3 t481 t482 t483 w0 _ ?side1 ?side2 A8.out).mono ?_); (case side1 => exact z19_3); (case side2 => repeat (first | (with_reducible first | exact HB.out | apply bwA | apply pbN | apply bwD | refine bwS ?_ (IsS68.ge HI0.out) | refine bwS ?_ GE462.out | refine bwS ?_ GE471.out) | exact HB.out)); rintro e w20 ⟨rfl, hi, hb, hk⟩; refine ⟨_, rfl, ?_⟩; replace BK462 := bkk BK462 hk NB462_0; replace BK471 := bkk BK471 hk NB471_0; replace HK := Az.mk (KeepBut.trans z19_4 hk (.inl rfl)); replace HB := Az.mk (hb); replace HI0 := Az.mk (hi); (try clear hb); (try clear hk); (try clear hi)) | ((with_reducible refine gtC (f := 51) rfl ?_); refine clz Try.func51 (some 25) #[.pointer (some ⟨g, 0, none⟩), .int .i64 3] ?_; (with_reducible refine (spec_l1Below.calls g s0_0 t482 t483 3 t484 t485 t486 w0 _ ?side1 ?side2 A9.out).mono ?_); (case side1 => exact z19_3); (case side2 => repeat (first | (with_reducible first | exact HB.out | apply bwA | apply pbN | apply bwD | refine bwS ?_ (IsS68.ge HI0.out) | refine bwS ?_ GE462.out | refine bwS ?_ GE471.out) | exact HB.out)); rintro e w21 ⟨rfl, hi, hb, hk⟩; refine ⟨_, rfl, ?_⟩; replace BK462 := bkk BK462 hk NB462_0; replace BK471 := bkk BK471 hk NB471_0; replace HK := Az.mk (KeepBut.trans z19_4 hk (.inl rfl)); replace HB := Az.mk (hb); replace HI0 := Az.mk (hi); (try clear hb); (try clear hk); (try clear hi); have hnb22 := NB462_0.out; have hnc22 := NB0_462.out; obtain ⟨hcz23_0, hcz23_1, hcz23_2, hcz23_3, hfz23_0, hfz23_1, hfz23_2, hfz23_3⟩ := bq4 BK462))
  refine bodyPost_ret (results_cell_row rfl _ _ gb462 41 #[.int .i64 (wrap64 (t475 - 1)), .int .i64 (wrap64 (t478 - 1)), .int .i64 (wrap64 (t481 - 1)), .int .i64 (wrap64 (t484 - 1))] (0, 0) _ rfl bkv Try.underlying41 rfl (by kernel_rfl)) rfl ?_
  exact ⟨rq1, by repeat (first | (with_reducible first | exact HI0.out | apply IsS68.alloc | apply IsS68.drewN | apply IsS68.drew | apply IsS68.set_1 | apply IsS68.set_2 | refine IsS68.far ?_ NB0_462.out _ | refine IsS68.far ?_ NB0_471.out _) | exact HI0.out), by repeat (first | (with_reducible first | exact HB.out | apply bwA | apply pbN | apply bwD | refine bwS ?_ (IsS68.ge HI0.out) | refine bwS ?_ GE462.out | refine bwS ?_ GE471.out) | exact HB.out), by repeat (first | (with_reducible first | exact HK.out | apply KeepBut.set_ | apply keep_drewN | apply keep_drew | apply keep_alloc | refine keep_far ?_ GW462.out _ | refine keep_far ?_ GW471.out _) | exact HK.out)⟩
 rw [if_neg c5] at H
 have c5b0 : (t472 == 0) = false := beq_eq_false_iff_ne.mpr c5
 have c5b1 : (t472 != 0) = true := bne_iff_ne.mpr c5
 by_cases c24 : t472 = 1
 ·rw [if_pos c24] at H
  have c24b0 : (t472 == 1) = true := beq_iff_eq.mpr c24
  have c24b1 : (t472 != 1) = false := bne_eq_false_iff_eq.mpr c24
  clear c24
  simp only [Option.some.injEq, Prod.mk.injEq] at H
  obtain ⟨rfl, rfl, rfl, rfl, rfl, rfl⟩ := H
  go_enter Try.func44, Try.ntmps44
  go_wp2_with (first | ((with_reducible refine gtD (N := 2) rfl ?_); refine bx (N := 2) (cs := #[.int .i64 0, .int .i64 0, .int .i64 0, .int .i64 0]) (t := 41) ?_; intro gb462 hg w25 hbox hb; replace HB := Az.mk (bwT z19_7 hb); have BK462 := Az.mk (hbox); have GW462 := Az.mk ((by rw [hg]; exact (keep_size (w := w) (g := g) (row := none) z19_1) : w.heap.size ≤ gb462)); have GE462 := Az.mk ((Nat.le_trans HW0.out (by rw [hg]; exact (keep_size (w := w) (g := g) (row := none) z19_1) : w.heap.size ≤ gb462) : w0.heap.size ≤ gb462)); replace HK := Az.mk (KeepBut.trans z19_1 (KeepBut.of_below hb g none) (.inl rfl)); have NB0_462 := Az.mk ((by rw [hg]; exact Nat.ne_of_lt (IsS68.lt (show IsS68 w0 _ g s0_0 s0_1 s0_2 from by repeat (first | (with_reducible first | exact HI0.out | apply IsS68.alloc | apply IsS68.drewN | apply IsS68.drew | apply IsS68.set_1 | apply IsS68.set_2) | exact HI0.out))) : g ≠ gb462)); have NB462_0 := Az.mk ((by rw [hg]; exact Nat.ne_of_gt (IsS68.lt (show IsS68 w0 _ g s0_0 s0_1 s0_2 from by repeat (first | (with_reducible first | exact HI0.out | apply IsS68.alloc | apply IsS68.drewN | apply IsS68.drew | apply IsS68.set_1 | apply IsS68.set_2) | exact HI0.out))) : gb462 ≠ g)); replace HI0 := Az.mk (IsS68.below z19_5 hb); clear hb hbox hg) | ((with_reducible refine gtC (f := 61) rfl ?_); refine clz Try.func61 (some 7) #[.pointer (some ⟨g, 0, none⟩), .int .i64 6] ?_; (with_reducible refine (spec_l13Word.calls k g s0_0 s0_1 s0_2 6 t463 t464 t465 w0 _ ?side1 ?side2 A2.out).mono ?_); (case side1 => exact z19_2); (case side2 => repeat (first | (with_reducible first | exact HB.out | apply bwA | apply pbN | apply bwD | refine bwS ?_ (IsS68.ge HI0.out) | refine bwS ?_ GE462.out) | exact HB.out)); rintro e w26 ⟨rfl, hi, hb, hk⟩; refine ⟨_, rfl, ?_⟩; replace BK462 := bkk BK462 hk NB462_0; replace HK := Az.mk (KeepBut.trans z19_0 hk (.inl rfl)); replace HB := Az.mk (hb); replace HI0 := Az.mk (hi); (try clear hb); (try clear hk); (try clear hi)) | ((with_reducible refine gtC (f := 60) rfl ?_); refine clz Try.func60 (some 8) #[.string t463] ?_; (with_reducible refine (spec_TurnsOf.calls k t463 t466 t467 t468 t469 t470 _ A3.out).mono ?_); rintro e w27 ⟨rfl, hb⟩; refine ⟨_, rfl, ?_⟩; replace BK462 := bkz BK462 hb; replace HK := Az.mk (KeepBut.trans z19_0 (KeepBut.of_below hb g none) (.inl rfl)); replace HB := Az.mk (bwT z19_6 hb); replace HI0 := Az.mk (IsS68.below z19_2 hb); (try clear hb)) | ((with_reducible refine gtD (N := 3) rfl ?_); refine bx (N := 3) (cs := #[.int .i64 0, .int .i64 0, .int .i64 0, .int .i64 0]) (t := 41) ?_; intro gb471 hg w28 hbox hb; replace HB := Az.mk (bwT z19_6 hb); have BK471 := Az.mk (hbox); have GW471 := Az.mk ((by rw [hg]; exact (keep_size (w := w) (g := g) (row := none) z19_0) : w.heap.size ≤ gb471)); have GE471 := Az.mk ((Nat.le_trans HW0.out (by rw [hg]; exact (keep_size (w := w) (g := g) (row := none) z19_0) : w.heap.size ≤ gb471) : w0.heap.size ≤ gb471)); replace HK := Az.mk (KeepBut.trans z19_0 (KeepBut.of_below hb g none) (.inl rfl)); have NB462_471 := nlt BK462 hg; have NB471_462 := ngt BK462 hg; replace BK462 := bkz BK462 hb; have NB0_471 := Az.mk ((by rw [hg]; exact Nat.ne_of_lt (IsS68.lt (show IsS68 w0 _ g s0_0 t464 t465 from by repeat (first | (with_reducible first | exact HI0.out | apply IsS68.alloc | apply IsS68.drewN | apply IsS68.drew | apply IsS68.set_1 | apply IsS68.set_2 | refine IsS68.far ?_ NB0_462.out _) | exact HI0.out))) : g ≠ gb471)); have NB471_0 := Az.mk ((by rw [hg]; exact Nat.ne_of_gt (IsS68.lt (show IsS68 w0 _ g s0_0 t464 t465 from by repeat (first | (with_reducible first | exact HI0.out | apply IsS68.alloc | apply IsS68.drewN | apply IsS68.drew | apply IsS68.set_1 | apply IsS68.set_2 | refine IsS68.far ?_ NB0_462.out _) | exact HI0.out))) : gb471 ≠ g)); replace HI0 := Az.mk (IsS68.below z19_2 hb); clear hb hbox hg; have hnb29 := NB471_462.out; have hnc29 := NB462_471.out; have hnb30 := NB471_0.out; have hnc30 := NB0_471.out; obtain ⟨hcz31_0, hcz31_1, hcz31_2, hcz31_3, hfz31_0, hfz31_1, hfz31_2, hfz31_3⟩ := bq4 BK471) | ((with_reducible refine gtC (f := 51) rfl ?_); refine clz Try.func51 (some 12) #[.pointer (some ⟨g, 0, none⟩), .int .i64 14] ?_; (with_reducible refine (spec_l1Below.calls g s0_0 t464 t465 14 t472 t473 t474 w0 _ ?side1 ?side2 A4.out).mono ?_); (case side1 => exact z19_3); (case side2 => repeat (first | (with_reducible first | exact HB.out | apply bwA | apply pbN | apply bwD | refine bwS ?_ (IsS68.ge HI0.out) | refine bwS ?_ GE462.out | refine bwS ?_ GE471.out) | exact HB.out)); rintro e w32 ⟨rfl, hi, hb, hk⟩; refine ⟨_, rfl, ?_⟩; replace BK462 := Az.mk (KeepBut.blk hk (g' := gb462) (o := .cells #[.int .i64 0, .int .i64 0, .int .i64 0, .int .i64 0] 41 (0, 0)) bkv NB462_0.out (by simp)); replace BK471 := Az.mk (KeepBut.blk hk (g' := gb471) (o := .cells #[.int .i64 t466, .int .i64 t467, .int .i64 t468, .int .i64 t469] 41 (0, 0)) bkv NB471_0.out (by simp)); replace HK := Az.mk (KeepBut.trans z19_4 hk (.inl rfl)); replace HB := Az.mk (hb); replace HI0 := Az.mk (hi); (try clear hb); (try clear hk); (try clear hi); have hnb33 := NB462_0.out; have hnc33 := NB0_462.out; obtain ⟨hcz34_0, hcz34_1, hcz34_2, hcz34_3, hfz34_0, hfz34_1, hfz34_2, hfz34_3⟩ := bq4 BK462))
  refine bodyPost_ret (results_cell_row rfl _ _ gb462 41 #[.int .i64 (-1), .int .i64 0, .int .i64 0, .int .i64 (-1)] (0, 0) _ rfl bkv Try.underlying41 rfl (by kernel_rfl)) rfl ?_
  exact ⟨rq1, by repeat (first | (with_reducible first | exact HI0.out | apply IsS68.alloc | apply IsS68.drewN | apply IsS68.drew | apply IsS68.set_1 | apply IsS68.set_2 | refine IsS68.far ?_ NB0_462.out _ | refine IsS68.far ?_ NB0_471.out _) | exact HI0.out), by repeat (first | (with_reducible first | exact HB.out | apply bwA | apply pbN | apply bwD | refine bwS ?_ (IsS68.ge HI0.out) | refine bwS ?_ GE462.out | refine bwS ?_ GE471.out) | exact HB.out), by repeat (first | (with_reducible first | exact HK.out | apply KeepBut.set_ | apply keep_drewN | apply keep_drew | apply keep_alloc | refine keep_far ?_ GW462.out _ | refine keep_far ?_ GW471.out _) | exact HK.out)⟩
 rw [if_neg c24] at H
 have c24b0 : (t472 == 1) = false := beq_eq_false_iff_ne.mpr c24
 have c24b1 : (t472 != 1) = true := bne_iff_ne.mpr c24
 by_cases c35 : t472 = 2
 rotate_left
 ·rw [if_neg c35] at H
  have c35b0 : (t472 == 2) = false := beq_eq_false_iff_ne.mpr c35
  have c35b1 : (t472 != 2) = true := bne_iff_ne.mpr c35
  simp only [Option.some.injEq, Prod.mk.injEq] at H
  obtain ⟨rfl, rfl, rfl, rfl, rfl, rfl⟩ := H
  go_enter Try.func44, Try.ntmps44
  go_wp2_with (first | ((with_reducible refine gtD (N := 2) rfl ?_); refine bx (N := 2) (cs := #[.int .i64 0, .int .i64 0, .int .i64 0, .int .i64 0]) (t := 41) ?_; intro gb462 hg w46 hbox hb; replace HB := Az.mk (bwT z19_7 hb); have BK462 := Az.mk (hbox); have GW462 := Az.mk ((by rw [hg]; exact (keep_size (w := w) (g := g) (row := none) z19_1) : w.heap.size ≤ gb462)); have GE462 := Az.mk ((Nat.le_trans HW0.out (by rw [hg]; exact (keep_size (w := w) (g := g) (row := none) z19_1) : w.heap.size ≤ gb462) : w0.heap.size ≤ gb462)); replace HK := Az.mk (KeepBut.trans z19_1 (KeepBut.of_below hb g none) (.inl rfl)); have NB0_462 := Az.mk ((by rw [hg]; exact Nat.ne_of_lt (IsS68.lt (show IsS68 w0 _ g s0_0 s0_1 s0_2 from by repeat (first | (with_reducible first | exact HI0.out | apply IsS68.alloc | apply IsS68.drewN | apply IsS68.drew | apply IsS68.set_1 | apply IsS68.set_2) | exact HI0.out))) : g ≠ gb462)); have NB462_0 := Az.mk ((by rw [hg]; exact Nat.ne_of_gt (IsS68.lt (show IsS68 w0 _ g s0_0 s0_1 s0_2 from by repeat (first | (with_reducible first | exact HI0.out | apply IsS68.alloc | apply IsS68.drewN | apply IsS68.drew | apply IsS68.set_1 | apply IsS68.set_2) | exact HI0.out))) : gb462 ≠ g)); replace HI0 := Az.mk (IsS68.below z19_5 hb); clear hb hbox hg) | ((with_reducible refine gtC (f := 61) rfl ?_); refine clz Try.func61 (some 7) #[.pointer (some ⟨g, 0, none⟩), .int .i64 6] ?_; (with_reducible refine (spec_l13Word.calls k g s0_0 s0_1 s0_2 6 t463 t464 t465 w0 _ ?side1 ?side2 A2.out).mono ?_); (case side1 => exact z19_2); (case side2 => repeat (first | (with_reducible first | exact HB.out | apply bwA | apply pbN | apply bwD | refine bwS ?_ (IsS68.ge HI0.out) | refine bwS ?_ GE462.out) | exact HB.out)); rintro e w47 ⟨rfl, hi, hb, hk⟩; refine ⟨_, rfl, ?_⟩; replace BK462 := bkk BK462 hk NB462_0; replace HK := Az.mk (KeepBut.trans z19_0 hk (.inl rfl)); replace HB := Az.mk (hb); replace HI0 := Az.mk (hi); (try clear hb); (try clear hk); (try clear hi)) | ((with_reducible refine gtC (f := 60) rfl ?_); refine clz Try.func60 (some 8) #[.string t463] ?_; (with_reducible refine (spec_TurnsOf.calls k t463 t466 t467 t468 t469 t470 _ A3.out).mono ?_); rintro e w48 ⟨rfl, hb⟩; refine ⟨_, rfl, ?_⟩; replace BK462 := bkz BK462 hb; replace HK := Az.mk (KeepBut.trans z19_0 (KeepBut.of_below hb g none) (.inl rfl)); replace HB := Az.mk (bwT z19_6 hb); replace HI0 := Az.mk (IsS68.below z19_2 hb); (try clear hb)) | ((with_reducible refine gtD (N := 3) rfl ?_); refine bx (N := 3) (cs := #[.int .i64 0, .int .i64 0, .int .i64 0, .int .i64 0]) (t := 41) ?_; intro gb471 hg w49 hbox hb; replace HB := Az.mk (bwT z19_6 hb); have BK471 := Az.mk (hbox); have GW471 := Az.mk ((by rw [hg]; exact (keep_size (w := w) (g := g) (row := none) z19_0) : w.heap.size ≤ gb471)); have GE471 := Az.mk ((Nat.le_trans HW0.out (by rw [hg]; exact (keep_size (w := w) (g := g) (row := none) z19_0) : w.heap.size ≤ gb471) : w0.heap.size ≤ gb471)); replace HK := Az.mk (KeepBut.trans z19_0 (KeepBut.of_below hb g none) (.inl rfl)); have NB462_471 := nlt BK462 hg; have NB471_462 := ngt BK462 hg; replace BK462 := bkz BK462 hb; have NB0_471 := Az.mk ((by rw [hg]; exact Nat.ne_of_lt (IsS68.lt (show IsS68 w0 _ g s0_0 t464 t465 from by repeat (first | (with_reducible first | exact HI0.out | apply IsS68.alloc | apply IsS68.drewN | apply IsS68.drew | apply IsS68.set_1 | apply IsS68.set_2 | refine IsS68.far ?_ NB0_462.out _) | exact HI0.out))) : g ≠ gb471)); have NB471_0 := Az.mk ((by rw [hg]; exact Nat.ne_of_gt (IsS68.lt (show IsS68 w0 _ g s0_0 t464 t465 from by repeat (first | (with_reducible first | exact HI0.out | apply IsS68.alloc | apply IsS68.drewN | apply IsS68.drew | apply IsS68.set_1 | apply IsS68.set_2 | refine IsS68.far ?_ NB0_462.out _) | exact HI0.out))) : gb471 ≠ g)); replace HI0 := Az.mk (IsS68.below z19_2 hb); clear hb hbox hg; have hnb50 := NB471_462.out; have hnc50 := NB462_471.out; have hnb51 := NB471_0.out; have hnc51 := NB0_471.out; obtain ⟨hcz52_0, hcz52_1, hcz52_2, hcz52_3, hfz52_0, hfz52_1, hfz52_2, hfz52_3⟩ := bq4 BK471) | ((with_reducible refine gtC (f := 51) rfl ?_); refine clz Try.func51 (some 12) #[.pointer (some ⟨g, 0, none⟩), .int .i64 14] ?_; (with_reducible refine (spec_l1Below.calls g s0_0 t464 t465 14 t472 t473 t474 w0 _ ?side1 ?side2 A4.out).mono ?_); (case side1 => exact z19_3); (case side2 => repeat (first | (with_reducible first | exact HB.out | apply bwA | apply pbN | apply bwD | refine bwS ?_ (IsS68.ge HI0.out) | refine bwS ?_ GE462.out | refine bwS ?_ GE471.out) | exact HB.out)); rintro e w53 ⟨rfl, hi, hb, hk⟩; refine ⟨_, rfl, ?_⟩; replace BK462 := Az.mk (KeepBut.blk hk (g' := gb462) (o := .cells #[.int .i64 0, .int .i64 0, .int .i64 0, .int .i64 0] 41 (0, 0)) bkv NB462_0.out (by simp)); replace BK471 := Az.mk (KeepBut.blk hk (g' := gb471) (o := .cells #[.int .i64 t466, .int .i64 t467, .int .i64 t468, .int .i64 t469] 41 (0, 0)) bkv NB471_0.out (by simp)); replace HK := Az.mk (KeepBut.trans z19_4 hk (.inl rfl)); replace HB := Az.mk (hb); replace HI0 := Az.mk (hi); (try clear hb); (try clear hk); (try clear hi); obtain ⟨hcz54_0, hcz54_1, hcz54_2, hcz54_3, hfz54_0, hfz54_1, hfz54_2, hfz54_3⟩ := bq4 BK471; have hnb55 := NB462_0.out; have hnc55 := NB0_462.out; obtain ⟨hcz56_0, hcz56_1, hcz56_2, hcz56_3, hfz56_0, hfz56_1, hfz56_2, hfz56_3⟩ := bq4 BK462))
  refine bodyPost_ret (results_cell_row rfl _ _ gb462 41 #[.int .i64 t466, .int .i64 t467, .int .i64 t468, .int .i64 t469] (0, 0) _ rfl bkv Try.underlying41 rfl (by kernel_rfl)) rfl ?_
  exact ⟨rq1, by repeat (first | (with_reducible first | exact HI0.out | apply IsS68.alloc | apply IsS68.drewN | apply IsS68.drew | apply IsS68.set_1 | apply IsS68.set_2 | refine IsS68.far ?_ NB0_462.out _ | refine IsS68.far ?_ NB0_471.out _) | exact HI0.out), by repeat (first | (with_reducible first | exact HB.out | apply bwA | apply pbN | apply bwD | refine bwS ?_ (IsS68.ge HI0.out) | refine bwS ?_ GE462.out | refine bwS ?_ GE471.out) | exact HB.out), by repeat (first | (with_reducible first | exact HK.out | apply KeepBut.set_ | apply keep_drewN | apply keep_drew | apply keep_alloc | refine keep_far ?_ GW462.out _ | refine keep_far ?_ GW471.out _) | exact HK.out)⟩
 rw [if_pos c35] at H
 have c35b0 : (t472 == 2) = true := beq_iff_eq.mpr c35
 have c35b1 : (t472 != 2) = false := bne_eq_false_iff_eq.mpr c35
 clear c35
 simp only [Option.some.injEq, Prod.mk.injEq] at H
 obtain ⟨rfl, rfl, rfl, rfl, rfl, rfl⟩ := H
 go_enter Try.func44, Try.ntmps44
 go_wp2_with (first | ((with_reducible refine gtD (N := 2) rfl ?_); refine bx (N := 2) (cs := #[.int .i64 0, .int .i64 0, .int .i64 0, .int .i64 0]) (t := 41) ?_; intro gb462 hg w36 hbox hb; replace HB := Az.mk (bwT z19_7 hb); have BK462 := Az.mk (hbox); have GW462 := Az.mk ((by rw [hg]; exact (keep_size (w := w) (g := g) (row := none) z19_1) : w.heap.size ≤ gb462)); have GE462 := Az.mk ((Nat.le_trans HW0.out (by rw [hg]; exact (keep_size (w := w) (g := g) (row := none) z19_1) : w.heap.size ≤ gb462) : w0.heap.size ≤ gb462)); replace HK := Az.mk (KeepBut.trans z19_1 (KeepBut.of_below hb g none) (.inl rfl)); have NB0_462 := Az.mk ((by rw [hg]; exact Nat.ne_of_lt (IsS68.lt (show IsS68 w0 _ g s0_0 s0_1 s0_2 from by repeat (first | (with_reducible first | exact HI0.out | apply IsS68.alloc | apply IsS68.drewN | apply IsS68.drew | apply IsS68.set_1 | apply IsS68.set_2) | exact HI0.out))) : g ≠ gb462)); have NB462_0 := Az.mk ((by rw [hg]; exact Nat.ne_of_gt (IsS68.lt (show IsS68 w0 _ g s0_0 s0_1 s0_2 from by repeat (first | (with_reducible first | exact HI0.out | apply IsS68.alloc | apply IsS68.drewN | apply IsS68.drew | apply IsS68.set_1 | apply IsS68.set_2) | exact HI0.out))) : gb462 ≠ g)); replace HI0 := Az.mk (IsS68.below z19_5 hb); clear hb hbox hg) | ((with_reducible refine gtC (f := 61) rfl ?_); refine clz Try.func61 (some 7) #[.pointer (some ⟨g, 0, none⟩), .int .i64 6] ?_; (with_reducible refine (spec_l13Word.calls k g s0_0 s0_1 s0_2 6 t463 t464 t465 w0 _ ?side1 ?side2 A2.out).mono ?_); (case side1 => exact z19_2); (case side2 => repeat (first | (with_reducible first | exact HB.out | apply bwA | apply pbN | apply bwD | refine bwS ?_ (IsS68.ge HI0.out) | refine bwS ?_ GE462.out) | exact HB.out)); rintro e w37 ⟨rfl, hi, hb, hk⟩; refine ⟨_, rfl, ?_⟩; replace BK462 := bkk BK462 hk NB462_0; replace HK := Az.mk (KeepBut.trans z19_0 hk (.inl rfl)); replace HB := Az.mk (hb); replace HI0 := Az.mk (hi); (try clear hb); (try clear hk); (try clear hi)) | ((with_reducible refine gtC (f := 60) rfl ?_); refine clz Try.func60 (some 8) #[.string t463] ?_; (with_reducible refine (spec_TurnsOf.calls k t463 t466 t467 t468 t469 t470 _ A3.out).mono ?_); rintro e w38 ⟨rfl, hb⟩; refine ⟨_, rfl, ?_⟩; replace BK462 := bkz BK462 hb; replace HK := Az.mk (KeepBut.trans z19_0 (KeepBut.of_below hb g none) (.inl rfl)); replace HB := Az.mk (bwT z19_6 hb); replace HI0 := Az.mk (IsS68.below z19_2 hb); (try clear hb)) | ((with_reducible refine gtD (N := 3) rfl ?_); refine bx (N := 3) (cs := #[.int .i64 0, .int .i64 0, .int .i64 0, .int .i64 0]) (t := 41) ?_; intro gb471 hg w39 hbox hb; replace HB := Az.mk (bwT z19_6 hb); have BK471 := Az.mk (hbox); have GW471 := Az.mk ((by rw [hg]; exact (keep_size (w := w) (g := g) (row := none) z19_0) : w.heap.size ≤ gb471)); have GE471 := Az.mk ((Nat.le_trans HW0.out (by rw [hg]; exact (keep_size (w := w) (g := g) (row := none) z19_0) : w.heap.size ≤ gb471) : w0.heap.size ≤ gb471)); replace HK := Az.mk (KeepBut.trans z19_0 (KeepBut.of_below hb g none) (.inl rfl)); have NB462_471 := nlt BK462 hg; have NB471_462 := ngt BK462 hg; replace BK462 := bkz BK462 hb; have NB0_471 := Az.mk ((by rw [hg]; exact Nat.ne_of_lt (IsS68.lt (show IsS68 w0 _ g s0_0 t464 t465 from by repeat (first | (with_reducible first | exact HI0.out | apply IsS68.alloc | apply IsS68.drewN | apply IsS68.drew | apply IsS68.set_1 | apply IsS68.set_2 | refine IsS68.far ?_ NB0_462.out _) | exact HI0.out))) : g ≠ gb471)); have NB471_0 := Az.mk ((by rw [hg]; exact Nat.ne_of_gt (IsS68.lt (show IsS68 w0 _ g s0_0 t464 t465 from by repeat (first | (with_reducible first | exact HI0.out | apply IsS68.alloc | apply IsS68.drewN | apply IsS68.drew | apply IsS68.set_1 | apply IsS68.set_2 | refine IsS68.far ?_ NB0_462.out _) | exact HI0.out))) : gb471 ≠ g)); replace HI0 := Az.mk (IsS68.below z19_2 hb); clear hb hbox hg; have hnb40 := NB471_462.out; have hnc40 := NB462_471.out; have hnb41 := NB471_0.out; have hnc41 := NB0_471.out; obtain ⟨hcz42_0, hcz42_1, hcz42_2, hcz42_3, hfz42_0, hfz42_1, hfz42_2, hfz42_3⟩ := bq4 BK471) | ((with_reducible refine gtC (f := 51) rfl ?_); refine clz Try.func51 (some 12) #[.pointer (some ⟨g, 0, none⟩), .int .i64 14] ?_; (with_reducible refine (spec_l1Below.calls g s0_0 t464 t465 14 t472 t473 t474 w0 _ ?side1 ?side2 A4.out).mono ?_); (case side1 => exact z19_3); (case side2 => repeat (first | (with_reducible first | exact HB.out | apply bwA | apply pbN | apply bwD | refine bwS ?_ (IsS68.ge HI0.out) | refine bwS ?_ GE462.out | refine bwS ?_ GE471.out) | exact HB.out)); rintro e w43 ⟨rfl, hi, hb, hk⟩; refine ⟨_, rfl, ?_⟩; replace BK462 := Az.mk (KeepBut.blk hk (g' := gb462) (o := .cells #[.int .i64 0, .int .i64 0, .int .i64 0, .int .i64 0] 41 (0, 0)) bkv NB462_0.out (by simp)); replace BK471 := Az.mk (KeepBut.blk hk (g' := gb471) (o := .cells #[.int .i64 t466, .int .i64 t467, .int .i64 t468, .int .i64 t469] 41 (0, 0)) bkv NB471_0.out (by simp)); replace HK := Az.mk (KeepBut.trans z19_4 hk (.inl rfl)); replace HB := Az.mk (hb); replace HI0 := Az.mk (hi); (try clear hb); (try clear hk); (try clear hi); have hnb44 := NB462_0.out; have hnc44 := NB0_462.out; obtain ⟨hcz45_0, hcz45_1, hcz45_2, hcz45_3, hfz45_0, hfz45_1, hfz45_2, hfz45_3⟩ := bq4 BK462))
 refine bodyPost_ret (results_cell_row rfl _ _ gb462 41 #[.int .i64 0, .int .i64 (-1), .int .i64 1, .int .i64 0] (0, 0) _ rfl bkv Try.underlying41 rfl (by kernel_rfl)) rfl ?_
 exact ⟨rq1, by repeat (first | (with_reducible first | exact HI0.out | apply IsS68.alloc | apply IsS68.drewN | apply IsS68.drew | apply IsS68.set_1 | apply IsS68.set_2 | refine IsS68.far ?_ NB0_462.out _ | refine IsS68.far ?_ NB0_471.out _) | exact HI0.out), by repeat (first | (with_reducible first | exact HB.out | apply bwA | apply pbN | apply bwD | refine bwS ?_ (IsS68.ge HI0.out) | refine bwS ?_ GE462.out | refine bwS ?_ GE471.out) | exact HB.out), by repeat (first | (with_reducible first | exact HK.out | apply KeepBut.set_ | apply keep_drewN | apply keep_drew | apply keep_alloc | refine keep_far ?_ GW462.out _ | refine keep_far ?_ GW471.out _) | exact HK.out)⟩

/-! ### spec_DrawMoveSlope: function 20 -/
def spec_DrawMoveSlope.f (k : Nat) (l0 : List Int) : Option (Int × Int × Int × Int × Int × Int) := (spec_l1New.f k l0).bind fun bt489 => ((spec_l13Draw.f k bt489.1 bt489.2.1 bt489.2.2).bind fun bt493 => ((spec_l12Draw.f k bt489.1 bt493.2.2.2.2.1 bt493.2.2.2.2.2).bind fun bt499 => (some (bt493.1, bt493.2.1, bt493.2.2.1, bt493.2.2.2.1, bt499.1, bt499.2.1))))
theorem spec_DrawMoveSlope.mono : ∀ a0 k, LeO (spec_DrawMoveSlope.f k a0) (spec_DrawMoveSlope.f (k + 1) a0) := by
 intro a0 k
 unfold spec_DrawMoveSlope.f
 exact mo_
instance spec_DrawMoveSlope.mi {a0 k} : MoO (spec_DrawMoveSlope.f k a0) (spec_DrawMoveSlope.f (k + 1) a0) := ⟨spec_DrawMoveSlope.mono _ _⟩
set_option maxHeartbeats 8000000 in
set_option maxRecDepth 100000 in
theorem spec_DrawMoveSlope.calls (k : Nat) (A0 : Option Addr) (c0 : Nat) (l0 : List Int) (r1 : Int) (r2 : Int) (r3 : Int) (r4 : Int) (r5 : Int) (r6 : Int) (w : World) (hr0 : Kd.C (Kd.int .u8) w A0 l0.length l0) (hc0 : l0.length ≤ c0) (h : spec_DrawMoveSlope.f k l0 = some (r1, r2, r3, r4, r5, r6)) :
  Calls Try.prog 20 #[.slice A0 l0.length c0] w fun e w' => e = .returned (.tuple #[.agg #[.int .i64 r1, .int .i64 r2, .int .i64 r3, .int .i64 r4], .agg #[.int .i64 r5, .int .i64 r6]]) ∧ Below w.heap.size w w' := by
 have hu41 := Try.underlying41
 have hu25 := Try.underlying25
 have HR0 := Az.mk hr0
 have HC0 := Az.mk hc0
 clear hr0 hc0
 have HB := Az.mk (Below.refl w.heap.size w)
 have H : ((spec_l1New.f k l0).bind fun bt489 => ((spec_l13Draw.f k bt489.1 bt489.2.1 bt489.2.2).bind fun bt493 => ((spec_l12Draw.f k bt489.1 bt493.2.2.2.2.1 bt493.2.2.2.2.2).bind fun bt499 => (some (bt493.1, bt493.2.1, bt493.2.2.1, bt493.2.2.2.1, bt499.1, bt499.2.1))))) = some (r1, r2, r3, r4, r5, r6) := h
 clear h
 replace H := bez H
 obtain ⟨⟨t489, t490, t491⟩, A2, H⟩ := H
 try dsimp only at H
 replace H := bez H
 obtain ⟨⟨t493, t494, t495, t496, t497, t498⟩, A3, H⟩ := H
 try dsimp only at H
 replace H := bez H
 obtain ⟨⟨t499, t500, t501, t502⟩, A4, H⟩ := H
 try dsimp only at H
 simp only [Option.some.injEq, Prod.mk.injEq] at H
 obtain ⟨rfl, rfl, rfl, rfl, rfl, rfl⟩ := H
 go_enter Try.func20, Try.ntmps20
 go_wp2_with (first | ((with_reducible refine gtD (N := 2) rfl ?_); refine bx (N := 2) (cs := #[.int .i64 0, .int .i64 0, .int .i64 0, .int .i64 0]) (t := 41) ?_; intro gb487 hg w5 hbox hb; have BK487 := Az.mk (hbox); have GW487 := gwz hg bw_19; have GE487 := gwz hg bw_19; replace HB := Az.mk (bwT bw_19 hb); clear hb hbox hg) | ((with_reducible refine gtD (N := 3) rfl ?_); refine bx (N := 3) (cs := #[.int .i64 0, .int .i64 0]) (t := 25) ?_; intro gb488 hg w6 hbox hb; have BK488 := Az.mk (hbox); have GW488 := gwz hg bw_19; have GE488 := gwz hg bw_19; replace HB := Az.mk (bwT bw_19 hb); have NB487_488 := nlt BK487 hg; have NB488_487 := ngt BK487 hg; replace BK487 := bkz BK487 hb; clear hb hbox hg) | ((with_reducible refine gtC (f := 29) rfl ?_); refine clz Try.func29 (some 6) #[.slice A0 l0.length c0] ?_; (with_reducible refine (spec_l1New.calls k _ _ l0 t489 t490 t491 w _ ?side1 ?side2 ?side3 A2.out).mono ?_); (case side1 => exact bw_19); (case side2 => exact HR0.out); (case side3 => exact HC0.out); rintro e w7 ⟨g492, rfl, hi, hb, hb2⟩; refine ⟨_, rfl, ?_⟩; replace HB := Az.mk (hb); have HI492 := Az.mk (hi); have NB492_487 := Az.mk (IsS68.ne_blk hi (bkB (g := gb487) (o := .cells #[.int .i64 0, .int .i64 0, .int .i64 0, .int .i64 0] 41 (0, 0)) (bk1 BK487) hb2) (by decide)); have NB487_492 := Az.mk (Ne.symm (IsS68.ne_blk hi (bkB (g := gb487) (o := .cells #[.int .i64 0, .int .i64 0, .int .i64 0, .int .i64 0] 41 (0, 0)) (bk1 BK487) hb2) (by decide))); replace BK487 := Az.mk (bkB (g := gb487) (o := .cells #[.int .i64 0, .int .i64 0, .int .i64 0, .int .i64 0] 41 (0, 0)) (bk1 BK487) hb2); have NB492_488 := Az.mk (IsS68.ne_blk hi (bkB (g := gb488) (o := .cells #[.int .i64 0, .int .i64 0] 25 (0, 0)) (bk1 BK488) hb2) (by decide)); have NB488_492 := Az.mk (Ne.symm (IsS68.ne_blk hi (bkB (g := gb488) (o := .cells #[.int .i64 0, .int .i64 0] 25 (0, 0)) (bk1 BK488) hb2) (by decide))); replace BK488 := Az.mk (bkB (g := gb488) (o := .cells #[.int .i64 0, .int .i64 0] 25 (0, 0)) (bk1 BK488) hb2); (try clear hb); (try clear hb2); (try clear hi)) | ((with_reducible refine gtC (f := 44) rfl ?_); refine clz Try.func44 (some 8) #[.pointer (some ⟨g492, 0, none⟩)] ?_; (with_reducible refine (spec_l13Draw.calls k g492 t489 t490 t491 t493 t494 t495 t496 t497 t498 w _ ?side1 ?side2 A3.out).mono ?_); (case side1 => exact (by repeat (first | (with_reducible first | exact HI492.out | apply IsS68.alloc | apply IsS68.drewN | apply IsS68.drew | apply IsS68.set_1 | apply IsS68.set_2 | refine IsS68.far ?_ NB492_487.out _ | refine IsS68.far ?_ NB492_488.out _) | exact HI492.out))); (case side2 => repeat (first | (with_reducible first | exact HB.out | apply bwA | apply pbN | apply bwD | refine bwS ?_ (IsS68.ge HI492.out) | refine bwS ?_ GE487.out | refine bwS ?_ GE488.out) | exact HB.out)); rintro e w8 ⟨rfl, hi, hb, hk⟩; refine ⟨_, rfl, ?_⟩; replace BK487 := bkk BK487 hk NB487_492; replace BK488 := bkk BK488 hk NB488_492; replace HB := Az.mk (hb); replace HI492 := Az.mk (hi); (try clear hb); (try clear hk); (try clear hi)) | ((with_reducible refine gtC (f := 30) rfl ?_); refine clz Try.func30 (some 10) #[.pointer (some ⟨g492, 0, none⟩)] ?_; (with_reducible refine (spec_l12Draw.calls k g492 t489 t497 t498 t499 t500 t501 t502 w _ ?side1 ?side2 A4.out).mono ?_); (case side1 => exact (by repeat (first | (with_reducible first | exact HI492.out | apply IsS68.alloc | apply IsS68.drewN | apply IsS68.drew | apply IsS68.set_1 | apply IsS68.set_2 | refine IsS68.far ?_ NB492_487.out _ | refine IsS68.far ?_ NB492_488.out _) | exact HI492.out))); (case side2 => repeat (first | (with_reducible first | exact HB.out | apply bwA | apply pbN | apply bwD | refine bwS ?_ (IsS68.ge HI492.out) | refine bwS ?_ GE487.out | refine bwS ?_ GE488.out) | exact HB.out)); rintro e w9 ⟨rfl, hi, hb, hk⟩; refine ⟨_, rfl, ?_⟩; replace BK487 := bkk BK487 hk NB487_492; replace BK488 := bkk BK488 hk NB488_492; replace HB := Az.mk (hb); replace HI492 := Az.mk (hi); (try clear hb); (try clear hk); (try clear hi); have hnb10 := NB487_488.out; have hnc10 := NB488_487.out; have hnb11 := NB487_492.out; have hnc11 := NB492_487.out; obtain ⟨hcz12_0, hcz12_1, hcz12_2, hcz12_3, hfz12_0, hfz12_1, hfz12_2, hfz12_3⟩ := bq4 BK487; have hnb13 := NB488_492.out; have hnc13 := NB492_488.out; obtain ⟨hcz14_0, hcz14_1, hfz14_0, hfz14_1⟩ := bq2 BK488))
 refine bodyPost_ret (results_cc rfl _ _ gb487 gb488 41 25 #[.int .i64 t493, .int .i64 t494, .int .i64 t495, .int .i64 t496] #[.int .i64 t499, .int .i64 t500] (0, 0) (0, 0) _ _ rfl bkv Try.underlying41 rfl (by kernel_rfl) rfl bkv Try.underlying25 rfl (by kernel_rfl)) rfl ?_
 exact ⟨rq1, by repeat (first | (with_reducible first | exact HB.out | apply bwA | apply pbN | apply bwD | refine bwS ?_ (IsS68.ge HI492.out) | refine bwS ?_ GE487.out | refine bwS ?_ GE488.out) | exact HB.out)⟩

/-! ### spec_MoveSlope: function 21 -/
def spec_MoveSlope.f (k : Nat) (a0_0 : Int) (a0_1 : Int) (a0_2 : Int) (a0_3 : Int) (a1_0 : Int) (a1_1 : Int) : Option (Int × Int × Bool) := (spec_IsMatrix.f k a0_0 a0_1 a0_2 a0_3).bind fun t506 => (if t506 = true then ((spec_IsSlope.f k a1_0 a1_1).bind fun t507 => (if t507 = true then ((spec_SlopeOf.f k (wrap64 ((wrap64 (a0_0 * a1_0)) + (wrap64 (a0_1 * a1_1)))) (wrap64 ((wrap64 (a0_2 * a1_0)) + (wrap64 (a0_3 * a1_1))))).bind fun bt508 => (some (bt508.1, bt508.2.1, bt508.2.2))) else (some (0, 0, false)))) else (some (0, 0, false)))
theorem spec_MoveSlope.mono : ∀ a0 a1 a2 a3 a4 a5 k, LeO (spec_MoveSlope.f k a0 a1 a2 a3 a4 a5) (spec_MoveSlope.f (k + 1) a0 a1 a2 a3 a4 a5) := by
 intro a0 a1 a2 a3 a4 a5 k
 unfold spec_MoveSlope.f
 exact mo_
instance spec_MoveSlope.mi {a0 a1 a2 a3 a4 a5 k} : MoO (spec_MoveSlope.f k a0 a1 a2 a3 a4 a5) (spec_MoveSlope.f (k + 1) a0 a1 a2 a3 a4 a5) := ⟨spec_MoveSlope.mono _ _ _ _ _ _ _⟩
set_option maxHeartbeats 8000000 in
set_option maxRecDepth 100000 in
theorem spec_MoveSlope.calls (k : Nat) (a0_0 : Int) (a0_1 : Int) (a0_2 : Int) (a0_3 : Int) (a1_0 : Int) (a1_1 : Int) (r1 : Int) (r2 : Int) (r3 : Bool) (w : World) (h : spec_MoveSlope.f k a0_0 a0_1 a0_2 a0_3 a1_0 a1_1 = some (r1, r2, r3)) :
  Calls Try.prog 21 #[.agg #[.int .i64 a0_0, .int .i64 a0_1, .int .i64 a0_2, .int .i64 a0_3], .agg #[.int .i64 a1_0, .int .i64 a1_1]] w fun e w' => e = .returned (.tuple #[.agg #[.int .i64 r1, .int .i64 r2], .bool r3]) ∧ Below w.heap.size w w' := by
 have hu41 := Try.underlying41
 have hu25 := Try.underlying25
 have HB := Az.mk (Below.refl w.heap.size w)
 have H : ((spec_IsMatrix.f k a0_0 a0_1 a0_2 a0_3).bind fun t506 => (if t506 = true then ((spec_IsSlope.f k a1_0 a1_1).bind fun t507 => (if t507 = true then ((spec_SlopeOf.f k (wrap64 ((wrap64 (a0_0 * a1_0)) + (wrap64 (a0_1 * a1_1)))) (wrap64 ((wrap64 (a0_2 * a1_0)) + (wrap64 (a0_3 * a1_1))))).bind fun bt508 => (some (bt508.1, bt508.2.1, bt508.2.2))) else (some (0, 0, false)))) else (some (0, 0, false)))) = some (r1, r2, r3) := h
 clear h
 replace H := bez H
 obtain ⟨t506, A3, H⟩ := H
 try dsimp only at H
 by_cases c4 : t506 = true
 rotate_left
 ·replace c4 := Bool.eq_false_iff.mpr c4
  subst c4
  rw [if_neg (show ¬ (false = true) by decide)] at H
  simp only [Option.some.injEq, Prod.mk.injEq] at H
  obtain ⟨rfl, rfl, rfl⟩ := H
  go_enter Try.func21, Try.ntmps21
  go_wp2_with (first | ((with_reducible refine gtD (N := 2) rfl ?_); refine bx (N := 2) (cs := #[.int .i64 a0_0, .int .i64 a0_1, .int .i64 a0_2, .int .i64 a0_3]) (t := 41) ?_; intro gb503 hg w38 hbox hb; have BK503 := Az.mk (hbox); have GW503 := gwz hg bw_19; have GE503 := gwz hg bw_19; replace HB := Az.mk (bwT bw_19 hb); clear hb hbox hg) | ((with_reducible refine gtD (N := 3) rfl ?_); refine bx (N := 3) (cs := #[.int .i64 a1_0, .int .i64 a1_1]) (t := 25) ?_; intro gb504 hg w39 hbox hb; have BK504 := Az.mk (hbox); have GW504 := gwz hg bw_19; have GE504 := gwz hg bw_19; replace HB := Az.mk (bwT bw_19 hb); have NB503_504 := nlt BK503 hg; have NB504_503 := ngt BK503 hg; replace BK503 := bkz BK503 hb; clear hb hbox hg) | ((with_reducible refine gtD (N := 4) rfl ?_); refine bx (N := 4) (cs := #[.int .i64 0, .int .i64 0]) (t := 25) ?_; intro gb505 hg w40 hbox hb; have BK505 := Az.mk (hbox); have GW505 := gwz hg bw_19; have GE505 := gwz hg bw_19; replace HB := Az.mk (bwT bw_19 hb); have NB503_505 := nlt BK503 hg; have NB505_503 := ngt BK503 hg; replace BK503 := bkz BK503 hb; have NB504_505 := nlt BK504 hg; have NB505_504 := ngt BK504 hg; replace BK504 := bkz BK504 hb; clear hb hbox hg; have hnb41 := NB503_504.out; have hnc41 := NB504_503.out; have hnb42 := NB503_505.out; have hnc42 := NB505_503.out; obtain ⟨hcz43_0, hcz43_1, hcz43_2, hcz43_3, hfz43_0, hfz43_1, hfz43_2, hfz43_3⟩ := bq4 BK503) | ((with_reducible refine gtC (f := 45) rfl ?_); refine clz Try.func45 (some 9) #[.agg #[.int .i64 a0_0, .int .i64 a0_1, .int .i64 a0_2, .int .i64 a0_3]] ?_; (with_reducible refine (spec_IsMatrix.calls k a0_0 a0_1 a0_2 a0_3 false _ A3.out).mono ?_); rintro e w44 ⟨rfl, hb⟩; refine ⟨_, rfl, ?_⟩; replace BK503 := bkz BK503 hb; replace BK504 := bkz BK504 hb; replace BK505 := bkz BK505 hb; replace HB := Az.mk (bwT bw_19 hb); (try clear hb); have hnb45 := NB505_504.out; have hnc45 := NB504_505.out; obtain ⟨hcz46_0, hcz46_1, hfz46_0, hfz46_1⟩ := bq2 BK505))
  refine bodyPost_ret (results_ct rfl _ _ gb505 25 #[.int .i64 0, .int .i64 0] (0, 0) _ rfl bkv Try.underlying25 rfl (by kernel_rfl)) rfl ?_
  exact ⟨rq1, bw_19⟩
 subst c4
 rw [if_pos rfl] at H
 replace H := bez H
 obtain ⟨t507, A5, H⟩ := H
 try dsimp only at H
 by_cases c6 : t507 = true
 rotate_left
 ·replace c6 := Bool.eq_false_iff.mpr c6
  subst c6
  rw [if_neg (show ¬ (false = true) by decide)] at H
  simp only [Option.some.injEq, Prod.mk.injEq] at H
  obtain ⟨rfl, rfl, rfl⟩ := H
  go_enter Try.func21, Try.ntmps21
  go_wp2_with (first | ((with_reducible refine gtD (N := 2) rfl ?_); refine bx (N := 2) (cs := #[.int .i64 a0_0, .int .i64 a0_1, .int .i64 a0_2, .int .i64 a0_3]) (t := 41) ?_; intro gb503 hg w27 hbox hb; have BK503 := Az.mk (hbox); have GW503 := gwz hg bw_19; have GE503 := gwz hg bw_19; replace HB := Az.mk (bwT bw_19 hb); clear hb hbox hg) | ((with_reducible refine gtD (N := 3) rfl ?_); refine bx (N := 3) (cs := #[.int .i64 a1_0, .int .i64 a1_1]) (t := 25) ?_; intro gb504 hg w28 hbox hb; have BK504 := Az.mk (hbox); have GW504 := gwz hg bw_19; have GE504 := gwz hg bw_19; replace HB := Az.mk (bwT bw_19 hb); have NB503_504 := nlt BK503 hg; have NB504_503 := ngt BK503 hg; replace BK503 := bkz BK503 hb; clear hb hbox hg) | ((with_reducible refine gtD (N := 4) rfl ?_); refine bx (N := 4) (cs := #[.int .i64 0, .int .i64 0]) (t := 25) ?_; intro gb505 hg w29 hbox hb; have BK505 := Az.mk (hbox); have GW505 := gwz hg bw_19; have GE505 := gwz hg bw_19; replace HB := Az.mk (bwT bw_19 hb); have NB503_505 := nlt BK503 hg; have NB505_503 := ngt BK503 hg; replace BK503 := bkz BK503 hb; have NB504_505 := nlt BK504 hg; have NB505_504 := ngt BK504 hg; replace BK504 := bkz BK504 hb; clear hb hbox hg; have hnb30 := NB503_504.out; have hnc30 := NB504_503.out; have hnb31 := NB503_505.out; have hnc31 := NB505_503.out; obtain ⟨hcz32_0, hcz32_1, hcz32_2, hcz32_3, hfz32_0, hfz32_1, hfz32_2, hfz32_3⟩ := bq4 BK503) | ((with_reducible refine gtC (f := 45) rfl ?_); refine clz Try.func45 (some 9) #[.agg #[.int .i64 a0_0, .int .i64 a0_1, .int .i64 a0_2, .int .i64 a0_3]] ?_; (with_reducible refine (spec_IsMatrix.calls k a0_0 a0_1 a0_2 a0_3 true _ A3.out).mono ?_); rintro e w33 ⟨rfl, hb⟩; refine ⟨_, rfl, ?_⟩; replace BK503 := bkz BK503 hb; replace BK504 := bkz BK504 hb; replace BK505 := bkz BK505 hb; replace HB := Az.mk (bwT bw_19 hb); (try clear hb); have hnb34 := NB504_505.out; have hnc34 := NB505_504.out; obtain ⟨hcz35_0, hcz35_1, hfz35_0, hfz35_1⟩ := bq2 BK504) | (go_at_call 22; (with_reducible refine (spec_IsSlope.calls k a1_0 a1_1 false _ A5.out).mono ?_); rintro e w36 ⟨rfl, hb⟩; replace BK503 := bkz BK503 hb; replace BK504 := bkz BK504 hb; replace BK505 := bkz BK505 hb; replace HB := Az.mk (bwT bw_19 hb); (try clear hb); obtain ⟨hcz37_0, hcz37_1, hfz37_0, hfz37_1⟩ := bq2 BK505))
  refine bodyPost_ret (results_ct rfl _ _ gb505 25 #[.int .i64 0, .int .i64 0] (0, 0) _ rfl bkv Try.underlying25 rfl (by kernel_rfl)) rfl ?_
  exact ⟨rq1, bw_19⟩
 subst c6
 rw [if_pos rfl] at H
 replace H := bez H
 obtain ⟨⟨t508, t509, t510⟩, A7, H⟩ := H
 try dsimp only at H
 simp only [Option.some.injEq, Prod.mk.injEq] at H
 obtain ⟨rfl, rfl, rfl⟩ := H
 go_enter Try.func21, Try.ntmps21
 go_wp2_with (first | ((with_reducible refine gtD (N := 2) rfl ?_); refine bx (N := 2) (cs := #[.int .i64 a0_0, .int .i64 a0_1, .int .i64 a0_2, .int .i64 a0_3]) (t := 41) ?_; intro gb503 hg w8 hbox hb; have BK503 := Az.mk (hbox); have GW503 := gwz hg bw_19; have GE503 := gwz hg bw_19; replace HB := Az.mk (bwT bw_19 hb); clear hb hbox hg) | ((with_reducible refine gtD (N := 3) rfl ?_); refine bx (N := 3) (cs := #[.int .i64 a1_0, .int .i64 a1_1]) (t := 25) ?_; intro gb504 hg w9 hbox hb; have BK504 := Az.mk (hbox); have GW504 := gwz hg bw_19; have GE504 := gwz hg bw_19; replace HB := Az.mk (bwT bw_19 hb); have NB503_504 := nlt BK503 hg; have NB504_503 := ngt BK503 hg; replace BK503 := bkz BK503 hb; clear hb hbox hg) | ((with_reducible refine gtD (N := 4) rfl ?_); refine bx (N := 4) (cs := #[.int .i64 0, .int .i64 0]) (t := 25) ?_; intro gb505 hg w10 hbox hb; have BK505 := Az.mk (hbox); have GW505 := gwz hg bw_19; have GE505 := gwz hg bw_19; replace HB := Az.mk (bwT bw_19 hb); have NB503_505 := nlt BK503 hg; have NB505_503 := ngt BK503 hg; replace BK503 := bkz BK503 hb; have NB504_505 := nlt BK504 hg; have NB505_504 := ngt BK504 hg; replace BK504 := bkz BK504 hb; clear hb hbox hg; have hnb11 := NB503_504.out; have hnc11 := NB504_503.out; have hnb12 := NB503_505.out; have hnc12 := NB505_503.out; obtain ⟨hcz13_0, hcz13_1, hcz13_2, hcz13_3, hfz13_0, hfz13_1, hfz13_2, hfz13_3⟩ := bq4 BK503) | ((with_reducible refine gtC (f := 45) rfl ?_); refine clz Try.func45 (some 9) #[.agg #[.int .i64 a0_0, .int .i64 a0_1, .int .i64 a0_2, .int .i64 a0_3]] ?_; (with_reducible refine (spec_IsMatrix.calls k a0_0 a0_1 a0_2 a0_3 true _ A3.out).mono ?_); rintro e w14 ⟨rfl, hb⟩; refine ⟨_, rfl, ?_⟩; replace BK503 := bkz BK503 hb; replace BK504 := bkz BK504 hb; replace BK505 := bkz BK505 hb; replace HB := Az.mk (bwT bw_19 hb); (try clear hb); have hnb15 := NB504_505.out; have hnc15 := NB505_504.out; obtain ⟨hcz16_0, hcz16_1, hfz16_0, hfz16_1⟩ := bq2 BK504) | (go_at_call 22; (with_reducible refine (spec_IsSlope.calls k a1_0 a1_1 true _ A5.out).mono ?_); rintro e w17 ⟨rfl, hb⟩; replace BK503 := bkz BK503 hb; replace BK504 := bkz BK504 hb; replace BK505 := bkz BK505 hb; replace HB := Az.mk (bwT bw_19 hb); (try clear hb); obtain ⟨hcz18_0, hcz18_1, hcz18_2, hcz18_3, hfz18_0, hfz18_1, hfz18_2, hfz18_3⟩ := bq4 BK503; obtain ⟨hcz19_0, hcz19_1, hfz19_0, hfz19_1⟩ := bq2 BK504) | ((with_reducible refine gtC (f := 42) rfl ?_); refine clz Try.func42 (some 40) #[.int .i64 (wrap64 ((wrap64 (a0_0 * a1_0)) + (wrap64 (a0_1 * a1_1)))), .int .i64 (wrap64 ((wrap64 (a0_2 * a1_0)) + (wrap64 (a0_3 * a1_1))))] ?_; (with_reducible refine (spec_SlopeOf.calls k (wrap64 ((wrap64 (a0_0 * a1_0)) + (wrap64 (a0_1 * a1_1)))) (wrap64 ((wrap64 (a0_2 * a1_0)) + (wrap64 (a0_3 * a1_1)))) t508 t509 t510 _ A7.out).mono ?_); rintro e w20 ⟨rfl, hb⟩; refine ⟨_, rfl, ?_⟩; replace BK503 := bkz BK503 hb; replace BK504 := bkz BK504 hb; replace BK505 := bkz BK505 hb; replace HB := Az.mk (bwT bw_19 hb); (try clear hb)) | ((with_reducible refine gtD (N := 6) rfl ?_); refine bx (N := 6) (cs := #[.int .i64 0, .int .i64 0]) (t := 25) ?_; intro gb511 hg w21 hbox hb; have BK511 := Az.mk (hbox); have GW511 := gwz hg bw_19; have GE511 := gwz hg bw_19; replace HB := Az.mk (bwT bw_19 hb); have NB503_511 := nlt BK503 hg; have NB511_503 := ngt BK503 hg; replace BK503 := bkz BK503 hb; have NB504_511 := nlt BK504 hg; have NB511_504 := ngt BK504 hg; replace BK504 := bkz BK504 hb; have NB505_511 := nlt BK505 hg; have NB511_505 := ngt BK505 hg; replace BK505 := bkz BK505 hb; clear hb hbox hg; have hnb22 := NB511_503.out; have hnc22 := NB503_511.out; have hnb23 := NB511_504.out; have hnc23 := NB504_511.out; have hnb24 := NB511_505.out; have hnc24 := NB505_511.out; obtain ⟨hcz25_0, hcz25_1, hfz25_0, hfz25_1⟩ := bq2 BK511; obtain ⟨hcz26_0, hcz26_1, hfz26_0, hfz26_1⟩ := bq2 BK505))
 refine bodyPost_ret (results_ct rfl _ _ gb505 25 #[.int .i64 t508, .int .i64 t509] (0, 0) _ rfl bkv Try.underlying25 rfl (by kernel_rfl)) rfl ?_
 exact ⟨rq1, bw_19⟩

/-! ### laws_magnitude: function 23 -/
def laws_magnitude.f (a0 : Int) : Option (Int) := if a0 < 0 then (some (wrap64 (-a0))) else (some a0)
set_option maxHeartbeats 8000000 in
set_option maxRecDepth 100000 in
theorem laws_magnitude.calls (a0 : Int) (r : Int) (w : World) (h : laws_magnitude.f a0 = some r) :
  Calls Try.prog 23 #[.int .i64 a0] w fun e w' => e = .returned (.int .i64 r) ∧ Drawn0 w w' := by
 have H : (if a0 < 0 then (some (wrap64 (-a0))) else (some a0)) = some r := h
 clear h
 by_cases c2 : a0 < 0
 ·rw [if_pos c2] at H
  have c2b0 : decide (a0 < 0) = true := decide_eq_true c2
  clear c2
  obtain rfl := Option.some.inj H
  go_enter Try.func23, Try.ntmps23
  go_wp2
  go_ret
  exact ⟨by first | rfl | (simp; done) | (simp [*]; done), by repeat (first | exact Drawn0.refl _ | apply Drawn0.step)⟩
 rw [if_neg c2] at H
 have c2b0 : decide (a0 < 0) = false := decide_eq_false c2
 clear c2
 obtain rfl := Option.some.inj H
 go_enter Try.func23, Try.ntmps23
 go_wp2
 go_ret
 exact ⟨by first | rfl | (simp; done) | (simp [*]; done), by repeat (first | exact Drawn0.refl _ | apply Drawn0.step)⟩

/-! ### impl_isNear: function 47 -/
def impl_isNear.f (k : Nat) (a0_0 : Int) (a0_1 : Int) : Option (Bool) := (impl_IsSlope.f k a0_0 a0_1).bind fun t513 => (if t513 = true then ((impl_size.f a0_0).bind fun t514 => (if t514 ≤ 20 then (some (decide (a0_1 ≤ 20))) else (some false))) else (some false))
theorem impl_isNear.mono : ∀ a0 a1 k, LeO (impl_isNear.f k a0 a1) (impl_isNear.f (k + 1) a0 a1) := by
 intro a0 a1 k
 unfold impl_isNear.f
 exact mo_
instance impl_isNear.mi {a0 a1 k} : MoO (impl_isNear.f k a0 a1) (impl_isNear.f (k + 1) a0 a1) := ⟨impl_isNear.mono _ _ _⟩
set_option maxHeartbeats 8000000 in
set_option maxRecDepth 100000 in
theorem impl_isNear.calls (k : Nat) (a0_0 : Int) (a0_1 : Int) (r : Bool) (w : World) (h : impl_isNear.f k a0_0 a0_1 = some r) :
  Calls Try.prog 47 #[.agg #[.int .i64 a0_0, .int .i64 a0_1]] w fun e w' => e = .returned (.bool r) ∧ Below w.heap.size w w' := by
 have hu25 := Try.underlying25
 have HB := Az.mk (Below.refl w.heap.size w)
 have H : ((impl_IsSlope.f k a0_0 a0_1).bind fun t513 => (if t513 = true then ((impl_size.f a0_0).bind fun t514 => (if t514 ≤ 20 then (some (decide (a0_1 ≤ 20))) else (some false))) else (some false))) = some r := h
 clear h
 replace H := bez H
 obtain ⟨t513, A2, H⟩ := H
 try dsimp only at H
 by_cases c3 : t513 = true
 rotate_left
 ·replace c3 := Bool.eq_false_iff.mpr c3
  subst c3
  rw [if_neg (show ¬ (false = true) by decide)] at H
  obtain rfl := Option.some.inj H
  go_enter Try.func47, Try.ntmps47
  go_wp2_with (first | ((with_reducible refine gtD (N := 1) rfl ?_); refine bx (N := 1) (cs := #[.int .i64 a0_0, .int .i64 a0_1]) (t := 25) ?_; intro gb512 hg w17 hbox hb; have BK512 := Az.mk (hbox); have GW512 := gwz hg bw_19; have GE512 := gwz hg bw_19; replace HB := Az.mk (bwT bw_19 hb); clear hb hbox hg; obtain ⟨hcz18_0, hcz18_1, hfz18_0, hfz18_1⟩ := bq2 BK512) | ((with_reducible refine gtC (f := 27) rfl ?_); refine clz Try.func27 (some 4) #[.agg #[.int .i64 a0_0, .int .i64 a0_1]] ?_; (with_reducible refine (impl_IsSlope.calls k a0_0 a0_1 false _ A2.out).mono ?_); rintro e w19 ⟨rfl, hb⟩; refine ⟨_, rfl, ?_⟩; replace BK512 := bkz BK512 hb; replace HB := Az.mk (bwT bw_19 hb); (try clear hb)))
  go_ret
  exact ⟨rq1, bw_19⟩
 subst c3
 rw [if_pos rfl] at H
 replace H := bez H
 obtain ⟨t514, A4, H⟩ := H
 try dsimp only at H
 by_cases c5 : t514 ≤ 20
 ·rw [if_pos c5] at H
  have c5b0 : decide (t514 ≤ 20) = true := decide_eq_true c5
  clear c5
  obtain rfl := Option.some.inj H
  go_enter Try.func47, Try.ntmps47
  go_wp2_with (first | ((with_reducible refine gtD (N := 1) rfl ?_); refine bx (N := 1) (cs := #[.int .i64 a0_0, .int .i64 a0_1]) (t := 25) ?_; intro gb512 hg w6 hbox hb; have BK512 := Az.mk (hbox); have GW512 := gwz hg bw_19; have GE512 := gwz hg bw_19; replace HB := Az.mk (bwT bw_19 hb); clear hb hbox hg; obtain ⟨hcz7_0, hcz7_1, hfz7_0, hfz7_1⟩ := bq2 BK512) | ((with_reducible refine gtC (f := 27) rfl ?_); refine clz Try.func27 (some 4) #[.agg #[.int .i64 a0_0, .int .i64 a0_1]] ?_; (with_reducible refine (impl_IsSlope.calls k a0_0 a0_1 true _ A2.out).mono ?_); rintro e w8 ⟨rfl, hb⟩; refine ⟨_, rfl, ?_⟩; replace BK512 := bkz BK512 hb; replace HB := Az.mk (bwT bw_19 hb); (try clear hb); obtain ⟨hcz9_0, hcz9_1, hfz9_0, hfz9_1⟩ := bq2 BK512) | (go_at_call 63; (with_reducible refine (impl_size.calls a0_0 t514 _ A4.out).mono ?_); rintro e w10 ⟨rfl, hb⟩; replace BK512 := bkz BK512 hb; replace HB := Az.mk (bwT bw_19 hb); (try clear hb); obtain ⟨hcz11_0, hcz11_1, hfz11_0, hfz11_1⟩ := bq2 BK512))
  go_ret
  exact ⟨rq1, bw_19⟩
 rw [if_neg c5] at H
 have c5b0 : decide (t514 ≤ 20) = false := decide_eq_false c5
 clear c5
 obtain rfl := Option.some.inj H
 go_enter Try.func47, Try.ntmps47
 go_wp2_with (first | ((with_reducible refine gtD (N := 1) rfl ?_); refine bx (N := 1) (cs := #[.int .i64 a0_0, .int .i64 a0_1]) (t := 25) ?_; intro gb512 hg w12 hbox hb; have BK512 := Az.mk (hbox); have GW512 := gwz hg bw_19; have GE512 := gwz hg bw_19; replace HB := Az.mk (bwT bw_19 hb); clear hb hbox hg; obtain ⟨hcz13_0, hcz13_1, hfz13_0, hfz13_1⟩ := bq2 BK512) | ((with_reducible refine gtC (f := 27) rfl ?_); refine clz Try.func27 (some 4) #[.agg #[.int .i64 a0_0, .int .i64 a0_1]] ?_; (with_reducible refine (impl_IsSlope.calls k a0_0 a0_1 true _ A2.out).mono ?_); rintro e w14 ⟨rfl, hb⟩; refine ⟨_, rfl, ?_⟩; replace BK512 := bkz BK512 hb; replace HB := Az.mk (bwT bw_19 hb); (try clear hb); obtain ⟨hcz15_0, hcz15_1, hfz15_0, hfz15_1⟩ := bq2 BK512) | (go_at_call 63; (with_reducible refine (impl_size.calls a0_0 t514 _ A4.out).mono ?_); rintro e w16 ⟨rfl, hb⟩; replace BK512 := bkz BK512 hb; replace HB := Az.mk (bwT bw_19 hb); (try clear hb)))
 go_ret
 exact ⟨rq1, bw_19⟩

end Go.Proofs.Ytigcjehokbgclaa.P

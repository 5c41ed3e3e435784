-- By this session's driver (wip/tools/mk.py) of the kit's print program, over several statements at once. Not trusted: Lean checks it.
import Derived.Test.YtolmicnapemljaaQPx0
import Derived.Test.YtolmicnapemljaaQPx6
import Derived.Test.YtolmicnapemljaaQPx8
import Derived.Test.YtolmicnapemljaaQPx10
import Derived.Test.YtolmicnapemljaaQPx13
import Derived.Test.YtolmicnapemljaaQPx21
import Derived.Test.YtolmicnapemljaaQPx27
namespace Go.Proofs.Ytolmicnapemljaa.P
open Go.RowKit Go.Proofs.YtolmicnapemljaaW.PrintWords Go.Proofs.YtolmicnapemljaaW.PrintLast Go.Proofs.YtolmicnapemljaaW.PrintMore
attribute [local go_sem] max2_int min2_int max_two min_two max_three min_three max_four min_four   -- for this text's walks alone
set_option linter.unusedVariables false
set_option linter.unusedSimpArgs false
open Bool renaming true → T, false → F

/-! ### impl_FlipCurve: function 24 -/
theorem goesF_ {P : Program} {ops : Array Oper} {Q : Exit → Act → World → Prop} {oi : Oper} {N : Option Tmp} {a : Act} {w : World} {K : Act → World → Prop} {f : FuncId} {fn : Func} {ars : Array Operand} {ts : Array TypeId} {c : Operand} {caps : Array Value} (hf : P.funcs[f]? = some fn) (hname : (fn.name == "runtime.NumGoroutine") = false) (hb : fn.body.isSome = true) (args : Array Value)
  (hw : Region.wanted oi (yielded ops a.tmps) = true) (hN : oi.dst = N) (hop : oi.op = .call { callee := .value c, args := ars, argTypes := ts }) (hc : a.eval c = .func (.func f) #[] caps) (hargs : ars.map a.eval ++ caps = args)
  (h : Calls P f args w fun e w' => ∃ v, e = .returned v ∧ K (a.put N v) w') : if Region.wanted oi (yielded ops a.tmps) = true then Oper.wp P oi a w K Q else K (a.put N undef) w := by
 refine call_ f args hw hN ?_ h
 have he := enters_ hf hname hb args w
 unfold execOp
 simp [hop, resolve, Deferred.ofValue, invoke, hc, hargs, he]
theorem rd_set_self {out : List Int} {Z V : Int} (h0 : 0 ≤ Z) (h1 : Z < (out.length : Int)) : rd (out.set Z.toNat V) Z = V := by
 unfold rd
 rw [List.getD_eq_getElem?_getD, List.getElem?_set_self (by omega)]
 rfl
theorem fc_some {w : World} {base : Nat} {ok : Nat → Prop} {A : Option Addr} {n c : Nat} {out : List Int} (HO : Kd.R (Kd.int .i64) 3 w base ok (.slice A n c) out) {Z : Int} (h0 : 0 ≤ Z) (h1 : Z < (out.length : Int)) : ∃ g : Nat, A = some ⟨g, 0, none⟩ := by
 obtain ⟨g, cap, eg, _⟩ := Kd.R_form HO (by omega)
 injection eg with ea en ec
 exact ⟨g, ea⟩
theorem fc_at {w : World} {base : Nat} {ok : Nat → Prop} {g n c : Nat} {out : List Int} {w0 : World} (HO : Kd.R (Kd.int .i64) 3 w base ok (.slice (some ⟨g, 0, none⟩) n c) out) (HB : Below base w0 w) {Z : Int} (h0 : 0 ≤ Z) (h1 : Z < (out.length : Int)) :
  w.cell? ⟨g, Z.toNat, none⟩ = some (.int .i64 (rd out Z)) ∧ w.frozen? ⟨g, Z.toNat, none⟩ = false ∧ (Z < (n : Int)) ∧ Az (∀ W v, Drawn0 w W → Kd.R (Kd.int .i64) 3 (W.setCell ⟨g, Z.toNat, none⟩ (.int .i64 v)) base ok (.slice (some ⟨g, 0, none⟩) n c) (out.set Z.toNat v) ∧ Below base w0 (W.setCell ⟨g, Z.toNat, none⟩ (.int .i64 v))) := by
 have hn := (Kd.R_reads' HO).1
 obtain ⟨g', cap, eg, hg1, _⟩ := Kd.R_form HO (by omega)
 injection eg with ea en ec
 injection ea with ea
 injection ea with ea
 subst ea
 obtain ⟨hx, hf⟩ := Kd.R_celln 0 HO Z h0 (by omega)
 refine ⟨hx, hf, by omega, ⟨?_⟩⟩
 rintro W v ⟨m, rfl⟩
 exact ⟨(Kd.R_putg (Kd.R_drewN HO m) Z v).1, (pbN HB m).setCell hg1 _⟩
def flipNum.f (l1 : List Int) (s : Int) : Option Int := (impl_size.f s).bind fun z => if 0 ≤ wrap64 (z - 1) then (if wrap64 (z - 1) < (l1.length : Int) then some (rd l1 (wrap64 (z - 1))) else none) else none
set_option maxHeartbeats 8000000 in
set_option maxRecDepth 100000 in
theorem flipNum.calls (i : Int) (p1 : Addr) (A1 : Option Addr) (c1 : Nat) (l1 : List Int) (r : Int) (w : World) (h1 : w.cell? p1 = some (.slice A1 l1.length c1)) (hr1 : Kd.C (Kd.int .i64) w A1 l1.length l1) (h : flipNum.f l1 i = some r) :
  Calls Try.prog 87 #[.int .i64 i, .pointer (some p1)] w fun e w' => e = .returned (.int .i64 r) ∧ Drawn0 w w' := by
 have HR1 := Az.mk hr1
 clear hr1
 unfold flipNum.f at h
 replace h := Option.bind_eq_some_iff.mp h
 obtain ⟨s, hs, h⟩ := h
 by_cases b5 : 0 ≤ wrap64 (s - 1)
 rotate_left
 ·rw [if_neg b5] at h; exact absurd h (by simp)
 rw [if_pos b5] at h
 by_cases b6 : wrap64 (s - 1) < (l1.length : Int)
 rotate_left
 ·rw [if_neg b6] at h; exact absurd h (by simp)
 rw [if_pos b6] at h
 obtain rfl := Option.some.inj h
 obtain ⟨ad2, rfl, hx2⟩ := Kd.at_int HR1.out (wrap64 (s - 1)) b5 b6
 have SS := Az.mk hs
 clear hs
 obtain ⟨Z, hZ⟩ : ∃ j_ : Int, wrap64 (s - 1) = j_ := ⟨_, rfl⟩
 have hZw : (IntKind.i64.wrap (s - 1)) = Z := (i64_w _).trans hZ
 rw [hZ] at b5 b6 hx2
 replace b5 := eq_true b5
 replace b6 := eq_true b6
 go_enter Try.func87, Try.ntmps87
 go_wp2
 go_quiet ((go_at_call 88; refine Calls.quiet_of_same (size_still i s _ SS.out)))
 go_wp2
 go_ret
 exact ⟨by rw [hZ]; rfl, ⟨⟨_, rfl⟩⟩⟩
def impl_FlipCurve.g (l1 : List Int) (a2 : Int) (one two out : List Int) : Option (List Int × Bool) := if 2 < (one.length : Int) then (if 2 < (two.length : Int) then ((flipNum.f l1 (rd one 1)).bind fun n1 => ((flipNum.f l1 (rd two 1)).bind fun n2 => ((flipNum.f l1 (rd one 2)).bind fun n3 => ((flipNum.f l1 (rd two 2)).bind fun n4 => (if 0 ≤ wrap64 (a2 - 1) then (if wrap64 (a2 - 1) < (l1.length : Int) then (if wrap64 (a2 - 1) < (out.length : Int) then (if wrap64 (mx (wrap64 (n1 + n2)) (wrap64 (n3 + n4)) - rd l1 (wrap64 (a2 - 1))) > 200 then some (([] : List Int), false) else some (out.set (wrap64 (a2 - 1)).toNat (wrap64 (mx (wrap64 (n1 + n2)) (wrap64 (n3 + n4)) - rd l1 (wrap64 (a2 - 1)))), true)) else none) else none) else none))))) else none) else none
def impl_FlipCurve.f (k : Nat) (l0 : List (List Int)) (l1 : List Int) (a2 : Int) : Option (List Int × Bool) := (impl_CanFlip.f k l0 a2).bind fun b1 => (if b1 = true then ((impl_IsFair.f k l0 l1).bind fun b2 => (if b2 = true then ((impl_sideAt.f k l0 a2).bind fun s => ((impl_sideAt.f k l0 (wrap64 (-a2))).bind fun o => (if 0 ≤ s.1 then (if s.1 < (l0.length : Int) then (if 0 ≤ o.1 then (if o.1 < (l0.length : Int) then ((impl_turn.f (rd_L1 l0 s.1) s.2).bind fun one => ((impl_turn.f (rd_L1 l0 o.1) o.2).bind fun two => ((impl_copyOf.f l1).bind fun out => (impl_FlipCurve.g l1 a2 one two out)))) else none) else none) else none) else none))) else some (([] : List Int), false))) else some (([] : List Int), false))
theorem impl_FlipCurve.mono : ∀ a0 a1 a2 k, LeO (impl_FlipCurve.f k a0 a1 a2) (impl_FlipCurve.f (k + 1) a0 a1 a2) := by
 intro a0 a1 a2 k
 unfold impl_FlipCurve.f
 repeat' first
   | (with_reducible exact impl_CanFlip.mono _ _ _)
   | (with_reducible exact impl_IsFair.mono _ _ _)
   | (with_reducible exact impl_sideAt.mono _ _ _)
   | (with_reducible exact LeO.refl _)
   | (with_reducible exact LeO.none _)
   | (with_reducible refine LeO.ite ?_ ?_)
   | (with_reducible refine LeO.bind ?_ (fun _ => ?_))
def impl_FlipCurve.T5 : Bool × List (List Nat × List Nat) := (true, [([], []), ([], []), ([0, 1], [0, 1]), ([2], [2]), ([], []), ([3, 4], [3, 4]), ([], []), ([], []), ([6, 7], [6, 7]), ([8], [8]), ([], []), ([9, 10, 5], [9, 10]), ([5, 11, 0, 1, 2, 3, 4, 5], [5]), ([11, 12, 0, 1, 2, 3, 4, 5, 6, 7, 8, 9, 10, 11, 12], [11])])
def impl_FlipCurve.B5 : List Nat := [0, 0, 3, 7, 0, 31, 0, 0, 192, 448, 0, 2047, 4095, 8191]
theorem impl_FlipCurve.tab5 : rtab .any (opsOf Try.f24 5) = impl_FlipCurve.T5 := by kernel_rfl
theorem impl_FlipCurve.bits5 : waitsOk impl_FlipCurve.T5.2 impl_FlipCurve.B5 = true := by kernel_rfl
def impl_FlipCurve.T8 : Bool × List (List Nat × List Nat) := (true, [([], []), ([], []), ([1], [1]), ([], []), ([], []), ([4], [4]), ([5], [5]), ([3, 6], [3, 6]), ([], []), ([], []), ([9], [9]), ([10], [10]), ([8, 11, 7], [8, 11]), ([7, 12], [7, 12]), ([], []), ([], []), ([15], [15]), ([16], [16]), ([14, 17, 12], [14, 17]), ([], []), ([], []), ([20], [20]), ([21], [21]), ([19, 22, 18], [19, 22]), ([18, 23], [18, 23]), ([13, 24], [13, 24]), ([], []), ([], []), ([27], [27]), ([26, 28], [26, 28]), ([29], [29]), ([25, 30], [25, 30]), ([0, 2, 0, 1, 2, 3, 4, 5, 6, 7, 8, 9, 10, 11, 12, 13, 14, 15, 16, 17, 18, 19, 20, 21, 22, 23, 24, 25, 26, 27, 28, 29, 30, 31], [0, 2]), ([32, 31, 23, 0, 1, 2, 3, 4, 5, 6, 7, 8, 9, 10, 11, 12, 13, 14, 15, 16, 17, 18, 19, 20, 21, 22, 23, 24, 25, 26, 27, 28, 29, 30, 31], [31, 32])])
def impl_FlipCurve.B8 : List Nat := [0, 0, 2, 0, 0, 16, 48, 120, 0, 0, 512, 1536, 4088, 8184, 0, 0, 32768, 98304, 253944, 0, 0, 1048576, 3145728, 8380408, 16769016, 33554424, 0, 0, 134217728, 469762048, 1006632960, 2147483640, 4294967295, 8589934591]
theorem impl_FlipCurve.tab8 : rtab .any (opsOf Try.f24 8) = impl_FlipCurve.T8 := by kernel_rfl
theorem impl_FlipCurve.bits8 : waitsOk impl_FlipCurve.T8.2 impl_FlipCurve.B8 = true := by kernel_rfl
set_option maxHeartbeats 16000000 in
set_option maxRecDepth 100000 in
theorem impl_FlipCurve.calls (k : Nat) (A0 : Option Addr) (c0 : Nat) (l0 : List (List Int)) (A1 : Option Addr) (c1 : Nat) (l1 : List Int) (a2 : Int) (r1 : List Int) (r2 : Bool) (w : World) (hr0 : Kd.C (Kd.slice 3 (Kd.int .i64)) w A0 l0.length l0) (hc0 : l0.length ≤ c0) (hr1 : Kd.C (Kd.int .i64) w A1 l1.length l1) (hc1 : l1.length ≤ c1) (h : impl_FlipCurve.f k l0 l1 a2 = some (r1, r2)) :
  Calls Try.prog 24 #[.slice A0 l0.length c0, .slice A1 l1.length c1, .int .i64 a2] w fun e w' => ∃ v0_ : Value, e = .returned (.tuple #[v0_, .bool r2]) ∧ Kd.R (Kd.int .i64) 3 w' w.heap.size (fun _ => True) v0_ r1 ∧ Below w.heap.size w w' := by
 have HC0 := Az.mk hc0
 have HXC := Az.mk hc1
 obtain ⟨W0, hW0⟩ : ∃ v, w.alloc (.cells #[.slice A1 l1.length c1] 24) = v := ⟨_, rfl⟩
 have HB0 : Az (Below w.heap.size w W0) := ⟨by rw [← hW0]; exact (Below.refl _ _).alloc (Nat.le_refl _) _⟩
 have HR0 : Az (Kd.C (Kd.slice 3 (Kd.int .i64)) W0 A0 l0.length l0) := ⟨by rw [← hW0]; exact Kd.C_alloc hr0 _⟩
 have HX : Az (Kd.C (Kd.int .i64) W0 A1 l1.length l1) := ⟨by rw [← hW0]; exact Kd.C_alloc hr1 _⟩
 have hx40 : W0.cell? ⟨w.heap.size, 0, none⟩ = some (.slice A1 l1.length c1) := by rw [← hW0]; exact arcs_new _ _ _
 clear hc0 hc1 hr0 hr1
 obtain ⟨r, hr⟩ : ∃ r_ : List Int × Bool, (r1, r2) = r_ := ⟨_, rfl⟩
 have HR := Az.mk hr
 rw [hr] at h
 clear hr
 unfold impl_FlipCurve.f at h
 replace h := Option.bind_eq_some_iff.mp h
 obtain ⟨b1, T1, h⟩ := h
 have T1 := Az.mk T1
 by_cases p1 : b1 = true
 rotate_left
 ·rw [if_neg p1] at h
  replace p1 := Bool.eq_false_iff.mpr p1
  subst p1
  obtain rfl := Option.some.inj h
  obtain ⟨rfl, rfl⟩ := Prod.mk.injEq .. ▸ HR.out
  go_enter Try.func24, Try.ntmps24
  go_wp2_with (first
   | (go_at_call 51; refine (impl_CanFlip.calls k _ c0 l0 a2 false _ (by first | exact Kd.C_drewN HR0.out _ | exact HR0.out) HC0.out T1.out).mono ?_; rintro e W1 ⟨rfl, hb⟩; have HB1 := Az.mk (bwT (by first | exact Below.refl _ _ | exact pbN (Below.refl _ _) _) hb); have hx4 := (HB1.out.cell (World.block_lt_of_cell? W0 _ hx40)).trans hx40; clear hb T1))
  go_ret2
  exact ⟨_, rfl, Kd.R_nil _ _ _ _ _, by first | exact bwT HB0.out HB1.out | exact pbN (bwT HB0.out HB1.out) _⟩
 subst p1
 rw [if_pos rfl] at h
 replace h := Option.bind_eq_some_iff.mp h
 obtain ⟨b2, T2, h⟩ := h
 have T2 := Az.mk T2
 by_cases p2 : b2 = true
 rotate_left
 ·rw [if_neg p2] at h
  replace p2 := Bool.eq_false_iff.mpr p2
  subst p2
  obtain rfl := Option.some.inj h
  obtain ⟨rfl, rfl⟩ := Prod.mk.injEq .. ▸ HR.out
  go_enter Try.func24, Try.ntmps24
  go_wp2_with (first
   | (go_at_call 51; refine (impl_CanFlip.calls k _ c0 l0 a2 true _ (by first | exact Kd.C_drewN HR0.out _ | exact HR0.out) HC0.out T1.out).mono ?_; rintro e W1 ⟨rfl, hb⟩; have HB1 := Az.mk (bwT (by first | exact Below.refl _ _ | exact pbN (Below.refl _ _) _) hb); have hx4 := (HB1.out.cell (World.block_lt_of_cell? W0 _ hx40)).trans hx40; clear hb T1)
   | (go_at_call 69; refine (impl_IsFair.calls k _ c0 l0 A1 c1 l1 false _ (by first | exact Kd.C_drewN (Kd.C_below HR0.out HB1.out) _ | exact Kd.C_below HR0.out HB1.out) HC0.out (by first | exact Kd.C_drewN (Kd.C_below HX.out HB1.out) _ | exact Kd.C_below HX.out HB1.out) HXC.out T2.out).mono ?_; rintro e W2 ⟨rfl, hb⟩; have HB2 := Az.mk (bwT (by first | exact pbN HB1.out _ | exact HB1.out) hb); clear hb T2 hx4; have hx4 := (HB2.out.cell (World.block_lt_of_cell? W0 _ hx40)).trans hx40))
  go_ret2
  exact ⟨_, rfl, Kd.R_nil _ _ _ _ _, by first | exact bwT HB0.out HB2.out | exact pbN (bwT HB0.out HB2.out) _⟩
 subst p2
 rw [if_pos rfl] at h
 replace h := Option.bind_eq_some_iff.mp h
 obtain ⟨⟨s1, s2⟩, T3, h⟩ := h
 replace h := Option.bind_eq_some_iff.mp h
 obtain ⟨⟨o1, o2⟩, T4, h⟩ := h
 have T3 := Az.mk T3
 have T4 := Az.mk T4
 dsimp only at h
 by_cases q1 : 0 ≤ s1
 rotate_left
 ·rw [if_neg q1] at h
  exact absurd h (by simp)
 rw [if_pos q1] at h
 by_cases q2 : s1 < (l0.length : Int)
 rotate_left
 ·rw [if_neg q2] at h
  exact absurd h (by simp)
 rw [if_pos q2] at h
 by_cases q3 : 0 ≤ o1
 rotate_left
 ·rw [if_neg q3] at h
  exact absurd h (by simp)
 rw [if_pos q3] at h
 by_cases q4 : o1 < (l0.length : Int)
 rotate_left
 ·rw [if_neg q4] at h
  exact absurd h (by simp)
 rw [if_pos q4] at h
 replace h := Option.bind_eq_some_iff.mp h
 obtain ⟨one, T5, h⟩ := h
 replace h := Option.bind_eq_some_iff.mp h
 obtain ⟨two, T6, h⟩ := h
 replace h := Option.bind_eq_some_iff.mp h
 obtain ⟨out, T7, h⟩ := h
 have T5 := Az.mk T5
 have T6 := Az.mk T6
 have T7 := Az.mk T7
 have H' := Az.mk h
 clear h
 obtain ⟨ad1, Ar1, cr1, ea1, hw1, hl1, hi1⟩ := at_L1 HR0.out s1 q1 q2
 obtain ⟨ad1', Ar2, cr2, ea2, hw2, hl2, hi2⟩ := at_L1 HR0.out o1 q3 q4
 subst ea1
 obtain rfl : ad1 = ad1' := (by injection ea2)
 have HRr1 := Az.mk hi1
 have HCr1 := Az.mk hl1
 have HRr2 := Az.mk hi2
 have HCr2 := Az.mk hl2
 clear hi1 hl1 hi2 hl2 ea2
 replace q1 := eq_true q1
 replace q2 := eq_true q2
 replace q3 := eq_true q3
 replace q4 := eq_true q4
 go_enter Try.func24, Try.ntmps24
 go_wp2_with (first
  | (go_at_call 51; refine (impl_CanFlip.calls k _ c0 l0 a2 true _ (by first | exact Kd.C_drewN HR0.out _ | exact HR0.out) HC0.out T1.out).mono ?_; rintro e W1 ⟨rfl, hb⟩; have HB1 := Az.mk (bwT (by first | exact Below.refl _ _ | exact pbN (Below.refl _ _) _) hb); have hx4 := (HB1.out.cell (World.block_lt_of_cell? W0 _ hx40)).trans hx40; clear hb T1)
  | (go_at_call 69; refine (impl_IsFair.calls k _ c0 l0 A1 c1 l1 true _ (by first | exact Kd.C_drewN (Kd.C_below HR0.out HB1.out) _ | exact Kd.C_below HR0.out HB1.out) HC0.out (by first | exact Kd.C_drewN (Kd.C_below HX.out HB1.out) _ | exact Kd.C_below HX.out HB1.out) HXC.out T2.out).mono ?_; rintro e W2 ⟨rfl, hb⟩; have HB2 := Az.mk (bwT (by first | exact pbN HB1.out _ | exact HB1.out) hb); clear hb T2 hx4; have hx4 := (HB2.out.cell (World.block_lt_of_cell? W0 _ hx40)).trans hx40)
  | (go_at_call 85; refine (impl_sideAt.calls k _ c0 l0 a2 s1 s2 _ (by first | exact Kd.C_drewN (Kd.C_below HR0.out HB2.out) _ | exact Kd.C_below HR0.out HB2.out) HC0.out T3.out).mono ?_; rintro e W3 ⟨rfl, hd⟩; have hb := Drawn0.below hd; clear hd; have HB3 := Az.mk (bwT (by first | exact pbN HB2.out _ | exact HB2.out) hb); clear hb T3 HB2)
  | (go_at_call 85; refine (impl_sideAt.calls k _ c0 l0 (wrap64 (-a2)) o1 o2 _ (by first | exact Kd.C_drewN (Kd.C_below HR0.out HB3.out) _ | exact Kd.C_below HR0.out HB3.out) HC0.out T4.out).mono ?_; rintro e W4 ⟨rfl, hd⟩; have hb := Drawn0.below hd; clear hd; have HB := Az.mk (bwT (by first | exact pbN HB3.out _ | exact HB3.out) hb); clear hb T4 HB3))
 refine start_ (n := 14) (S := fun w' => w'.cell? (ad1.add s1.toNat) = some (.slice Ar1 (rd_L1 l0 s1).length cr1) ∧ w'.cell? (ad1.add o1.toNat) = some (.slice Ar2 (rd_L1 l0 o1).length cr2)) (ds := []) #[F,F,F,F,F,F,F,F,F,F,F,F,F,F] (by kernel_rfl) rfl rfl ⟨(HB.out.cell (World.block_lt_of_cell? W0 _ hw1)).trans hw1, (HB.out.cell (World.block_lt_of_cell? W0 _ hw2)).trans hw2⟩ (fun hHeld => ?_)
 refine with_tabW impl_FlipCurve.tab5 impl_FlipCurve.bits5 (fun HT_ HW_ => ?_)
 have HBn := Az.mk (bwD HB.out)
 clear HB
 have HB := HBn
 clear HBn
 generalize W4.drew = W4d at HB hHeld ⊢
 refine pure_ (i := 0) (N := some 39) (v := ?_) (a' := ?_) #[T,F,F,F,F,F,F,F,F,F,F,F,F,F] rfl rfl (any_of HT_.out (by kernel_rfl)) (fun _ _ _ h => h) (Or.inl ⟨by rfl, ?_⟩) ?_ ?_
 rotate_left
 ·intro w'
  go_simp
  with_reducible rfl
 rotate_left
 ·simp only [Act.put, List.setIfInBounds_toArray, List.set_cons_zero, List.set_cons_succ, i64_w, i32_w]
  rfl
 refine pure_ (i := 1) (N := some 40) (v := ?_) (a' := ?_) #[T,T,F,F,F,F,F,F,F,F,F,F,F,F] rfl rfl (any_of HT_.out (by kernel_rfl)) (fun _ _ _ h => h) (Or.inl ⟨by rfl, ?_⟩) ?_ ?_
 rotate_left
 ·intro w'
  go_simp
  with_reducible rfl
 rotate_left
 ·simp only [Act.put, List.setIfInBounds_toArray, List.set_cons_zero, List.set_cons_succ, i64_w, i32_w]
  rfl
 refine pure_ (i := 2) (N := some 41) (v := ?_) (a' := ?_) #[T,T,T,F,F,F,F,F,F,F,F,F,F,F] rfl rfl (any_of HT_.out (by kernel_rfl)) (fun _ _ _ h => h) (Or.inl ⟨by rfl, ?_⟩) ?_ ?_
 rotate_left
 ·intro w'
  go_simp
  with_reducible rfl
 rotate_left
 ·simp only [Act.put, List.setIfInBounds_toArray, List.set_cons_zero, List.set_cons_succ, i64_w, i32_w]
  rfl
 refine pure_ (i := 4) (N := some 43) (v := ?_) (a' := ?_) #[T,T,T,F,T,F,F,F,F,F,F,F,F,F] rfl rfl (any_of HT_.out (by kernel_rfl)) (fun _ _ _ h => h) (Or.inl ⟨by rfl, ?_⟩) ?_ ?_
 rotate_left
 ·intro w'
  go_simp
  with_reducible rfl
 rotate_left
 ·simp only [Act.put, List.setIfInBounds_toArray, List.set_cons_zero, List.set_cons_succ, i64_w, i32_w]
  rfl
 refine pure_ (i := 6) (N := some 45) (v := ?_) (a' := ?_) #[T,T,T,F,T,F,T,F,F,F,F,F,F,F] rfl rfl (any_of HT_.out (by kernel_rfl)) (fun _ _ _ h => h) (Or.inl ⟨by rfl, ?_⟩) ?_ ?_
 rotate_left
 ·intro w'
  go_simp
  with_reducible rfl
 rotate_left
 ·simp only [Act.put, List.setIfInBounds_toArray, List.set_cons_zero, List.set_cons_succ, i64_w, i32_w]
  rfl
 refine pure_ (i := 7) (N := some 46) (v := ?_) (a' := ?_) #[T,T,T,F,T,F,T,T,F,F,F,F,F,F] rfl rfl (any_of HT_.out (by kernel_rfl)) (fun _ _ _ h => h) (Or.inl ⟨by rfl, ?_⟩) ?_ ?_
 rotate_left
 ·intro w'
  go_simp
  with_reducible rfl
 rotate_left
 ·simp only [Act.put, List.setIfInBounds_toArray, List.set_cons_zero, List.set_cons_succ, i64_w, i32_w]
  rfl
 refine pure_ (i := 8) (N := some 47) (v := ?_) (a' := ?_) #[T,T,T,F,T,F,T,T,T,F,F,F,F,F] rfl rfl (any_of HT_.out (by kernel_rfl)) (fun _ _ _ h => h) (Or.inl ⟨by rfl, ?_⟩) ?_ ?_
 rotate_left
 ·intro w'
  go_simp
  with_reducible rfl
 rotate_left
 ·simp only [Act.put, List.setIfInBounds_toArray, List.set_cons_zero, List.set_cons_succ, i64_w, i32_w]
  rfl
 refine pure_ (i := 10) (N := some 49) (v := ?_) (a' := ?_) #[T,T,T,F,T,F,T,T,T,F,T,F,F,F] rfl rfl (any_of HT_.out (by kernel_rfl)) (fun _ _ _ h => h) (Or.inl ⟨by rfl, ?_⟩) ?_ ?_
 rotate_left
 ·intro w'
  go_simp
  with_reducible rfl
 rotate_left
 ·simp only [Act.put, List.setIfInBounds_toArray, List.set_cons_zero, List.set_cons_succ, i64_w, i32_w]
  rfl
 refine take_ (i := 3) (N := some 42) (v := ?_) (a' := ?_) #[T,T,T,T,T,F,T,T,T,F,T,F,F,F] rfl rfl (take_ofW HT_.out HW_.out (by kernel_rfl)) (fun _ _ _ h => h) (Or.inl ⟨by rfl, ?_⟩) hHeld ?_ ?_
 rotate_left
 ·rintro w' ⟨s0, s1⟩
  go_simp
  with_reducible rfl
 rotate_left
 ·simp only [Act.put, List.setIfInBounds_toArray, List.set_cons_zero, List.set_cons_succ, i64_w, i32_w]
  rfl
 refine take_ (i := 9) (N := some 48) (v := ?_) (a' := ?_) #[T,T,T,T,T,F,T,T,T,T,T,F,F,F] rfl rfl (take_ofW HT_.out HW_.out (by kernel_rfl)) (fun _ _ _ h => h) (Or.inl ⟨by rfl, ?_⟩) hHeld ?_ ?_
 rotate_left
 ·rintro w' ⟨s0, s1⟩
  go_simp
  with_reducible rfl
 rotate_left
 ·simp only [Act.put, List.setIfInBounds_toArray, List.set_cons_zero, List.set_cons_succ, i64_w, i32_w]
  rfl
 refine one_ (i := 5) (N := some 44) #[T,T,T,T,T,T,T,T,T,T,T,F,F,F] rfl rfl (one_of HT_.out (by kernel_rfl)) (by decide) (fun K hK => ?_)
 refine goes_ Try.func86 (by kernel_rfl) rfl #[.slice Ar1 (rd_L1 l0 s1).length cr1, .int .i64 s2] (by rfl) rfl rfl (by (try simp only [List.map_toArray, List.map_cons, List.map_nil]); first | done | rfl) ?_
 refine (impl_turn.calls _ _ (rd_L1 l0 s1) s2 one _ (Kd.C_below HRr1.out HB.out) HCr1.out T5.out).mono ?_
 rintro e W5 ⟨v1, rfl, ho, hb⟩
 refine ⟨_, rfl, ?_⟩
 have HO1 := Az.mk (Kd.R_lower (base' := W0.heap.size) ho HB.out.size)
 have HBn := Az.mk (bwT HB.out hb)
 clear HB ho hb
 have HB := HBn
 clear HBn
 refine hK.out _ _ ⟨(HB.out.cell (World.block_lt_of_cell? W0 _ hw1)).trans hw1, (HB.out.cell (World.block_lt_of_cell? W0 _ hw2)).trans hw2⟩ (fun hHeld => ?_)
 clear hK K
 refine norm_ (a' := ?_) ?_ ?_
 rotate_left
 ·show Act.put _ (some 44) _ = _
  simp only [Act.put, List.setIfInBounds_toArray, List.set_cons_zero, List.set_cons_succ, i64_w, i32_w]
  rfl
 refine one_ (i := 11) (N := some 50) #[T,T,T,T,T,T,T,T,T,T,T,T,F,F] rfl rfl (one_of HT_.out (by kernel_rfl)) (by decide) (fun K hK => ?_)
 refine goes_ Try.func86 (by kernel_rfl) rfl #[.slice Ar2 (rd_L1 l0 o1).length cr2, .int .i64 o2] (by rfl) rfl rfl (by (try simp only [List.map_toArray, List.map_cons, List.map_nil]); first | done | rfl) ?_
 refine (impl_turn.calls _ _ (rd_L1 l0 o1) o2 two _ (Kd.C_below HRr2.out HB.out) HCr2.out T6.out).mono ?_
 rintro e W6 ⟨v2, rfl, ho, hb⟩
 refine ⟨_, rfl, ?_⟩
 have HO1n := Az.mk (Kd.R_below HO1.out hb)
 clear HO1
 have HO1 := HO1n
 clear HO1n
 have HO2 := Az.mk (Kd.R_lower (base' := W0.heap.size) ho HB.out.size)
 have HBn := Az.mk (bwT HB.out hb)
 clear HB ho hb
 have HB := HBn
 clear HBn
 refine hK.out _ _ ⟨(HB.out.cell (World.block_lt_of_cell? W0 _ hw1)).trans hw1, (HB.out.cell (World.block_lt_of_cell? W0 _ hw2)).trans hw2⟩ (fun hHeld => ?_)
 clear hK K
 refine norm_ (a' := ?_) ?_ ?_
 rotate_left
 ·show Act.put _ (some 50) _ = _
  simp only [Act.put, List.setIfInBounds_toArray, List.set_cons_zero, List.set_cons_succ, i64_w, i32_w]
  rfl
 refine pure_ (i := 12) (N := some 12) (v := ?_) (a' := ?_) #[T,T,T,T,T,T,T,T,T,T,T,T,T,F] rfl rfl (any_of HT_.out (by kernel_rfl)) (fun _ _ _ h => h) (Or.inl ⟨by rfl, ?_⟩) ?_ ?_
 rotate_left
 ·intro w'
  go_simp
  with_reducible rfl
 rotate_left
 ·simp only [Act.put, List.setIfInBounds_toArray, List.set_cons_zero, List.set_cons_succ, i64_w, i32_w]
  rfl
 refine pure_ (i := 13) (N := some 13) (v := ?_) (a' := ?_) #[T,T,T,T,T,T,T,T,T,T,T,T,T,T] rfl rfl (any_of HT_.out (by kernel_rfl)) (fun _ _ _ h => h) (Or.inl ⟨by rfl, ?_⟩) ?_ ?_
 rotate_left
 ·intro w'
  go_simp
  with_reducible rfl
 rotate_left
 ·simp only [Act.put, List.setIfInBounds_toArray, List.set_cons_zero, List.set_cons_succ, i64_w, i32_w]
  rfl
 refine done_ (done_of HT_.out (by kernel_rfl)) ?_
 have hx4 := (HB.out.cell (World.block_lt_of_cell? W0 _ hx40)).trans hx40
 clear hHeld HRr1 HCr1 HRr2 HCr2 hw1 hw2
 go_wp2_with (first
  | (go_at_call 89; refine (impl_copyOf.calls _ c1 l1 out _ (by first | exact Kd.C_drewN (Kd.C_below HX.out HB.out) _ | exact Kd.C_below HX.out HB.out) HXC.out T7.out).mono ?_; rintro e W7 ⟨v3, rfl, ho, hb⟩; have HO := Az.mk (Kd.R_lower (base' := W0.heap.size) ho (by first | exact HB.out.size | exact (pbN HB.out _).size)); have HO1n := Az.mk (Kd.R_below (by first | exact Kd.R_drewN HO1.out _ | exact HO1.out) hb); have HO2n := Az.mk (Kd.R_below (by first | exact Kd.R_drewN HO2.out _ | exact HO2.out) hb); have HBn := Az.mk (bwT (by first | exact pbN HB.out _ | exact HB.out) hb); clear ho hb HO1 HO2 HB T7 hx4; have HO1 := HO1n; have HO2 := HO2n; have HB := HBn; clear HO1n HO2n HBn; have hx4 := (HB.out.cell (World.block_lt_of_cell? W0 _ hx40)).trans hx40))
 have H := H'.out
 clear H'
 unfold impl_FlipCurve.g at H
 by_cases j1 : 2 < (one.length : Int)
 rotate_left
 ·rw [if_neg j1] at H
  exact absurd H (by simp)
 rw [if_pos j1] at H
 by_cases j2 : 2 < (two.length : Int)
 rotate_left
 ·rw [if_neg j2] at H
  exact absurd H (by simp)
 rw [if_pos j2] at H
 replace H := Option.bind_eq_some_iff.mp H
 obtain ⟨n1, N1, H⟩ := H
 replace H := Option.bind_eq_some_iff.mp H
 obtain ⟨n2, N2, H⟩ := H
 replace H := Option.bind_eq_some_iff.mp H
 obtain ⟨n3, N3, H⟩ := H
 replace H := Option.bind_eq_some_iff.mp H
 obtain ⟨n4, N4, H⟩ := H
 have N1 := Az.mk N1
 have N2 := Az.mk N2
 have N3 := Az.mk N3
 have N4 := Az.mk N4
 obtain ⟨Z, hZ⟩ : ∃ j_ : Int, wrap64 (a2 - 1) = j_ := ⟨_, rfl⟩
 have hZw : IntKind.i64.wrap (a2 - 1) = Z := (i64_w _).trans hZ
 rw [hZ] at H
 by_cases z0 : 0 ≤ Z
 rotate_left
 ·rw [if_neg z0] at H
  exact absurd H (by simp)
 rw [if_pos z0] at H
 by_cases z1 : Z < (l1.length : Int)
 rotate_left
 ·rw [if_neg z1] at H
  exact absurd H (by simp)
 rw [if_pos z1] at H
 by_cases z2 : Z < (out.length : Int)
 rotate_left
 ·rw [if_neg z2] at H
  exact absurd H (by simp)
 rw [if_pos z2] at H
 have H' := Az.mk H
 clear H
 obtain ⟨adx, ex, hxz⟩ := Kd.at_int (Kd.C_below HX.out HB.out) Z z0 z1
 subst ex
 obtain ⟨Ao1, co1, eo1⟩ := Kd.R_slice HO1.out
 subst eo1
 obtain ⟨Ao2, co2, eo2⟩ := Kd.R_slice HO2.out
 subst eo2
 obtain ⟨Ao, co, eo⟩ := Kd.R_slice HO.out
 subst eo
 obtain ⟨ad3, e3, hone2⟩ := Kd.at_int (Kd.R_reads' HO1.out).2.2 2 (by omega) j1
 subst e3
 obtain ⟨ad3', e3, hone1⟩ := Kd.at_int (Kd.R_reads' HO1.out).2.2 1 (by omega) (by omega)
 obtain rfl : ad3 = ad3' := (by injection e3)
 obtain ⟨ad4, e4, htwo2⟩ := Kd.at_int (Kd.R_reads' HO2.out).2.2 2 (by omega) j2
 subst e4
 obtain ⟨ad4', e4, htwo1⟩ := Kd.at_int (Kd.R_reads' HO2.out).2.2 1 (by omega) (by omega)
 obtain rfl : ad4 = ad4' := (by injection e4)
 simp only [show (2 : Int).toNat = 2 from rfl, show (1 : Int).toNat = 1 from rfl, Nat.reduceMul, Nat.reduceEqDiff, Go.Addr.add, ↓reduceIte] at hone2 hone1 htwo2 htwo1
 obtain ⟨g, eg⟩ := fc_some HO.out z0 z2
 subst eg
 obtain ⟨hx, hf, zn, fin⟩ := fc_at HO.out HB.out z0 z2
 have zzn := eq_true zn
 have j1b := eq_true j1
 have j2b := eq_true j2
 have j1c : (2 < one.length) = True := eq_true (by omega)
 have j2c : (2 < two.length) = True := eq_true (by omega)
 have j1d : (1 < one.length) = True := eq_true (by omega)
 have j2d : (1 < two.length) = True := eq_true (by omega)
 have j1e : ((1 : Int) < (one.length : Int)) = True := eq_true (by omega)
 have j2e : ((1 : Int) < (two.length : Int)) = True := eq_true (by omega)
 have z0b := eq_true z0
 have z1b := eq_true z1
 have z2b := eq_true z2
 clear e3 e4 zn j1 j2 z0 z1 fin
       
 refine start_ (n := 34) (S := fun w' => w'.cell? ⟨w.heap.size, 0, none⟩ = some (.slice (some adx) l1.length c1) ∧ w'.cell? ⟨ad3.block, ad3.off + 1, none⟩ = some (.int .i64 (rd one 1)) ∧ w'.cell? ⟨ad4.block, ad4.off + 1, none⟩ = some (.int .i64 (rd two 1)) ∧ w'.cell? ⟨ad3.block, ad3.off + 2, none⟩ = some (.int .i64 (rd one 2)) ∧ w'.cell? ⟨ad4.block, ad4.off + 2, none⟩ = some (.int .i64 (rd two 2)) ∧ w'.cell? (adx.add Z.toNat) = some (.int .i64 (rd l1 Z))) (ds := [33]) #[F,F,F,F,F,F,F,F,F,F,F,F,F,F,F,F,F,F,F,F,F,F,F,F,F,F,F,F,F,F,F,F,F,F] (by kernel_rfl) rfl rfl ⟨by simpa using hx4, by simpa using hone1, by simpa using htwo1, by simpa using hone2, by simpa using htwo2, by simpa using hxz⟩ (fun hHeld => ?_)
 refine with_tabW impl_FlipCurve.tab8 impl_FlipCurve.bits8 (fun HT_ HW_ => ?_)
 have HBn := Az.mk (bwD HB.out)
 have HOn := Az.mk (Kd.R_drew HO.out)
 clear HB HO
 have HB := HBn
 have HO := HOn
 clear HBn HOn
 replace hx := (show W7.drew.cell? ⟨g, Z.toNat, none⟩ = some (.int .i64 (rd out Z)) from by simpa using hx)
 replace hf := (show W7.drew.frozen? ⟨g, Z.toNat, none⟩ = false from by simpa using hf)
 generalize W7.drew = W7d at HB HO hHeld hx hf ⊢
 refine pure_ (i := 0) (N := some 54) (v := ?_) (a' := ?_) #[T,F,F,F,F,F,F,F,F,F,F,F,F,F,F,F,F,F,F,F,F,F,F,F,F,F,F,F,F,F,F,F,F,F] rfl rfl (any_of HT_.out (by kernel_rfl)) (fun _ _ _ h => h) (Or.inl ⟨by rfl, ?_⟩) ?_ ?_
 rotate_left
 ·intro w'
  go_simp
  with_reducible rfl
 rotate_left
 ·simp only [Act.put, List.setIfInBounds_toArray, List.set_cons_zero, List.set_cons_succ, i64_w, i32_w]
  rfl
 refine pure_ (i := 1) (N := some 55) (v := ?_) (a' := ?_) #[T,T,F,F,F,F,F,F,F,F,F,F,F,F,F,F,F,F,F,F,F,F,F,F,F,F,F,F,F,F,F,F,F,F] rfl rfl (any_of HT_.out (by kernel_rfl)) (fun _ _ _ h => h) (Or.inl ⟨by rfl, ?_⟩) ?_ ?_
 rotate_left
 ·intro w'
  go_simp
  with_reducible rfl
 rotate_left
 ·simp only [Act.put, List.setIfInBounds_toArray, List.set_cons_zero, List.set_cons_succ, i64_w, i32_w]
  rfl
 refine pure_ (i := 2) (N := some 56) (v := ?_) (a' := ?_) #[T,T,T,F,F,F,F,F,F,F,F,F,F,F,F,F,F,F,F,F,F,F,F,F,F,F,F,F,F,F,F,F,F,F] rfl rfl (any_of HT_.out (by kernel_rfl)) (fun _ _ _ h => h) (Or.inl ⟨by rfl, ?_⟩) ?_ ?_
 rotate_left
 ·intro w'
  go_simp
  with_reducible rfl
 rotate_left
 ·simp only [Act.put, List.setIfInBounds_toArray, List.set_cons_zero, List.set_cons_succ, i64_w, i32_w]
  rfl
 refine pure_ (i := 3) (N := some 57) (v := ?_) (a' := ?_) #[T,T,T,T,F,F,F,F,F,F,F,F,F,F,F,F,F,F,F,F,F,F,F,F,F,F,F,F,F,F,F,F,F,F] rfl rfl (any_of HT_.out (by kernel_rfl)) (fun _ _ _ h => h) (Or.inl ⟨by rfl, ?_⟩) ?_ ?_
 rotate_left
 ·intro w'
  go_simp
  with_reducible rfl
 rotate_left
 ·simp only [Act.put, List.setIfInBounds_toArray, List.set_cons_zero, List.set_cons_succ, i64_w, i32_w]
  rfl
 refine pure_ (i := 4) (N := some 58) (v := ?_) (a' := ?_) #[T,T,T,T,T,F,F,F,F,F,F,F,F,F,F,F,F,F,F,F,F,F,F,F,F,F,F,F,F,F,F,F,F,F] rfl rfl (any_of HT_.out (by kernel_rfl)) (fun _ _ _ h => h) (Or.inl ⟨by rfl, ?_⟩) ?_ ?_
 rotate_left
 ·intro w'
  go_simp
  with_reducible rfl
 rotate_left
 ·simp only [Act.put, List.setIfInBounds_toArray, List.set_cons_zero, List.set_cons_succ, i64_w, i32_w]
  rfl
 refine pure_ (i := 5) (N := some 59) (v := ?_) (a' := ?_) #[T,T,T,T,T,T,F,F,F,F,F,F,F,F,F,F,F,F,F,F,F,F,F,F,F,F,F,F,F,F,F,F,F,F] rfl rfl (any_of HT_.out (by kernel_rfl)) (fun _ _ _ h => h) (Or.inl ⟨by rfl, ?_⟩) ?_ ?_
 rotate_left
 ·intro w'
  go_simp
  with_reducible rfl
 rotate_left
 ·simp only [Act.put, List.setIfInBounds_toArray, List.set_cons_zero, List.set_cons_succ, i64_w, i32_w]
  rfl
 refine pure_ (i := 8) (N := some 62) (v := ?_) (a' := ?_) #[T,T,T,T,T,T,F,F,T,F,F,F,F,F,F,F,F,F,F,F,F,F,F,F,F,F,F,F,F,F,F,F,F,F] rfl rfl (any_of HT_.out (by kernel_rfl)) (fun _ _ _ h => h) (Or.inl ⟨by rfl, ?_⟩) ?_ ?_
 rotate_left
 ·intro w'
  go_simp
  with_reducible rfl
 rotate_left
 ·simp only [Act.put, List.setIfInBounds_toArray, List.set_cons_zero, List.set_cons_succ, i64_w, i32_w]
  rfl
 refine pure_ (i := 9) (N := some 63) (v := ?_) (a' := ?_) #[T,T,T,T,T,T,F,F,T,T,F,F,F,F,F,F,F,F,F,F,F,F,F,F,F,F,F,F,F,F,F,F,F,F] rfl rfl (any_of HT_.out (by kernel_rfl)) (fun _ _ _ h => h) (Or.inl ⟨by rfl, ?_⟩) ?_ ?_
 rotate_left
 ·intro w'
  go_simp
  with_reducible rfl
 rotate_left
 ·simp only [Act.put, List.setIfInBounds_toArray, List.set_cons_zero, List.set_cons_succ, i64_w, i32_w]
  rfl
 refine pure_ (i := 10) (N := some 64) (v := ?_) (a' := ?_) #[T,T,T,T,T,T,F,F,T,T,T,F,F,F,F,F,F,F,F,F,F,F,F,F,F,F,F,F,F,F,F,F,F,F] rfl rfl (any_of HT_.out (by kernel_rfl)) (fun _ _ _ h => h) (Or.inl ⟨by rfl, ?_⟩) ?_ ?_
 rotate_left
 ·intro w'
  go_simp
  with_reducible rfl
 rotate_left
 ·simp only [Act.put, List.setIfInBounds_toArray, List.set_cons_zero, List.set_cons_succ, i64_w, i32_w]
  rfl
 refine pure_ (i := 14) (N := some 68) (v := ?_) (a' := ?_) #[T,T,T,T,T,T,F,F,T,T,T,F,F,F,T,F,F,F,F,F,F,F,F,F,F,F,F,F,F,F,F,F,F,F] rfl rfl (any_of HT_.out (by kernel_rfl)) (fun _ _ _ h => h) (Or.inl ⟨by rfl, ?_⟩) ?_ ?_
 rotate_left
 ·intro w'
  go_simp
  with_reducible rfl
 rotate_left
 ·simp only [Act.put, List.setIfInBounds_toArray, List.set_cons_zero, List.set_cons_succ, i64_w, i32_w]
  rfl
 refine pure_ (i := 15) (N := some 69) (v := ?_) (a' := ?_) #[T,T,T,T,T,T,F,F,T,T,T,F,F,F,T,T,F,F,F,F,F,F,F,F,F,F,F,F,F,F,F,F,F,F] rfl rfl (any_of HT_.out (by kernel_rfl)) (fun _ _ _ h => h) (Or.inl ⟨by rfl, ?_⟩) ?_ ?_
 rotate_left
 ·intro w'
  go_simp
  with_reducible rfl
 rotate_left
 ·simp only [Act.put, List.setIfInBounds_toArray, List.set_cons_zero, List.set_cons_succ, i64_w, i32_w]
  rfl
 refine pure_ (i := 16) (N := some 70) (v := ?_) (a' := ?_) #[T,T,T,T,T,T,F,F,T,T,T,F,F,F,T,T,T,F,F,F,F,F,F,F,F,F,F,F,F,F,F,F,F,F] rfl rfl (any_of HT_.out (by kernel_rfl)) (fun _ _ _ h => h) (Or.inl ⟨by rfl, ?_⟩) ?_ ?_
 rotate_left
 ·intro w'
  go_simp
  with_reducible rfl
 rotate_left
 ·simp only [Act.put, List.setIfInBounds_toArray, List.set_cons_zero, List.set_cons_succ, i64_w, i32_w]
  rfl
 refine pure_ (i := 19) (N := some 73) (v := ?_) (a' := ?_) #[T,T,T,T,T,T,F,F,T,T,T,F,F,F,T,T,T,F,F,T,F,F,F,F,F,F,F,F,F,F,F,F,F,F] rfl rfl (any_of HT_.out (by kernel_rfl)) (fun _ _ _ h => h) (Or.inl ⟨by rfl, ?_⟩) ?_ ?_
 rotate_left
 ·intro w'
  go_simp
  with_reducible rfl
 rotate_left
 ·simp only [Act.put, List.setIfInBounds_toArray, List.set_cons_zero, List.set_cons_succ, i64_w, i32_w]
  rfl
 refine pure_ (i := 20) (N := some 74) (v := ?_) (a' := ?_) #[T,T,T,T,T,T,F,F,T,T,T,F,F,F,T,T,T,F,F,T,T,F,F,F,F,F,F,F,F,F,F,F,F,F] rfl rfl (any_of HT_.out (by kernel_rfl)) (fun _ _ _ h => h) (Or.inl ⟨by rfl, ?_⟩) ?_ ?_
 rotate_left
 ·intro w'
  go_simp
  with_reducible rfl
 rotate_left
 ·simp only [Act.put, List.setIfInBounds_toArray, List.set_cons_zero, List.set_cons_succ, i64_w, i32_w]
  rfl
 refine pure_ (i := 21) (N := some 75) (v := ?_) (a' := ?_) #[T,T,T,T,T,T,F,F,T,T,T,F,F,F,T,T,T,F,F,T,T,T,F,F,F,F,F,F,F,F,F,F,F,F] rfl rfl (any_of HT_.out (by kernel_rfl)) (fun _ _ _ h => h) (Or.inl ⟨by rfl, ?_⟩) ?_ ?_
 rotate_left
 ·intro w'
  go_simp
  with_reducible rfl
 rotate_left
 ·simp only [Act.put, List.setIfInBounds_toArray, List.set_cons_zero, List.set_cons_succ, i64_w, i32_w]
  rfl
 refine pure_ (i := 27) (N := some 81) (v := ?_) (a' := ?_) #[T,T,T,T,T,T,F,F,T,T,T,F,F,F,T,T,T,F,F,T,T,T,F,F,F,F,F,T,F,F,F,F,F,F] rfl rfl (any_of HT_.out (by kernel_rfl)) (fun _ _ _ h => h) (Or.inl ⟨by rfl, ?_⟩) ?_ ?_
 rotate_left
 ·intro w'
  go_simp
  with_reducible rfl
 rotate_left
 ·simp only [Act.put, List.setIfInBounds_toArray, List.set_cons_zero, List.set_cons_succ, i64_w, i32_w]
  rfl
 refine pure_ (i := 28) (N := some 82) (v := ?_) (a' := ?_) #[T,T,T,T,T,T,F,F,T,T,T,F,F,F,T,T,T,F,F,T,T,T,F,F,F,F,F,T,T,F,F,F,F,F] rfl rfl (any_of HT_.out (by kernel_rfl)) (fun _ _ _ h => h) (Or.inl ⟨by rfl, ?_⟩) ?_ ?_
 rotate_left
 ·intro w'
  go_simp
  with_reducible rfl
 rotate_left
 ·simp only [Act.put, List.setIfInBounds_toArray, List.set_cons_zero, List.set_cons_succ, i64_w, i32_w]
  rfl
 refine take_ (i := 6) (N := some 60) (v := ?_) (a' := ?_) #[T,T,T,T,T,T,T,F,T,T,T,F,F,F,T,T,T,F,F,T,T,T,F,F,F,F,F,T,T,F,F,F,F,F] rfl rfl (take_ofW HT_.out HW_.out (by kernel_rfl)) (fun _ _ _ h => h) (Or.inl ⟨by rfl, ?_⟩) hHeld ?_ ?_
 rotate_left
 ·rintro w' ⟨s0, s1, s2, s3, s4, s5⟩
  go_simp
  with_reducible rfl
 rotate_left
 ·simp only [Act.put, List.setIfInBounds_toArray, List.set_cons_zero, List.set_cons_succ, i64_w, i32_w]
  rfl
 refine take_ (i := 11) (N := some 65) (v := ?_) (a' := ?_) #[T,T,T,T,T,T,T,F,T,T,T,T,F,F,T,T,T,F,F,T,T,T,F,F,F,F,F,T,T,F,F,F,F,F] rfl rfl (take_ofW HT_.out HW_.out (by kernel_rfl)) (fun _ _ _ h => h) (Or.inl ⟨by rfl, ?_⟩) hHeld ?_ ?_
 rotate_left
 ·rintro w' ⟨s0, s1, s2, s3, s4, s5⟩
  go_simp
  with_reducible rfl
 rotate_left
 ·simp only [Act.put, List.setIfInBounds_toArray, List.set_cons_zero, List.set_cons_succ, i64_w, i32_w]
  rfl
 refine take_ (i := 17) (N := some 71) (v := ?_) (a' := ?_) #[T,T,T,T,T,T,T,F,T,T,T,T,F,F,T,T,T,T,F,T,T,T,F,F,F,F,F,T,T,F,F,F,F,F] rfl rfl (take_ofW HT_.out HW_.out (by kernel_rfl)) (fun _ _ _ h => h) (Or.inl ⟨by rfl, ?_⟩) hHeld ?_ ?_
 rotate_left
 ·rintro w' ⟨s0, s1, s2, s3, s4, s5⟩
  go_simp
  with_reducible rfl
 rotate_left
 ·simp only [Act.put, List.setIfInBounds_toArray, List.set_cons_zero, List.set_cons_succ, i64_w, i32_w]
  rfl
 refine take_ (i := 22) (N := some 76) (v := ?_) (a' := ?_) #[T,T,T,T,T,T,T,F,T,T,T,T,F,F,T,T,T,T,F,T,T,T,T,F,F,F,F,T,T,F,F,F,F,F] rfl rfl (take_ofW HT_.out HW_.out (by kernel_rfl)) (fun _ _ _ h => h) (Or.inl ⟨by rfl, ?_⟩) hHeld ?_ ?_
 rotate_left
 ·rintro w' ⟨s0, s1, s2, s3, s4, s5⟩
  go_simp
  with_reducible rfl
 rotate_left
 ·simp only [Act.put, List.setIfInBounds_toArray, List.set_cons_zero, List.set_cons_succ, i64_w, i32_w]
  rfl
 refine take_ (i := 26) (N := some 80) (v := ?_) (a' := ?_) #[T,T,T,T,T,T,T,F,T,T,T,T,F,F,T,T,T,T,F,T,T,T,T,F,F,F,T,T,T,F,F,F,F,F] rfl rfl (take_ofW HT_.out HW_.out (by kernel_rfl)) (fun _ _ _ h => h) (Or.inl ⟨by rfl, ?_⟩) hHeld ?_ ?_
 rotate_left
 ·rintro w' ⟨s0, s1, s2, s3, s4, s5⟩
  go_simp
  with_reducible rfl
 rotate_left
 ·simp only [Act.put, List.setIfInBounds_toArray, List.set_cons_zero, List.set_cons_succ, i64_w, i32_w]
  rfl
 refine pure_ (i := 29) (N := some 83) (v := ?_) (a' := ?_) #[T,T,T,T,T,T,T,F,T,T,T,T,F,F,T,T,T,T,F,T,T,T,T,F,F,F,T,T,T,T,F,F,F,F] rfl rfl (any_of HT_.out (by kernel_rfl)) (fun _ _ _ h => h) (Or.inl ⟨by rfl, ?_⟩) ?_ ?_
 rotate_left
 ·intro w'
  go_simp
  with_reducible rfl
 rotate_left
 ·simp only [Act.put, List.setIfInBounds_toArray, List.set_cons_zero, List.set_cons_succ, i64_w, i32_w]
  rfl
 refine take_ (i := 30) (N := some 84) (v := ?_) (a' := ?_) #[T,T,T,T,T,T,T,F,T,T,T,T,F,F,T,T,T,T,F,T,T,T,T,F,F,F,T,T,T,T,T,F,F,F] rfl rfl (take_ofW HT_.out HW_.out (by kernel_rfl)) (fun _ _ _ h => h) (Or.inl ⟨by rfl, ?_⟩) hHeld ?_ ?_
 rotate_left
 ·rintro w' ⟨s0, s1, s2, s3, s4, s5⟩
  go_simp
  with_reducible rfl
 rotate_left
 ·simp only [Act.put, List.setIfInBounds_toArray, List.set_cons_zero, List.set_cons_succ, i64_w, i32_w]
  rfl
 refine one_ (i := 7) (N := some 61) #[T,T,T,T,T,T,T,T,T,T,T,T,F,F,T,T,T,T,F,T,T,T,T,F,F,F,T,T,T,T,T,F,F,F] rfl rfl (one_of HT_.out (by kernel_rfl)) (by decide) (fun K hK => ?_)
 refine goesF_ Try.func87 (by kernel_rfl) rfl #[.int .i64 (rd one 1), .pointer (some ⟨w.heap.size, 0, none⟩)] (by rfl) rfl rfl rfl (by simp only [List.map_toArray, List.map_cons, List.map_nil, List.append_toArray, List.cons_append, List.nil_append]; first | done | rfl) ?_
 refine (flipNum.calls (rd one 1) _ _ c1 l1 n1 _ hHeld.1 (by repeat (first | exact Kd.C_below HX.out HB.out | refine Kd.C_drewN ?_ _)) N1.out).mono ?_
 rintro e W11 ⟨rfl, ⟨nd11, rfl⟩⟩
 refine ⟨_, rfl, ?_⟩
 refine hK.out _ _ ⟨by simpa using hHeld.1, by simpa using hHeld.2.1, by simpa using hHeld.2.2.1, by simpa using hHeld.2.2.2.1, by simpa using hHeld.2.2.2.2.1, by simpa using hHeld.2.2.2.2.2⟩ (fun hHeld => ?_)
 clear hK K
 refine norm_ (a' := ?_) ?_ ?_
 rotate_left
 ·show Act.put _ (some 61) _ = _
  simp only [Act.put, List.setIfInBounds_toArray, List.set_cons_zero, List.set_cons_succ, i64_w, i32_w]
  rfl
 refine one_ (i := 12) (N := some 66) #[T,T,T,T,T,T,T,T,T,T,T,T,T,F,T,T,T,T,F,T,T,T,T,F,F,F,T,T,T,T,T,F,F,F] rfl rfl (one_of HT_.out (by kernel_rfl)) (by decide) (fun K hK => ?_)
 refine goesF_ Try.func87 (by kernel_rfl) rfl #[.int .i64 (rd two 1), .pointer (some ⟨w.heap.size, 0, none⟩)] (by rfl) rfl rfl rfl (by simp only [List.map_toArray, List.map_cons, List.map_nil, List.append_toArray, List.cons_append, List.nil_append]; first | done | rfl) ?_
 refine (flipNum.calls (rd two 1) _ _ c1 l1 n2 _ hHeld.1 (by repeat (first | exact Kd.C_below HX.out HB.out | refine Kd.C_drewN ?_ _)) N2.out).mono ?_
 rintro e W12 ⟨rfl, ⟨nd12, rfl⟩⟩
 refine ⟨_, rfl, ?_⟩
 refine hK.out _ _ ⟨by simpa using hHeld.1, by simpa using hHeld.2.1, by simpa using hHeld.2.2.1, by simpa using hHeld.2.2.2.1, by simpa using hHeld.2.2.2.2.1, by simpa using hHeld.2.2.2.2.2⟩ (fun hHeld => ?_)
 clear hK K
 refine norm_ (a' := ?_) ?_ ?_
 rotate_left
 ·show Act.put _ (some 66) _ = _
  simp only [Act.put, List.setIfInBounds_toArray, List.set_cons_zero, List.set_cons_succ, i64_w, i32_w]
  rfl
 refine pure_ (i := 13) (N := some 67) (v := ?_) (a' := ?_) #[T,T,T,T,T,T,T,T,T,T,T,T,T,T,T,T,T,T,F,T,T,T,T,F,F,F,T,T,T,T,T,F,F,F] rfl rfl (any_of HT_.out (by kernel_rfl)) (fun _ _ _ h => h) (Or.inl ⟨by rfl, ?_⟩) ?_ ?_
 rotate_left
 ·intro w'
  go_simp
  with_reducible rfl
 rotate_left
 ·simp only [Act.put, List.setIfInBounds_toArray, List.set_cons_zero, List.set_cons_succ, i64_w, i32_w]
  rfl
 refine one_ (i := 18) (N := some 72) #[T,T,T,T,T,T,T,T,T,T,T,T,T,T,T,T,T,T,T,T,T,T,T,F,F,F,T,T,T,T,T,F,F,F] rfl rfl (one_of HT_.out (by kernel_rfl)) (by decide) (fun K hK => ?_)
 refine goesF_ Try.func87 (by kernel_rfl) rfl #[.int .i64 (rd one 2), .pointer (some ⟨w.heap.size, 0, none⟩)] (by rfl) rfl rfl rfl (by simp only [List.map_toArray, List.map_cons, List.map_nil, List.append_toArray, List.cons_append, List.nil_append]; first | done | rfl) ?_
 refine (flipNum.calls (rd one 2) _ _ c1 l1 n3 _ hHeld.1 (by repeat (first | exact Kd.C_below HX.out HB.out | refine Kd.C_drewN ?_ _)) N3.out).mono ?_
 rintro e W13 ⟨rfl, ⟨nd13, rfl⟩⟩
 refine ⟨_, rfl, ?_⟩
 refine hK.out _ _ ⟨by simpa using hHeld.1, by simpa using hHeld.2.1, by simpa using hHeld.2.2.1, by simpa using hHeld.2.2.2.1, by simpa using hHeld.2.2.2.2.1, by simpa using hHeld.2.2.2.2.2⟩ (fun hHeld => ?_)
 clear hK K
 refine norm_ (a' := ?_) ?_ ?_
 rotate_left
 ·show Act.put _ (some 72) _ = _
  simp only [Act.put, List.setIfInBounds_toArray, List.set_cons_zero, List.set_cons_succ, i64_w, i32_w]
  rfl
 refine one_ (i := 23) (N := some 77) #[T,T,T,T,T,T,T,T,T,T,T,T,T,T,T,T,T,T,T,T,T,T,T,T,F,F,T,T,T,T,T,F,F,F] rfl rfl (one_of HT_.out (by kernel_rfl)) (by decide) (fun K hK => ?_)
 refine goesF_ Try.func87 (by kernel_rfl) rfl #[.int .i64 (rd two 2), .pointer (some ⟨w.heap.size, 0, none⟩)] (by rfl) rfl rfl rfl (by simp only [List.map_toArray, List.map_cons, List.map_nil, List.append_toArray, List.cons_append, List.nil_append]; first | done | rfl) ?_
 refine (flipNum.calls (rd two 2) _ _ c1 l1 n4 _ hHeld.1 (by repeat (first | exact Kd.C_below HX.out HB.out | refine Kd.C_drewN ?_ _)) N4.out).mono ?_
 rintro e W14 ⟨rfl, ⟨nd14, rfl⟩⟩
 refine ⟨_, rfl, ?_⟩
 refine hK.out _ _ ⟨by simpa using hHeld.1, by simpa using hHeld.2.1, by simpa using hHeld.2.2.1, by simpa using hHeld.2.2.2.1, by simpa using hHeld.2.2.2.2.1, by simpa using hHeld.2.2.2.2.2⟩ (fun hHeld => ?_)
 clear hK K
 refine norm_ (a' := ?_) ?_ ?_
 rotate_left
 ·show Act.put _ (some 77) _ = _
  simp only [Act.put, List.setIfInBounds_toArray, List.set_cons_zero, List.set_cons_succ, i64_w, i32_w]
  rfl
 refine pure_ (i := 24) (N := some 78) (v := ?_) (a' := ?_) #[T,T,T,T,T,T,T,T,T,T,T,T,T,T,T,T,T,T,T,T,T,T,T,T,T,F,T,T,T,T,T,F,F,F] rfl rfl (any_of HT_.out (by kernel_rfl)) (fun _ _ _ h => h) (Or.inl ⟨by rfl, ?_⟩) ?_ ?_
 rotate_left
 ·intro w'
  go_simp
  with_reducible rfl
 rotate_left
 ·simp only [Act.put, List.setIfInBounds_toArray, List.set_cons_zero, List.set_cons_succ, i64_w, i32_w]
  rfl
 refine pure_ (i := 25) (N := some 79) (v := ?_) (a' := ?_) #[T,T,T,T,T,T,T,T,T,T,T,T,T,T,T,T,T,T,T,T,T,T,T,T,T,T,T,T,T,T,T,F,F,F] rfl rfl (any_of HT_.out (by kernel_rfl)) (fun _ _ _ h => h) (Or.inl ⟨by rfl, ?_⟩) ?_ ?_
 rotate_left
 ·intro w'
  go_simp
  with_reducible rfl
 rotate_left
 ·simp only [Act.put, List.setIfInBounds_toArray, List.set_cons_zero, List.set_cons_succ, i64_w, i32_w]
  rfl
 refine pure_ (i := 31) (N := some 85) (v := ?_) (a' := ?_) #[T,T,T,T,T,T,T,T,T,T,T,T,T,T,T,T,T,T,T,T,T,T,T,T,T,T,T,T,T,T,T,T,F,F] rfl rfl (any_of HT_.out (by kernel_rfl)) (fun _ _ _ h => h) (Or.inl ⟨by rfl, ?_⟩) ?_ ?_
 rotate_left
 ·intro w'
  go_simp
  with_reducible rfl
 rotate_left
 ·simp only [Act.put, List.setIfInBounds_toArray, List.set_cons_zero, List.set_cons_succ, i64_w, i32_w]
  rfl
 refine pure_ (i := 32) (N := some 86) (v := ?_) (a' := ?_) #[T,T,T,T,T,T,T,T,T,T,T,T,T,T,T,T,T,T,T,T,T,T,T,T,T,T,T,T,T,T,T,T,T,F] rfl rfl (any_of HT_.out (by kernel_rfl)) (fun _ _ _ h => h) (Or.inl ⟨by rfl, ?_⟩) ?_ ?_
 rotate_left
 ·intro w'
  go_simp
  with_reducible rfl
 rotate_left
 ·simp only [Act.put, List.setIfInBounds_toArray, List.set_cons_zero, List.set_cons_succ, i64_w, i32_w]
  rfl
 refine last_ (i := 33) (N := none) #[T,T,T,T,T,T,T,T,T,T,T,T,T,T,T,T,T,T,T,T,T,T,T,T,T,T,T,T,T,T,T,T,T,T] rfl rfl (one_of HT_.out (by kernel_rfl)) (by decide) (fun K hK => ?_)
 refine skip_ (w1 := ?ww1) (by rfl) rfl ?_ ?_
 rotate_left
 ·first | (go_simp; done) | (go_simp; rfl)
 refine hK.out _ _ ?_
 clear hK K
 refine done_ (done_of HT_.out (by kernel_rfl)) ?_
 obtain ⟨_, _, _, fin⟩ := fc_at HO.out HB.out (of_eq_true z0b) (of_eq_true z2b)
 obtain ⟨V, hV⟩ : ∃ j_ : Int, wrap64 ((if wrap64 (n1 + n2) < wrap64 (n3 + n4) then wrap64 (n3 + n4) else wrap64 (n1 + n2)) - rd l1 Z) = j_ := ⟨_, rfl⟩
 have hmx : wrap64 (mx (wrap64 (n1 + n2)) (wrap64 (n3 + n4)) - rd l1 Z) = V := hV
 have H := H'.out
 clear H'
 rw [hmx] at H
 rw [hV]
 have E1 := fin.out (W7d.drewN (nd11 + nd12 + nd13 + nd14)) V ⟨_, rfl⟩
 have HOE := Az.mk E1.1
 have HBE := Az.mk E1.2
 clear E1 fin hx hf hV hmx HO HB hHeld hxz hone1 hone2 htwo1 htwo2 hx4
 generalize ((W7d.drewN (nd11 + nd12 + nd13 + nd14)).setCell ⟨g, Z.toNat, none⟩ (.int .i64 V)) = E at HOE HBE ⊢
 obtain ⟨hxE, hfE, _, _⟩ := fc_at HOE.out HBE.out (of_eq_true z0b) (by rw [List.length_set]; exact of_eq_true z2b)
 rw [rd_set_self (of_eq_true z0b) (of_eq_true z2b)] at hxE
 by_cases v2 : V > 200
 ·rw [if_pos v2] at H
  have v2b : decide (V > 200) = true := decide_eq_true v2
  have v2c : decide (200 < V) = true := decide_eq_true v2
  clear v2
  obtain rfl := Option.some.inj H
  obtain ⟨rfl, rfl⟩ := Prod.mk.injEq .. ▸ HR.out
  go_wp2
  all_goals go_ret2
  all_goals exact ⟨_, rfl, Kd.R_nil _ _ _ _ _, by first | exact bwT HB0.out HBE.out | exact pbN (bwT HB0.out HBE.out) _⟩
 rw [if_neg v2] at H
 have v2b : decide (V > 200) = false := decide_eq_false v2
 have v2c : decide (200 < V) = false := decide_eq_false v2
 clear v2
 obtain rfl := Option.some.inj H
 obtain ⟨rfl, rfl⟩ := Prod.mk.injEq .. ▸ HR.out
 go_wp2
 all_goals go_ret2
 all_goals exact ⟨_, rfl, by first | exact Kd.R_lower HOE.out HB0.out.size | exact Kd.R_lower (Kd.R_drewN HOE.out _) HB0.out.size, by first | exact bwT HB0.out HBE.out | exact pbN (bwT HB0.out HBE.out) _⟩

end Go.Proofs.Ytolmicnapemljaa.P

-- By this session's driver (wip/tools/mk.py) of the kit's print program, over several statements at once. Not trusted: Lean checks it.
import Derived.Test.YtolmicnapemljaaQPx0
import Derived.Test.YtolmicnapemljaaQPx8
import Derived.Test.YtolmicnapemljaaQPx12
import Derived.Test.YtolmicnapemljaaQPx27
namespace Go.Proofs.Ytolmicnapemljaa.P
open Go.RowKit Go.Proofs.YtolmicnapemljaaW.PrintWords Go.Proofs.YtolmicnapemljaaW.PrintLast Go.Proofs.YtolmicnapemljaaW.PrintMore
attribute [local go_sem] max2_int min2_int max_two min_two max_three min_three max_four min_four   -- for this text's walks alone
set_option linter.unusedVariables false
set_option linter.unusedSimpArgs false

/-! ### impl_curves: function 98 -/
theorem cv_goes {P : Program} {ops : Array Oper} {Q : Exit → Act → World → Prop} {oi : Oper} {N : Option Tmp} {a : Act} {w : World} {K : Act → World → Prop} {f : FuncId} {fn : Func} {ars : Array Operand} {ts : Array TypeId} {c : Operand} {caps : Array Value} (hf : P.funcs[f]? = some fn) (hname : (fn.name == "runtime.NumGoroutine") = false) (hb : fn.body.isSome = true) (args : Array Value)
  (hw : Region.wanted oi (yielded ops a.tmps) = true) (hN : oi.dst = N) (hop : oi.op = .call { callee := .value c, args := ars, argTypes := ts }) (hc : a.eval c = .func (.func f) #[] caps) (hargs : ars.map a.eval ++ caps = args)
  (h : Calls P f args w fun e w' => ∃ v, e = .returned v ∧ K (a.put N v) w') : if Region.wanted oi (yielded ops a.tmps) = true then Oper.wp P oi a w K Q else K (a.put N undef) w := by
 refine call_ f args hw hN ?_ h
 have he := enters_ hf hname hb args w
 unfold execOp
 simp [hop, resolve, Deferred.ofValue, invoke, hc, hargs, he]
def curvesPt.f (fs xs : List Int) (side p : Int) : Option Int := (impl_size.f side).bind fun z => (if side < 0 then (if 0 ≤ wrap64 (z - 1) then (if wrap64 (z - 1) < (xs.length : Int) then (if wrap64 (z - 1) < (fs.length : Int) then some (wrap64 (rd fs (wrap64 (z - 1)) + wrap64 (wrap64 (rd xs (wrap64 (z - 1)) - 1) - p))) else none) else none) else none) else (if 0 ≤ wrap64 (z - 1) then (if wrap64 (z - 1) < (fs.length : Int) then some (wrap64 (rd fs (wrap64 (z - 1)) + p)) else none) else none))
set_option maxHeartbeats 8000000 in
set_option maxRecDepth 100000 in
theorem curvesPt.calls (side p : Int) (p1 p2 : Addr) (A1 : Option Addr) (c1 : Nat) (xs : List Int) (AF : Option Addr) (cF : Nat) (fs : List Int) (r : Int) (w : World) (h1 : w.cell? p1 = some (.slice A1 xs.length c1)) (h2 : w.cell? p2 = some (.slice AF fs.length cF)) (hr1 : Kd.C (Kd.int .i64) w A1 xs.length xs) (hrF : Kd.C (Kd.int .i64) w AF fs.length fs) (h : curvesPt.f fs xs side p = some r) :
  Calls Try.prog 131 #[.int .i64 side, .int .i64 p, .pointer (some p1), .pointer (some p2)] w fun e w' => e = .returned (.int .i64 r) ∧ Drawn0 w w' := by
 have HR1 := Az.mk hr1
 have HRF := Az.mk hrF
 clear hr1 hrF
 unfold curvesPt.f at h
 replace h := Option.bind_eq_some_iff.mp h
 obtain ⟨z, hz, h⟩ := h
 have SS := Az.mk hz
 clear hz
 obtain ⟨Z, hZ⟩ : ∃ j_ : Int, wrap64 (z - 1) = j_ := ⟨_, rfl⟩
 have hZw : IntKind.i64.wrap (z - 1) = Z := (i64_w _).trans hZ
 rw [hZ] at h
 by_cases b1 : side < 0
 ·rw [if_pos b1] at h
  by_cases b2 : 0 ≤ Z
  ·rw [if_pos b2] at h
   by_cases b3 : Z < (xs.length : Int)
   ·rw [if_pos b3] at h
    by_cases b4 : Z < (fs.length : Int)
    ·rw [if_pos b4] at h
     obtain rfl := Option.some.inj h
     obtain ⟨ad1, rfl, hx1⟩ := Kd.at_int HR1.out Z b2 b3
     obtain ⟨ad2, rfl, hx2⟩ := Kd.at_int HRF.out Z b2 b4
     have b1b : decide (side < 0) = true := decide_eq_true b1
     replace b2 := eq_true b2
     replace b3 := eq_true b3
     replace b4 := eq_true b4
     clear b1
     go_enter Try.func131, Try.ntmps131
     go_wp2_with (first
      | (go_at_call 88; refine (size_still side z _ SS.out).mono ?_; rintro e w' ⟨rfl, hsame⟩; subst hsame))
     go_ret
     exact ⟨rfl, by repeat (first | exact Drawn0.refl _ | apply Drawn0.step | exact ⟨_, rfl⟩)⟩
    ·rw [if_neg b4] at h; exact absurd h (by simp)
   ·rw [if_neg b3] at h; exact absurd h (by simp)
  ·rw [if_neg b2] at h; exact absurd h (by simp)
 ·rw [if_neg b1] at h
  by_cases b2 : 0 ≤ Z
  ·rw [if_pos b2] at h
   by_cases b4 : Z < (fs.length : Int)
   ·rw [if_pos b4] at h
    obtain rfl := Option.some.inj h
    obtain ⟨ad2, rfl, hx2⟩ := Kd.at_int HRF.out Z b2 b4
    have b1b : decide (side < 0) = false := decide_eq_false b1
    replace b2 := eq_true b2
    replace b4 := eq_true b4
    clear b1
    go_enter Try.func131, Try.ntmps131
    go_wp2_with (first
     | (go_at_call 88; refine (size_still side z _ SS.out).mono ?_; rintro e w' ⟨rfl, hsame⟩; subst hsame))
    go_ret
    exact ⟨rfl, by repeat (first | exact Drawn0.refl _ | apply Drawn0.step | exact ⟨_, rfl⟩)⟩
   ·rw [if_neg b4] at h; exact absurd h (by simp)
  ·rw [if_neg b2] at h; exact absurd h (by simp)
def impl_curves.l0 : Nat → List Int → List Int → Int → Int → Option (List Int × Int)
 | 0, _, _, _, _ => none
 | k + 1, xs, fs, n, i => if i < (xs.length : Int) then (if 0 ≤ i then (if fs.length < 17592186044415 then impl_curves.l0 k xs (fs ++ [n]) (wrap64 (n + rd xs i)) (wrap64 (i + 1)) else none) else none) else some (fs, n)
mutual
def impl_curves.l1 : Nat → List (List Int) → List Int → List Int → List Int → Int → Option (List Int)
 | 0, _, _, _, _, _ => none
 | k + 1, t, xs, fs, up, i => if i < (t.length : Int) then (if 0 ≤ i then (impl_curves.l2 k t xs fs up i 0) else none) else (some up)
def impl_curves.l2 : Nat → List (List Int) → List Int → List Int → List Int → Int → Int → Option (List Int)
 | 0, _, _, _, _, _, _ => none
 | k + 1, t, xs, fs, up, i, j => if j < 3 then (if 0 ≤ j then (if j < ((rd_L1 t i).length : Int) then (if 0 ≤ Int.tmod (wrap64 (j + 1)) 3 then (if Int.tmod (wrap64 (j + 1)) 3 < ((rd_L1 t i).length : Int) then ((impl_arcs.f t xs i j).bind fun c => (impl_curves.l3 k t xs fs up i j (rd (rd_L1 t i) j) (rd (rd_L1 t i) (Int.tmod (wrap64 (j + 1)) 3)) c 0)) else none) else none) else none) else none) else (impl_curves.l1 k t xs fs up (wrap64 (i + 1)))
def impl_curves.l3 : Nat → List (List Int) → List Int → List Int → List Int → Int → Int → Int → Int → Int → Int → Option (List Int)
 | 0, _, _, _, _, _, _, _, _, _, _ => none
 | k + 1, t, xs, fs, up, i, j, a, b, c, m => if m < c then ((impl_size.f a).bind fun z => (if 0 ≤ wrap64 (z - 1) then (if wrap64 (z - 1) < (xs.length : Int) then ((curvesPt.f fs xs a (wrap64 (wrap64 (rd xs (wrap64 (z - 1)) - 1) - m))).bind fun pa => ((curvesPt.f fs xs b m).bind fun pb => ((joiner_join.f k up pa pb).bind fun zs => (impl_curves.l3 k t xs fs zs i j a b c (wrap64 (m + 1)))))) else none) else none)) else (impl_curves.l2 k t xs fs up i (wrap64 (j + 1)))
end
def impl_curves.f (k : Nat) (t : List (List Int)) (xs : List Int) : Option (List Int) := (impl_curves.l0 k xs [] 0 0).bind fun p => ((impl_newJoiner.l0 k p.2 [] 0).bind fun up => impl_curves.l1 k t xs p.1 up 0)
theorem impl_curves.mono0 : ∀ k y0 y1 y2 y3, LeO (impl_curves.l0 k y0 y1 y2 y3) (impl_curves.l0 (k + 1) y0 y1 y2 y3)
 | 0, y0, y1, y2, y3 => fun r h => by simp [impl_curves.l0] at h
 | k + 1, y0, y1, y2, y3 => by
  have ih0 := impl_curves.mono0 k
  unfold impl_curves.l0
  repeat' first
   | (with_reducible exact ih0 _ _ _ _)
   | (with_reducible exact LeO.refl _)
   | (with_reducible exact LeO.none _)
   | (with_reducible refine LeO.ite ?_ ?_)
theorem impl_curves.mono_l : ∀ k, (∀ y0 y1 y2 y3 y4, LeO (impl_curves.l1 k y0 y1 y2 y3 y4) (impl_curves.l1 (k + 1) y0 y1 y2 y3 y4)) ∧ (∀ y0 y1 y2 y3 y4 y5, LeO (impl_curves.l2 k y0 y1 y2 y3 y4 y5) (impl_curves.l2 (k + 1) y0 y1 y2 y3 y4 y5)) ∧ (∀ y0 y1 y2 y3 y4 y5 y6 y7 y8 y9, LeO (impl_curves.l3 k y0 y1 y2 y3 y4 y5 y6 y7 y8 y9) (impl_curves.l3 (k + 1) y0 y1 y2 y3 y4 y5 y6 y7 y8 y9))
 | 0 => ⟨fun _ _ _ _ _ r h => by simp [impl_curves.l1] at h, fun _ _ _ _ _ _ r h => by simp [impl_curves.l2] at h, fun _ _ _ _ _ _ _ _ _ _ r h => by simp [impl_curves.l3] at h⟩
 | k + 1 => by
  obtain ⟨ih1, ih2, ih3⟩ := impl_curves.mono_l k
  refine ⟨?_, ?_, ?_⟩
  ·intro y0 y1 y2 y3 y4
   unfold impl_curves.l1
   repeat' first
   | (with_reducible exact ih2 _ _ _ _ _ _)
   | (with_reducible exact LeO.refl _)
   | (with_reducible exact LeO.none _)
   | (with_reducible refine LeO.ite ?_ ?_)
  ·intro y0 y1 y2 y3 y4 y5
   unfold impl_curves.l2
   repeat' first
   | (with_reducible exact ih1 _ _ _ _ _)
   | (with_reducible exact ih3 _ _ _ _ _ _ _ _ _ _)
   | (with_reducible exact LeO.refl _)
   | (with_reducible exact LeO.none _)
   | (with_reducible refine LeO.ite ?_ ?_)
   | (with_reducible refine LeO.bind ?_ (fun _ => ?_))
  ·intro y0 y1 y2 y3 y4 y5 y6 y7 y8 y9
   unfold impl_curves.l3
   repeat' first
   | (with_reducible exact ih2 _ _ _ _ _ _)
   | (with_reducible exact ih3 _ _ _ _ _ _ _ _ _ _)
   | (with_reducible exact joiner_join.mono _ _ _ _)
   | (with_reducible exact LeO.refl _)
   | (with_reducible exact LeO.none _)
   | (with_reducible refine LeO.ite ?_ ?_)
   | (with_reducible refine LeO.bind ?_ (fun _ => ?_))
theorem impl_curves.mono : ∀ a0 a1 k, LeO (impl_curves.f k a0 a1) (impl_curves.f (k + 1) a0 a1) := by
 intro a0 a1 k
 unfold impl_curves.f
 refine LeO.bind (impl_curves.mono0 _ _ _ _ _) (fun _ => LeO.bind (impl_newJoiner.mono _ _ _ _) (fun _ => (impl_curves.mono_l k).1 _ _ _ _ _))
theorem R_zero {w : World} {base e g : Nat} {ok : Nat → Prop} (hg : base ≤ g) (hh : w.heap[g]? = some (.cells #[] e (0, 0))) (hok : ok g) : Kd.R (Kd.int .i64) e w base ok (.slice (some ⟨g, 0, none⟩) 0 0) [] :=
 ⟨fun k hk => by
  have : g = k := by simpa [Value.ownBlock] using hk
  subst this
  exact hok, [], ⟨rfl, .inr ⟨g, 0, #[], rfl, hg, hh, Nat.le_refl _, Nat.zero_le _, rfl, rfl⟩⟩, Reps.none _ _⟩
/-- The boxes of the row that came in and of the row of first numbers. -/
structure Cb (w : World) (b : Nat) (vx : Value) (A : Option Addr) (c : Nat) (fs : List Int) : Prop where
 bx : w.heap[b]? = some (.cells #[vx] 24 (0, 0))
 bf : w.heap[b + 2]? = some (.cells #[.slice A fs.length c] 24 (0, 0))
 row : Kd.R (Kd.int .i64) 3 w b (fun k => k ≠ b ∧ k ≠ b + 2) (.slice A fs.length c) fs
 lt : b + 2 < w.heap.size
def impl_curves.T16 : Bool × List (List Nat × List Nat) := (true, [([], []), ([], []), ([0, 1], [0, 1]), ([2], [2]), ([], []), ([], []), ([5], [5]), ([6], [6]), ([4, 7], [4, 7]), ([8], [8]), ([3, 0, 1, 2, 3], [3]), ([9, 10, 0, 1, 2, 3, 4, 5, 6, 7, 8, 9, 10], [9])])
def impl_curves.B16 : List Nat := [0, 0, 3, 7, 0, 0, 32, 96, 240, 496, 15, 2047]
theorem impl_curves.tab16 : rtab .any (opsOf Try.f98 16) = impl_curves.T16 := by kernel_rfl
theorem impl_curves.bits16 : waitsOk impl_curves.T16.2 impl_curves.B16 = true := by kernel_rfl
def impl_curves.T20 : Bool × List (List Nat × List Nat) := (true, [([], []), ([], []), ([], []), ([], []), ([], []), ([4], [4]), ([5], [5]), ([3, 6], [3, 6]), ([7], [7]), ([8], [8]), ([], []), ([9, 10], [9, 10]), ([1, 2, 11, 5], [1, 2, 11]), ([], []), ([], []), ([], []), ([13, 14, 15, 12], [13, 14, 15]), ([0, 12, 16, 16], [0, 12, 16])])
def impl_curves.B20 : List Nat := [0, 0, 0, 0, 0, 16, 48, 120, 248, 504, 0, 2040, 4094, 0, 0, 0, 65534, 131071]
theorem impl_curves.tab20 : rtab .any (opsOf Try.f98 20) = impl_curves.T20 := by kernel_rfl
theorem impl_curves.bits20 : waitsOk impl_curves.T20.2 impl_curves.B20 = true := by kernel_rfl
set_option maxHeartbeats 16000000 in
set_option maxRecDepth 100000 in
theorem impl_curves.calls (k : Nat) (A0 : Option Addr) (c0 : Nat) (l0 : List (List Int)) (A1 : Option Addr) (c1 : Nat) (l1 : List Int) (xs : List Int) (w : World) (hr0 : Kd.C (Kd.slice 3 (Kd.int .i64)) w A0 l0.length l0) (hc0 : l0.length ≤ c0) (hr1 : Kd.C (Kd.int .i64) w A1 l1.length l1) (hc1 : l1.length ≤ c1) (h : impl_curves.f k l0 l1 = some xs) :
  Calls Try.prog 98 #[.slice A0 l0.length c0, .slice A1 l1.length c1] w fun e w' => ∃ (p : Nat) (A : Option Addr) (c : Nat), e = .returned (.pointer (some ⟨p, 0, none⟩)) ∧ Jn w' w.heap.size p A c xs ∧ Below w.heap.size w w' := by
 have HR0 := Az.mk hr0
 have HC0 := Az.mk hc0
 have HR1 := Az.mk hr1
 have HC1 := Az.mk hc1
 clear hr0 hc0 hr1 hc1
 unfold impl_curves.f at h
 replace h := Option.bind_eq_some_iff.mp h
 obtain ⟨⟨fs, nn⟩, T0, h⟩ := h
 dsimp only at h
 replace h := Option.bind_eq_some_iff.mp h
 obtain ⟨ns, T1, h⟩ := h
 have T0 := Az.mk T0
 have T1 := Az.mk T1
 have HM := Az.mk h
 clear h
 obtain ⟨WW, hWW⟩ : ∃ v, ((w.alloc (.cells #[.slice A1 l1.length c1] 24)).alloc (.cells #[] 3)).alloc (.cells #[.slice (some ⟨w.heap.size + 1, 0, none⟩) 0 0] 24) = v := ⟨_, rfl⟩
 obtain ⟨Wa, eWa⟩ : ∃ v, w.alloc (.cells #[.slice A1 l1.length c1] 24) = v := ⟨_, rfl⟩
 obtain ⟨Wb, eWb⟩ : ∃ v, Wa.alloc (.cells #[] 3) = v := ⟨_, rfl⟩
 have eWc : Wb.alloc (.cells #[.slice (some ⟨w.heap.size + 1, 0, none⟩) 0 0] 24) = WW := by rw [← eWb, ← eWa]; exact hWW
 have sWa : Wa.heap.size = w.heap.size + 1 := by rw [← eWa]; exact Array.size_push _
 have sWb : Wb.heap.size = w.heap.size + 2 := by rw [← eWb]; exact (Array.size_push _).trans (by rw [sWa])
 have sWc : WW.heap.size = w.heap.size + 3 := by rw [← eWc]; exact (Array.size_push _).trans (by rw [sWb])
 have bWa : Wa.heap[w.heap.size]? = some (.cells #[.slice A1 l1.length c1] 24 (0, 0)) := by rw [← eWa]; exact Array.getElem?_push_size
 have bWb : Wb.heap[w.heap.size + 1]? = some (.cells #[] 3 (0, 0)) := by rw [← eWb, ← sWa]; exact Array.getElem?_push_size
 have bWc : WW.heap[w.heap.size + 2]? = some (.cells #[.slice (some ⟨w.heap.size + 1, 0, none⟩) 0 0] 24 (0, 0)) := by rw [← eWc, ← sWb]; exact Array.getElem?_push_size
 have kab : Below Wa.heap.size Wa Wb := by rw [← eWb]; exact bwA (Below.refl _ _) _
 have kbc : Below Wb.heap.size Wb WW := by rw [← eWc]; exact bwA (Below.refl _ _) _
 have bx0 : WW.heap[w.heap.size]? = some (.cells #[.slice A1 l1.length c1] 24 (0, 0)) := (kbc.block _ (by rw [sWb]; omega)).trans ((kab.block _ (by rw [sWa]; omega)).trans bWa)
 have br0 : WW.heap[w.heap.size + 1]? = some (.cells #[] 3 (0, 0)) := (kbc.block _ (by rw [sWb]; omega)).trans bWb
 have CB0 := Az.mk (show Cb WW w.heap.size (.slice A1 l1.length c1) (some ⟨w.heap.size + 1, 0, none⟩) 0 [] from ⟨bx0, bWc, R_zero (Nat.le_succ _) br0 ⟨by omega, by omega⟩, by rw [sWc]; omega⟩)
 have BW0 := Az.mk (show Below w.heap.size w WW from by rw [← hWW]; exact bwA (bwA (bwA (Below.refl _ _) _) _) _)
 have hxW := (jnblk_cell bx0).1
 clear eWa eWb eWc sWa sWb sWc bWa bWb bWc kab kbc bx0 br0
 go_enter Try.func98, Try.ntmps98
 go_wp2
 go_loopg [6, 20] k (fun kq v6 v20 w' => ∃ (fs_1 : List Int) (n_1 i_1 : Int) (A : Option Addr) (c : Nat), v6 = .int .i64 n_1 ∧ v20 = .int .i64 i_1 ∧ Az (impl_curves.l0 kq l1 fs_1 n_1 i_1 = some (fs, nn)) ∧ Az (kq ≤ k) ∧ Az (Cb w' w.heap.size (.slice A1 l1.length c1) A c fs_1) ∧ Az (Below w.heap.size w w'))
 case atStart =>
  exact ⟨[], 0, 0, _, 0, rfl, rfl, T0, ⟨Nat.le_refl _⟩, (by first | exact CB0 | (rw [hWW]; exact CB0)), (by first | exact BW0 | (rw [hWW]; exact BW0))⟩
 case round =>
  clear T0 CB0 BW0 hxW
  obtain ⟨fs_1, n_1, i_1, AF, cF, rfl, rfl, HA, HK1, HC, HB⟩ := hrel
  cases gk with
  | zero => exact absurd HA.out (by simp [impl_curves.l0])
  | succ k1 =>
   have H := HA.out
   clear HA
   simp only [impl_curves.l0] at H
   have hxf := (jnblk_cell HC.out.bf).1
   have hff := (jnblk_cell HC.out.bf).2
   by_cases b1 : i_1 < (l1.length : Int)
   ·rw [if_pos b1] at H
    by_cases b0 : 0 ≤ i_1
    ·rw [if_pos b0] at H
     by_cases b2 : fs_1.length < 17592186044415
     ·rw [if_pos b2] at H
      have H' := Az.mk H
      have LM := Az.mk b2
      obtain ⟨adx, rfl, hx1⟩ := Kd.at_int HR1.out i_1 b0 b1
      replace hx1 := (HB.out.cell (World.block_lt_of_cell? w _ hx1)).trans hx1
      have b1b := decide_eq_true b1
      replace b0 := eq_true b0
      replace b1 := eq_true b1
      clear H b2
      go_wp2_with (first | ((with_reducible refine gate_builtin (b := .append) (xs := #[.tmp 24, .tmp 26]) rfl ?_); at_builtin; refine Kd.R_append (Kd.int .i64) (w0 := w) w.heap.size rfl (.tmp 24) (.tmp 26) 24 3 (.int .i64 0) 8 rfl Try.underlying24 info3 rfl (by decide) (by omega) (.slice AF fs_1.length cF) fs_1 n_1 [.int .i64 n_1] (fun k => k ≠ w.heap.size ∧ k ≠ w.heap.size + 2) (fun _ => False) rfl rfl ?aP (fun _ hk => hk.elim) ?aF ?aO ?aB ?aS ?aL ?_; (case aP => exact rfl); (case aB => exact (by repeat (first | (with_reducible first | exact HB.out | apply pbN) | exact HB.out))); (case aF => exact (fun k_ hk_ => ⟨fun e_ => by subst e_; exact absurd (Nat.lt_of_lt_of_le (Nat.lt_of_le_of_lt (Nat.le_add_right _ 2) HC.out.lt) hk_) (Nat.lt_irrefl _), fun e_ => by subst e_; exact absurd (Nat.lt_of_lt_of_le HC.out.lt hk_) (Nat.lt_irrefl _)⟩)); (case aO => exact (by (with_reducible repeat (first | apply Kd.R_alloc | apply Kd.R_drewN | apply Kd.R_drew)); exact HC.out.row)); (case aS => exact HB.out.size); (case aL => have := LM.out; omega); intro v1 w6 ho hb hg hat; obtain ⟨A2, c2, e2⟩ := Kd.R_slice ho; subst e2; have hkx := (hg.block w.heap.size (Nat.lt_of_le_of_lt (Nat.le_add_right _ 2) HC.out.lt) (fun e_ => (HC.out.row.1 w.heap.size e_.symm).1 rfl)).trans HC.out.bx; have hkf := (hg.block (w.heap.size + 2) HC.out.lt (fun e_ => (HC.out.row.1 (w.heap.size + 2) e_.symm).2 rfl)).trans HC.out.bf; have HO2 := Az.mk ho; have HB2 := Az.mk hb; have HL2 := Az.mk (blk_lt hkf); have HKX := Az.mk hkx; have HKF := Az.mk hkf; have hx2 := (jnblk_cell hkf).1; have hf2 := (jnblk_cell hkf).2; clear ho hb hg hat hkx hkf hxf hff))
      go_roundg k1
      case measure => have := HK1.out; omega
      case rel =>
       refine ⟨fs_1 ++ [n_1], _, _, A2, c2, rfl, rfl, H', ⟨by have := HK1.out; omega⟩, ⟨⟨?_, ?_, ?_, ?_⟩⟩, ⟨?_⟩⟩
       ·exact (Below.heap_setCell _ ⟨w.heap.size + 2, 0, none⟩ _ w.heap.size (fun e_ => absurd e_ (by show ¬ w.heap.size = w.heap.size + 2; omega))).trans HKX.out
       ·rw [List.length_append]
        exact jnblk_set _ HKF.out
       ·exact Kd.R_far (p := ⟨w.heap.size + 2, 0, none⟩) HO2.out (fun k_ hk_ => hk_.2) _
       ·exact Nat.lt_of_lt_of_eq HL2.out (Array.size_modify ..).symm
       ·exact bwS HB2.out (Nat.le_add_right _ 2)
     ·rw [if_neg b2] at H
      exact absurd H (by simp)
    ·rw [if_neg b0] at H
     exact absurd H (by simp)
   ·rw [if_neg b1] at H
    have b1b : decide (i_1 < (l1.length : Int)) = false := decide_eq_false b1
    clear b1
    rename World => W1
    have He := Option.some.inj H
    obtain ⟨rfl, rfl⟩ := Prod.mk.injEq .. ▸ He
    clear H He
    have hpx := Az.mk (jnblk_cell HC.out.bx).1
    have hpf := Az.mk hxf
    have HX1 := Az.mk (Kd.C_below HR1.out HB.out)
    have HT1 := Az.mk (Kd.C_below HR0.out HB.out)
    have HF1 := Az.mk (Kd.R_reads' HC.out.row).2.2
    have HB0 := HB
    clear HR0 HR1 hxf hff HB
    have hpx0 := hpx.out
    go_wp2_with (first
     | (go_at_call 93; refine (impl_newJoiner.calls k _ ns W1 _ (by first | exact Below.refl _ _ | exact pbN (Below.refl _ _) _) T1.out).mono ?_; rintro e W2 ⟨p, AJ, cJ, rfl, hj, hb, _⟩; have HJ := Az.mk hj; have HB := Az.mk hb; clear hj hb T1 hpx0))
    go_loopg [37] k (fun kq v37 w' => ∃ (up_1 : List Int) (i_1 : Int), v37 = .int .i64 i_1 ∧ Az (impl_curves.l1 kq l0 l1 fs_1 up_1 i_1 = some xs) ∧ Az (kq ≤ k) ∧ Az (Jn w' W1.heap.size p AJ cJ up_1) ∧ Az (Below W1.heap.size W1 w'))
    case atStart => exact ⟨ns, 0, rfl, HM, ⟨Nat.le_refl _⟩, HJ, HB⟩
    case round =>
     clear HM HJ HB
     obtain ⟨up_1, i_2, rfl, HA, HK2, HJ, HB⟩ := hrel
     cases gk with
     | zero => exact absurd HA.out (by simp [impl_curves.l1])
     | succ k2 =>
      have H := HA.out
      clear HA
      simp only [impl_curves.l1] at H
      by_cases b2 : i_2 < (l0.length : Int)
      ·rw [if_pos b2] at H
       by_cases b1 : 0 ≤ i_2
       ·rw [if_pos b1] at H
        obtain ⟨ad, Ar, cr, er, hx1, hl1, hi1⟩ := at_L1 HT1.out i_2 b1 b2
        subst er
        replace hx1 := (HB.out.cell (World.block_lt_of_cell? W1 _ hx1)).trans hx1
        have HRr := Az.mk hi1
        have HCr := Az.mk hl1
        clear hi1 hl1
        have H' := Az.mk H
        clear H
        have b2b := decide_eq_true b2
        replace b1 := eq_true b1
        replace b2 := eq_true b2
        go_wp2
        go_loopg [42] k2 (fun kq v42 w' => ∃ (up_2 : List Int) (j_1 : Int), v42 = .int .i64 j_1 ∧ Az (impl_curves.l2 kq l0 l1 fs_1 up_2 i_2 j_1 = some xs) ∧ Az (kq ≤ k2) ∧ Az (Jn w' W1.heap.size p AJ cJ up_2) ∧ Az (Below W1.heap.size W1 w'))
        case atStart => exact ⟨up_1, 0, rfl, H', ⟨Nat.le_refl _⟩, HJ, HB⟩
        case round =>
         clear H' HJ HB hx1
         obtain ⟨up_2, j_1, rfl, HA, HK3, HJ, HB⟩ := hrel
         cases gk with
         | zero => exact absurd HA.out (by simp [impl_curves.l2])
         | succ k3 =>
          have H := HA.out
          clear HA
          simp only [impl_curves.l2] at H
          by_cases d1 : j_1 < 3
          ·rw [if_pos d1] at H
           by_cases d2 : 0 ≤ j_1
           ·rw [if_pos d2] at H
            by_cases d3 : j_1 < ((rd_L1 l0 i_2).length : Int)
            ·rw [if_pos d3] at H
             obtain ⟨J1, hJ1⟩ : ∃ j_ : Int, wrap64 (j_1 + 1) = j_ := ⟨_, rfl⟩
             have hJ1w : IntKind.i64.wrap (j_1 + 1) = J1 := (i64_w _).trans hJ1
             rw [hJ1] at H
             obtain ⟨P, hP⟩ : ∃ j_ : Int, Int.tmod J1 3 = j_ := ⟨_, rfl⟩
             rw [hP] at H
             by_cases d4 : 0 ≤ P
             ·rw [if_pos d4] at H
              by_cases d5 : P < ((rd_L1 l0 i_2).length : Int)
              ·rw [if_pos d5] at H
               replace H := Option.bind_eq_some_iff.mp H
               obtain ⟨cc, Tc, H⟩ := H
               have Tc := Az.mk Tc
               obtain ⟨ad2, e2, hxa⟩ := Kd.at_int HRr.out j_1 d2 d3
               subst e2
               obtain ⟨ad3, e3, hxb⟩ := Kd.at_int HRr.out P d4 d5
               obtain rfl : ad2 = ad3 := by injection e3
               replace hxa := (HB.out.cell (World.block_lt_of_cell? W1 _ hxa)).trans hxa
               replace hxb := (HB.out.cell (World.block_lt_of_cell? W1 _ hxb)).trans hxb
               obtain ⟨Xa, hXa⟩ : ∃ j_ : Int, rd (rd_L1 l0 i_2) j_1 = j_ := ⟨_, rfl⟩
               obtain ⟨Xb, hXb⟩ : ∃ j_ : Int, rd (rd_L1 l0 i_2) P = j_ := ⟨_, rfl⟩
               rw [hXa] at hxa H
               rw [hXb] at hxb H
               clear hXa hXb e3
               have H' := Az.mk H
               clear H
               have d1b := decide_eq_true d1
               clear d1
               replace d2 := eq_true d2
               replace d3 := eq_true d3
               replace d4 := eq_true d4
               replace d5 := eq_true d5
               go_upto_region 16 with (fail)
               refine start_ (n := 12) (S := fun w' => w'.cell? (ad2.add j_1.toNat) = some (.int .i64 Xa) ∧ w'.cell? (ad2.add P.toNat) = some (.int .i64 Xb)) (ds := []) #[false, false, false, false, false, false, false, false, false, false, false, false] (by kernel_rfl) rfl rfl ⟨by simpa using hxa, by simpa using hxb⟩ (fun hHeld => ?_)
               refine with_tabW impl_curves.tab16 impl_curves.bits16 (fun HT_ HW_ => ?_)
               have HBn := Az.mk (bwD HB.out)
               have HJn := Az.mk (HJ.out.below (bwD (Below.refl _ _)))
               clear HB HJ
               have HB := HBn
               have HJ := HJn
               clear HBn HJn
               clear hxa hxb
               generalize wr.drew = wd at HB HJ hHeld ⊢
               refine pure_ (i := 0) (N := some 45) (v := ?_) (a' := ?_) #[true, false, false, false, false, false, false, false, false, false, false, false] rfl rfl (any_of HT_.out (by kernel_rfl)) (fun _ _ _ h => h) (Or.inl ⟨by rfl, ?_⟩) ?_ ?_
               rotate_left
               ·intro w'
                go_simp
                with_reducible rfl
               rotate_left
               ·simp only [Act.put, List.setIfInBounds_toArray, List.set_cons_zero, List.set_cons_succ, i64_w, i32_w]
                rfl
               refine pure_ (i := 1) (N := some 46) (v := ?_) (a' := ?_) #[true, true, false, false, false, false, false, false, false, false, false, false] rfl rfl (any_of HT_.out (by kernel_rfl)) (fun _ _ _ h => h) (Or.inl ⟨by rfl, ?_⟩) ?_ ?_
               rotate_left
               ·intro w'
                go_simp
                with_reducible rfl
               rotate_left
               ·simp only [Act.put, List.setIfInBounds_toArray, List.set_cons_zero, List.set_cons_succ, i64_w, i32_w]
                rfl
               refine pure_ (i := 2) (N := some 47) (v := ?_) (a' := ?_) #[true, true, true, false, false, false, false, false, false, false, false, false] rfl rfl (any_of HT_.out (by kernel_rfl)) (fun _ _ _ h => h) (Or.inl ⟨by rfl, ?_⟩) ?_ ?_
               rotate_left
               ·intro w'
                go_simp
                with_reducible rfl
               rotate_left
               ·simp only [Act.put, List.setIfInBounds_toArray, List.set_cons_zero, List.set_cons_succ, i64_w, i32_w]
                rfl
               refine pure_ (i := 4) (N := some 49) (v := ?_) (a' := ?_) #[true, true, true, false, true, false, false, false, false, false, false, false] rfl rfl (any_of HT_.out (by kernel_rfl)) (fun _ _ _ h => h) (Or.inl ⟨by rfl, ?_⟩) ?_ ?_
               rotate_left
               ·intro w'
                go_simp
                with_reducible rfl
               rotate_left
               ·simp only [Act.put, List.setIfInBounds_toArray, List.set_cons_zero, List.set_cons_succ, i64_w, i32_w]
                rfl
               refine pure_ (i := 5) (N := some 50) (v := ?_) (a' := ?_) #[true, true, true, false, true, true, false, false, false, false, false, false] rfl rfl (any_of HT_.out (by kernel_rfl)) (fun _ _ _ h => h) (Or.inl ⟨by rfl, ?_⟩) ?_ ?_
               rotate_left
               ·intro w'
                go_simp
                with_reducible rfl
               rotate_left
               ·simp only [Act.put, List.setIfInBounds_toArray, List.set_cons_zero, List.set_cons_succ, i64_w, i32_w]
                rfl
               refine pure_ (i := 6) (N := some 51) (v := ?_) (a' := ?_) #[true, true, true, false, true, true, true, false, false, false, false, false] rfl rfl (any_of HT_.out (by kernel_rfl)) (fun _ _ _ h => h) (Or.inl ⟨by rfl, ?_⟩) ?_ ?_
               rotate_left
               ·intro w'
                go_simp
                with_reducible rfl
               rotate_left
               ·simp only [Act.put, List.setIfInBounds_toArray, List.set_cons_zero, List.set_cons_succ, i64_w, i32_w]
                rfl
               refine pure_ (i := 7) (N := some 52) (v := ?_) (a' := ?_) #[true, true, true, false, true, true, true, true, false, false, false, false] rfl rfl (any_of HT_.out (by kernel_rfl)) (fun _ _ _ h => h) (Or.inl ⟨by rfl, ?_⟩) ?_ ?_
               rotate_left
               ·intro w'
                go_simp
                with_reducible rfl
               rotate_left
               ·simp only [Act.put, List.setIfInBounds_toArray, List.set_cons_zero, List.set_cons_succ, i64_w, i32_w]
                rfl
               refine pure_ (i := 8) (N := some 53) (v := ?_) (a' := ?_) #[true, true, true, false, true, true, true, true, true, false, false, false] rfl rfl (any_of HT_.out (by kernel_rfl)) (fun _ _ _ h => h) (Or.inl ⟨by rfl, ?_⟩) ?_ ?_
               rotate_left
               ·intro w'
                go_simp
                with_reducible rfl
               rotate_left
               ·simp only [Act.put, List.setIfInBounds_toArray, List.set_cons_zero, List.set_cons_succ, i64_w, i32_w]
                rfl
               refine take_ (i := 3) (N := some 48) (v := ?_) (a' := ?_) #[true, true, true, true, true, true, true, true, true, false, false, false] rfl rfl (take_ofW HT_.out HW_.out (by kernel_rfl)) (fun _ _ _ h => h) (Or.inl ⟨by rfl, ?_⟩) hHeld ?_ ?_
               rotate_left
               ·rintro w' ⟨s0, s1⟩
                go_simp
                with_reducible rfl
               rotate_left
               ·simp only [Act.put, List.setIfInBounds_toArray, List.set_cons_zero, List.set_cons_succ, i64_w, i32_w]
                rfl
               refine pure_ (i := 10) (N := some 14) (v := ?_) (a' := ?_) #[true, true, true, true, true, true, true, true, true, false, true, false] rfl rfl (any_of HT_.out (by kernel_rfl)) (fun _ _ _ h => h) (Or.inl ⟨by rfl, ?_⟩) ?_ ?_
               rotate_left
               ·intro w'
                go_simp
                with_reducible rfl
               rotate_left
               ·simp only [Act.put, List.setIfInBounds_toArray, List.set_cons_zero, List.set_cons_succ, i64_w, i32_w]
                rfl
               refine take_ (i := 9) (N := some 54) (v := ?_) (a' := ?_) #[true, true, true, true, true, true, true, true, true, true, true, false] rfl rfl (take_ofW HT_.out HW_.out (by kernel_rfl)) (fun _ _ _ h => h) (Or.inl ⟨by rfl, ?_⟩) hHeld ?_ ?_
               rotate_left
               ·rintro w' ⟨s0, s1⟩
                go_simp
                with_reducible rfl
               rotate_left
               ·simp only [Act.put, List.setIfInBounds_toArray, List.set_cons_zero, List.set_cons_succ, i64_w, i32_w]
                rfl
               refine pure_ (i := 11) (N := some 15) (v := ?_) (a' := ?_) #[true, true, true, true, true, true, true, true, true, true, true, true] rfl rfl (any_of HT_.out (by kernel_rfl)) (fun _ _ _ h => h) (Or.inl ⟨by rfl, ?_⟩) ?_ ?_
               rotate_left
               ·intro w'
                go_simp
                with_reducible rfl
               rotate_left
               ·simp only [Act.put, List.setIfInBounds_toArray, List.set_cons_zero, List.set_cons_succ, i64_w, i32_w]
                rfl
               refine done_ (done_of HT_.out (by kernel_rfl)) ?_
               have hpx0 := (HB.out.cell (World.block_lt_of_cell? W1 _ hpx.out)).trans hpx.out
               clear hHeld
               go_wp2_with (first
                | (go_at_call 123; refine (impl_arcs.calls _ c0 l0 _ c1 l1 i_2 j_1 cc _ (by first | exact Kd.C_drewN (Kd.C_below HT1.out HB.out) _ | exact Kd.C_below HT1.out HB.out) HC0.out (by first | exact Kd.C_drewN (Kd.C_below HX1.out HB.out) _ | exact Kd.C_below HX1.out HB.out) HC1.out Tc.out).mono ?_; rintro e W3 ⟨rfl, hb⟩; have HB3 := Az.mk (bwT (by first | exact HB.out | exact pbN HB.out _) hb); have HJ3 := Az.mk (Jn.below (by first | exact HJ.out | exact HJ.out.drewN _) (by first | exact hb)); clear hb Tc hpx0 HB HJ; have HB := HB3; have HJ := HJ3; clear HB3 HJ3))
               go_loopg [60] k3 (fun kq v60 w' => ∃ (up_3 : List Int) (m_1 : Int), v60 = .int .i64 m_1 ∧ Az (impl_curves.l3 kq l0 l1 fs_1 up_3 i_2 j_1 Xa Xb cc m_1 = some xs) ∧ Az (kq ≤ k3) ∧ Az (Jn w' W1.heap.size p AJ cJ up_3) ∧ Az (Below W1.heap.size W1 w'))
               case atStart => exact ⟨up_2, 0, rfl, H', ⟨Nat.le_refl _⟩, HJ, HB⟩
               case round =>
                clear H' HJ HB
                obtain ⟨up_3, m_1, rfl, HA, HK4, HJ, HB⟩ := hrel
                cases gk with
                | zero => exact absurd HA.out (by simp [impl_curves.l3])
                | succ k4 =>
                 have H := HA.out
                 clear HA
                 simp only [impl_curves.l3] at H
                 by_cases f1 : m_1 < cc
                 ·rw [if_pos f1] at H
                  replace H := Option.bind_eq_some_iff.mp H
                  obtain ⟨z, Tz, H⟩ := H
                  obtain ⟨Z, hZ⟩ : ∃ j_ : Int, wrap64 (z - 1) = j_ := ⟨_, rfl⟩
                  have hZw : IntKind.i64.wrap (z - 1) = Z := (i64_w _).trans hZ
                  rw [hZ] at H
                  by_cases f2 : 0 ≤ Z
                  ·rw [if_pos f2] at H
                   by_cases f3 : Z < (l1.length : Int)
                   ·rw [if_pos f3] at H
                    replace H := Option.bind_eq_some_iff.mp H
                    obtain ⟨pa, Ta, H⟩ := H
                    replace H := Option.bind_eq_some_iff.mp H
                    obtain ⟨pb, Tb, H⟩ := H
                    replace H := Option.bind_eq_some_iff.mp H
                    obtain ⟨zs, Tj, H⟩ := H
                    obtain ⟨adx, ex, hxe⟩ := Kd.at_int HX1.out Z f2 f3
                    have hxe := Az.mk hxe
                    subst ex
                    obtain ⟨Xe, hXe⟩ : ∃ j_ : Int, rd l1 Z = j_ := ⟨_, rfl⟩
                    rw [hXe] at hxe Ta
                    obtain ⟨Q1, hQ1⟩ : ∃ j_ : Int, wrap64 (Xe - 1) = j_ := ⟨_, rfl⟩
                    have hQ1w : IntKind.i64.wrap (Xe - 1) = Q1 := (i64_w _).trans hQ1
                    rw [hQ1] at Ta
                    obtain ⟨Q, hQ⟩ : ∃ j_ : Int, wrap64 (Q1 - m_1) = j_ := ⟨_, rfl⟩
                    have hQw : IntKind.i64.wrap (Q1 - m_1) = Q := (i64_w _).trans hQ
                    rw [hQ] at Ta
                    clear hXe
                    have Tz := Az.mk Tz
                    have Ta := Az.mk Ta
                    have Tb := Az.mk Tb
                    have Tj := Az.mk Tj
                    have H' := Az.mk H
                    clear H
                    have f1b := decide_eq_true f1
                    clear f1
                    replace f2 := eq_true f2
                    replace f3 := eq_true f3
                    go_upto_region 20 with (fail)
                    refine start_ (n := 18) (S := fun w' => w'.cell? ⟨w.heap.size, 0, none⟩ = some (.slice (some adx) l1.length c1) ∧ w'.cell? ⟨w.heap.size + 2, 0, none⟩ = some (.slice AF fs_1.length cF) ∧ w'.cell? (adx.add Z.toNat) = some (.int .i64 Xe)) (ds := []) #[false, false, false, false, false, false, false, false, false, false, false, false, false, false, false, false, false, false] (by kernel_rfl) rfl rfl ⟨by simpa using (HB.out.cell (World.block_lt_of_cell? W1 _ hpx.out)).trans hpx.out, by simpa using (HB.out.cell (World.block_lt_of_cell? W1 _ hpf.out)).trans hpf.out, by simpa using (HB.out.cell (World.block_lt_of_cell? W1 _ hxe.out)).trans hxe.out⟩ (fun hHeld => ?_)
                    refine with_tabW impl_curves.tab20 impl_curves.bits20 (fun HT_ HW_ => ?_)
                    have HBn := Az.mk (bwD HB.out)
                    have HJn := Az.mk (HJ.out.below (bwD (Below.refl _ _)))
                    clear HB HJ
                    have HB := HBn
                    have HJ := HJn
                    clear HBn HJn
                    generalize wr.drew = wd at HB HJ hHeld ⊢
                    refine pure_ (i := 0) (N := some 63) (v := ?_) (a' := ?_) #[true, false, false, false, false, false, false, false, false, false, false, false, false, false, false, false, false, false] rfl rfl (any_of HT_.out (by kernel_rfl)) (fun _ _ _ h => h) (Or.inl ⟨by rfl, ?_⟩) ?_ ?_
                    rotate_left
                    ·intro w'
                     go_simp
                     with_reducible rfl
                    rotate_left
                    ·simp only [Act.put, List.setIfInBounds_toArray, List.set_cons_zero, List.set_cons_succ, i64_w, i32_w]
                     rfl
                    refine pure_ (i := 1) (N := some 64) (v := ?_) (a' := ?_) #[true, true, false, false, false, false, false, false, false, false, false, false, false, false, false, false, false, false] rfl rfl (any_of HT_.out (by kernel_rfl)) (fun _ _ _ h => h) (Or.inl ⟨by rfl, ?_⟩) ?_ ?_
                    rotate_left
                    ·intro w'
                     go_simp
                     with_reducible rfl
                    rotate_left
                    ·simp only [Act.put, List.setIfInBounds_toArray, List.set_cons_zero, List.set_cons_succ, i64_w, i32_w]
                     rfl
                    refine pure_ (i := 2) (N := some 65) (v := ?_) (a' := ?_) #[true, true, true, false, false, false, false, false, false, false, false, false, false, false, false, false, false, false] rfl rfl (any_of HT_.out (by kernel_rfl)) (fun _ _ _ h => h) (Or.inl ⟨by rfl, ?_⟩) ?_ ?_
                    rotate_left
                    ·intro w'
                     go_simp
                     with_reducible rfl
                    rotate_left
                    ·simp only [Act.put, List.setIfInBounds_toArray, List.set_cons_zero, List.set_cons_succ, i64_w, i32_w]
                     rfl
                    refine pure_ (i := 4) (N := some 67) (v := ?_) (a' := ?_) #[true, true, true, false, true, false, false, false, false, false, false, false, false, false, false, false, false, false] rfl rfl (any_of HT_.out (by kernel_rfl)) (fun _ _ _ h => h) (Or.inl ⟨by rfl, ?_⟩) ?_ ?_
                    rotate_left
                    ·intro w'
                     go_simp
                     with_reducible rfl
                    rotate_left
                    ·simp only [Act.put, List.setIfInBounds_toArray, List.set_cons_zero, List.set_cons_succ, i64_w, i32_w]
                     rfl
                    refine pure_ (i := 10) (N := some 73) (v := ?_) (a' := ?_) #[true, true, true, false, true, false, false, false, false, false, true, false, false, false, false, false, false, false] rfl rfl (any_of HT_.out (by kernel_rfl)) (fun _ _ _ h => h) (Or.inl ⟨by rfl, ?_⟩) ?_ ?_
                    rotate_left
                    ·intro w'
                     go_simp
                     with_reducible rfl
                    rotate_left
                    ·simp only [Act.put, List.setIfInBounds_toArray, List.set_cons_zero, List.set_cons_succ, i64_w, i32_w]
                     rfl
                    refine pure_ (i := 13) (N := some 76) (v := ?_) (a' := ?_) #[true, true, true, false, true, false, false, false, false, false, true, false, false, true, false, false, false, false] rfl rfl (any_of HT_.out (by kernel_rfl)) (fun _ _ _ h => h) (Or.inl ⟨by rfl, ?_⟩) ?_ ?_
                    rotate_left
                    ·intro w'
                     go_simp
                     with_reducible rfl
                    rotate_left
                    ·simp only [Act.put, List.setIfInBounds_toArray, List.set_cons_zero, List.set_cons_succ, i64_w, i32_w]
                     rfl
                    refine pure_ (i := 14) (N := some 77) (v := ?_) (a' := ?_) #[true, true, true, false, true, false, false, false, false, false, true, false, false, true, true, false, false, false] rfl rfl (any_of HT_.out (by kernel_rfl)) (fun _ _ _ h => h) (Or.inl ⟨by rfl, ?_⟩) ?_ ?_
                    rotate_left
                    ·intro w'
                     go_simp
                     with_reducible rfl
                    rotate_left
                    ·simp only [Act.put, List.setIfInBounds_toArray, List.set_cons_zero, List.set_cons_succ, i64_w, i32_w]
                     rfl
                    refine pure_ (i := 15) (N := some 78) (v := ?_) (a' := ?_) #[true, true, true, false, true, false, false, false, false, false, true, false, false, true, true, true, false, false] rfl rfl (any_of HT_.out (by kernel_rfl)) (fun _ _ _ h => h) (Or.inl ⟨by rfl, ?_⟩) ?_ ?_
                    rotate_left
                    ·intro w'
                     go_simp
                     with_reducible rfl
                    rotate_left
                    ·simp only [Act.put, List.setIfInBounds_toArray, List.set_cons_zero, List.set_cons_succ, i64_w, i32_w]
                     rfl
                    refine take_ (i := 3) (N := some 66) (v := ?_) (a' := ?_) #[true, true, true, true, true, false, false, false, false, false, true, false, false, true, true, true, false, false] rfl rfl (take_ofW HT_.out HW_.out (by kernel_rfl)) (fun _ _ _ h => h) (Or.inl ⟨by rfl, ?_⟩) hHeld ?_ ?_
                    rotate_left
                    ·rintro w' ⟨s0, s1, s2⟩
                     go_simp
                     with_reducible rfl
                    rotate_left
                    ·simp only [Act.put, List.setIfInBounds_toArray, List.set_cons_zero, List.set_cons_succ, i64_w, i32_w]
                     rfl
                    refine one_ (i := 5) (N := some 68) #[true, true, true, true, true, true, false, false, false, false, true, false, false, true, true, true, false, false] rfl rfl (one_of HT_.out (by kernel_rfl)) (by decide) (fun K hK => ?_)
                    refine goes_ Try.func88 (by kernel_rfl) rfl #[.int .i64 Xa] (by rfl) rfl rfl (by (try simp only [List.map_toArray, List.map_cons, List.map_nil]); first | done | rfl) ?_
                    refine (size_still Xa z _ Tz.out).mono ?_
                    rintro e Wc0 ⟨rfl, hsame⟩
                    subst hsame
                    refine ⟨_, rfl, ?_⟩
                    refine hK.out _ _ ⟨by simpa using hHeld.1, by simpa using hHeld.2.1, by simpa using hHeld.2.2⟩ (fun hHeld => ?_)
                    clear hK K
                    refine norm_ (a' := ?_) ?_ ?_
                    rotate_left
                    ·show Act.put _ (some 68) _ = _
                     simp only [Act.put, List.setIfInBounds_toArray, List.set_cons_zero, List.set_cons_succ, i64_w, i32_w]
                     rfl
                    refine pure_ (i := 6) (N := some 69) (v := ?_) (a' := ?_) #[true, true, true, true, true, true, true, false, false, false, true, false, false, true, true, true, false, false] rfl rfl (any_of HT_.out (by kernel_rfl)) (fun _ _ _ h => h) (Or.inl ⟨by rfl, ?_⟩) ?_ ?_
                    rotate_left
                    ·intro w'
                     go_simp
                     with_reducible rfl
                    rotate_left
                    ·simp only [Act.put, List.setIfInBounds_toArray, List.set_cons_zero, List.set_cons_succ, i64_w, i32_w]
                     rfl
                    refine pure_ (i := 7) (N := some 70) (v := ?_) (a' := ?_) #[true, true, true, true, true, true, true, true, false, false, true, false, false, true, true, true, false, false] rfl rfl (any_of HT_.out (by kernel_rfl)) (fun _ _ _ h => h) (Or.inl ⟨by rfl, ?_⟩) ?_ ?_
                    rotate_left
                    ·intro w'
                     go_simp
                     with_reducible rfl
                    rotate_left
                    ·simp only [Act.put, List.setIfInBounds_toArray, List.set_cons_zero, List.set_cons_succ, i64_w, i32_w]
                     rfl
                    refine take_ (i := 8) (N := some 71) (v := ?_) (a' := ?_) #[true, true, true, true, true, true, true, true, true, false, true, false, false, true, true, true, false, false] rfl rfl (take_ofW HT_.out HW_.out (by kernel_rfl)) (fun _ _ _ h => h) (Or.inl ⟨by rfl, ?_⟩) hHeld ?_ ?_
                    rotate_left
                    ·rintro w' ⟨s0, s1, s2⟩
                     go_simp
                     with_reducible rfl
                    rotate_left
                    ·simp only [Act.put, List.setIfInBounds_toArray, List.set_cons_zero, List.set_cons_succ, i64_w, i32_w]
                     rfl
                    refine pure_ (i := 9) (N := some 72) (v := ?_) (a' := ?_) #[true, true, true, true, true, true, true, true, true, true, true, false, false, true, true, true, false, false] rfl rfl (any_of HT_.out (by kernel_rfl)) (fun _ _ _ h => h) (Or.inl ⟨by rfl, ?_⟩) ?_ ?_
                    rotate_left
                    ·intro w'
                     go_simp
                     with_reducible rfl
                    rotate_left
                    ·simp only [Act.put, List.setIfInBounds_toArray, List.set_cons_zero, List.set_cons_succ, i64_w, i32_w]
                     rfl
                    refine pure_ (i := 11) (N := some 74) (v := ?_) (a' := ?_) #[true, true, true, true, true, true, true, true, true, true, true, true, false, true, true, true, false, false] rfl rfl (any_of HT_.out (by kernel_rfl)) (fun _ _ _ h => h) (Or.inl ⟨by rfl, ?_⟩) ?_ ?_
                    rotate_left
                    ·intro w'
                     go_simp
                     with_reducible rfl
                    rotate_left
                    ·simp only [Act.put, List.setIfInBounds_toArray, List.set_cons_zero, List.set_cons_succ, i64_w, i32_w]
                     rfl
                    refine one_ (i := 12) (N := some 75) #[true, true, true, true, true, true, true, true, true, true, true, true, true, true, true, true, false, false] rfl rfl (one_of HT_.out (by kernel_rfl)) (by decide) (fun K hK => ?_)
                    refine cv_goes Try.func131 (by kernel_rfl) rfl #[.int .i64 Xa, .int .i64 Q, .pointer (some ⟨w.heap.size, 0, none⟩), .pointer (some ⟨w.heap.size + 2, 0, none⟩)] (by rfl) rfl rfl rfl (by simp only [List.map_toArray, List.map_cons, List.map_nil, List.append_toArray, List.cons_append, List.nil_append]; first | done | rfl) ?_
                    refine (curvesPt.calls Xa Q _ _ (some adx) c1 l1 AF cF fs_1 pa _ hHeld.1 hHeld.2.1 (by repeat (first | exact Kd.C_below HX1.out HB.out | refine Kd.C_drewN ?_ _)) (by repeat (first | exact Kd.C_below HF1.out HB.out | refine Kd.C_drewN ?_ _)) Ta.out).mono ?_
                    rintro e Wc1 ⟨rfl, ⟨nd1, rfl⟩⟩
                    refine ⟨_, rfl, ?_⟩
                    refine hK.out _ _ ⟨by simpa using hHeld.1, by simpa using hHeld.2.1, by simpa using hHeld.2.2⟩ (fun hHeld => ?_)
                    clear hK K
                    refine norm_ (a' := ?_) ?_ ?_
                    rotate_left
                    ·show Act.put _ (some 75) _ = _
                     simp only [Act.put, List.setIfInBounds_toArray, List.set_cons_zero, List.set_cons_succ, i64_w, i32_w]
                     rfl
                    refine one_ (i := 16) (N := some 79) #[true, true, true, true, true, true, true, true, true, true, true, true, true, true, true, true, true, false] rfl rfl (one_of HT_.out (by kernel_rfl)) (by decide) (fun K hK => ?_)
                    refine cv_goes Try.func131 (by kernel_rfl) rfl #[.int .i64 Xb, .int .i64 m_1, .pointer (some ⟨w.heap.size, 0, none⟩), .pointer (some ⟨w.heap.size + 2, 0, none⟩)] (by rfl) rfl rfl rfl (by simp only [List.map_toArray, List.map_cons, List.map_nil, List.append_toArray, List.cons_append, List.nil_append]; first | done | rfl) ?_
                    refine (curvesPt.calls Xb m_1 _ _ (some adx) c1 l1 AF cF fs_1 pb _ hHeld.1 hHeld.2.1 (by repeat (first | exact Kd.C_below HX1.out HB.out | refine Kd.C_drewN ?_ _)) (by repeat (first | exact Kd.C_below HF1.out HB.out | refine Kd.C_drewN ?_ _)) Tb.out).mono ?_
                    rintro e Wc2 ⟨rfl, ⟨nd2, rfl⟩⟩
                    refine ⟨_, rfl, ?_⟩
                    refine hK.out _ _ ⟨by simpa using hHeld.1, by simpa using hHeld.2.1, by simpa using hHeld.2.2⟩ (fun hHeld => ?_)
                    clear hK K
                    refine norm_ (a' := ?_) ?_ ?_
                    rotate_left
                    ·show Act.put _ (some 79) _ = _
                     simp only [Act.put, List.setIfInBounds_toArray, List.set_cons_zero, List.set_cons_succ, i64_w, i32_w]
                     rfl
                    refine one_ (i := 17) (N := some 80) #[true, true, true, true, true, true, true, true, true, true, true, true, true, true, true, true, true, true] rfl rfl (one_of HT_.out (by kernel_rfl)) (by decide) (fun K hK => ?_)
                    refine goes_ Try.func94 (by kernel_rfl) rfl #[.pointer (some ⟨p, 0, none⟩), .int .i64 pa, .int .i64 pb] (by rfl) rfl rfl (by (try simp only [List.map_toArray, List.map_cons, List.map_nil]); first | done | rfl) ?_
                    refine (joiner_join.calls k4 p AJ cJ up_3 zs pa pb W1 _ (by repeat (first | exact HB.out | refine pbN ?_ _)) (by repeat (first | exact HJ.out | refine Jn.drewN ?_ _)) Tj.out).mono ?_
                    rintro e Wc3 ⟨rfl, hj, hb⟩
                    refine ⟨_, rfl, ?_⟩
                    have HJn := Az.mk hj
                    have HBn := Az.mk hb
                    clear HJ HB hj hb
                    have HJ := HJn
                    have HB := HBn
                    clear HJn HBn
                    refine hK.out _ _ ⟨(HB.out.cell (World.block_lt_of_cell? W1 _ hpx.out)).trans hpx.out, (HB.out.cell (World.block_lt_of_cell? W1 _ hpf.out)).trans hpf.out, (HB.out.cell (World.block_lt_of_cell? W1 _ hxe.out)).trans hxe.out⟩ (fun hHeld => ?_)
                    clear hK K
                    refine norm_ (a' := ?_) ?_ ?_
                    rotate_left
                    ·show Act.put _ (some 80) _ = _
                     simp only [Act.put, List.setIfInBounds_toArray, List.set_cons_zero, List.set_cons_succ, i64_w, i32_w]
                     rfl
                    refine done_ (done_of HT_.out (by kernel_rfl)) ?_
                    clear hHeld
                    go_wp2
                    all_goals (go_roundg k4; (case measure => have := HK1.out; have := HK2.out; have := HK3.out; have := HK4.out; omega); (case rel => exact ⟨zs, _, rfl, H', ⟨by have := HK4.out; omega⟩, ⟨by repeat (first | exact HJ.out | refine Jn.drewN ?_ _)⟩, ⟨by repeat (first | exact HB.out | refine pbN ?_ _)⟩⟩))
                   ·rw [if_neg f3] at H
                    exact absurd H (by simp)
                  ·rw [if_neg f2] at H
                   exact absurd H (by simp)
                 ·rw [if_neg f1, hJ1] at H
                  have f1b : decide (m_1 < cc) = false := decide_eq_false f1
                  clear f1
                  have H' := Az.mk H
                  clear H
                  go_wp2
                  go_roundg k4
                  case measure => have := HK1.out; have := HK2.out; have := HK3.out; have := HK4.out; omega
                  case rel => exact ⟨up_3, _, rfl, H', ⟨by have := HK3.out; have := HK4.out; omega⟩, HJ, HB⟩
              ·rw [if_neg d5] at H
               exact absurd H (by simp)
             ·rw [if_neg d4] at H
              exact absurd H (by simp)
            ·rw [if_neg d3] at H
             exact absurd H (by simp)
           ·rw [if_neg d2] at H
            exact absurd H (by simp)
          ·rw [if_neg d1] at H
           have d1b : decide (j_1 < 3) = false := decide_eq_false d1
           clear d1
           have H' := Az.mk H
           clear H
           go_wp2
           go_roundg k3
           case measure => have := HK1.out; have := HK2.out; have := HK3.out; omega
           case rel => exact ⟨up_2, _, rfl, H', ⟨by have := HK2.out; have := HK3.out; omega⟩, HJ, HB⟩
       ·rw [if_neg b1] at H
        exact absurd H (by simp)
      ·rw [if_neg b2] at H
       have b2b : decide (i_2 < (l0.length : Int)) = false := decide_eq_false b2
       clear b2
       obtain rfl := Option.some.inj H
       go_wp2
       go_ret
       exact ⟨_, rfl, ⟨_, _, HJ.out.lower HB0.out.size⟩, bwT HB0.out HB.out⟩

end Go.Proofs.Ytolmicnapemljaa.P

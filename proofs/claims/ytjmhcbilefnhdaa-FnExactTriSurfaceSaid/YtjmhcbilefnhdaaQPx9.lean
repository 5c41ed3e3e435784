-- By this session's driver (wip/tools/mk.py) of the kit's print program, over several statements at once. Not trusted: Lean checks it.
import Derived.Test.YtjmhcbilefnhdaaQPx0
namespace Go.Proofs.Ytjmhcbilefnhdaa.P
open Go.RowKit Go.Proofs.YtjmhcbilefnhdaaW.PrintWords Go.Proofs.YtjmhcbilefnhdaaW.PrintLast Go.Proofs.YtjmhcbilefnhdaaW.PrintMore
attribute [local go_sem] max2_int min2_int max_two min_two max_three min_three max_four min_four   -- for this text's walks alone
set_option linter.unusedVariables false
set_option linter.unusedSimpArgs false

/-! ### impl_newJoiner: function 17 -/
/-- What lies behind a joiner's pointer: block p holds the slice, its row is owned, apart from p. -/
structure Jn (w : World) (base p : Nat) (A : Option Addr) (c : Nat) (xs : List Int) : Prop where
 lo : base ≤ p
 cell : w.cell? ⟨p, 0, none⟩ = some (.slice A xs.length c)
 row : Kd.R (Kd.int .i64) 3 w base (fun k => k ≠ p) (.slice A xs.length c) xs
theorem Jn.below {w w' : World} {base p : Nat} {A : Option Addr} {c : Nat} {xs : List Int} (h : Jn w base p A c xs) (hb : Below w.heap.size w w') : Jn w' base p A c xs :=
 ⟨h.lo, (hb.cell (World.block_lt_of_cell? w _ h.cell)).trans h.cell, Kd.R_below h.row hb⟩
theorem Jn.drewN {w : World} {base p : Nat} {A : Option Addr} {c : Nat} {xs : List Int} (h : Jn w base p A c xs) (n : Nat) : Jn (w.drewN n) base p A c xs := h.below (pbN (Below.refl _ _) n)
theorem Jn.C {w : World} {base p : Nat} {A : Option Addr} {c : Nat} {xs : List Int} (h : Jn w base p A c xs) : Kd.C (Kd.int .i64) w A xs.length xs := (Kd.R_reads' h.row).2.2
def joiner_top.l0 : Nat → List Int → Int → Option Int
 | 0, _, _ => none
 | k + 1, xs, i => if 0 ≤ i then (if i < (xs.length : Int) then (if rd xs i = i then some i else joiner_top.l0 k xs (rd xs i)) else none) else none
theorem joiner_top.mono : ∀ k y0 y1, LeO (joiner_top.l0 k y0 y1) (joiner_top.l0 (k + 1) y0 y1)
 | 0, y0, y1 => fun r h => by simp [joiner_top.l0] at h
 | k + 1, y0, y1 => by
  have ih0 := joiner_top.mono k
  unfold joiner_top.l0
  repeat' first
   | (with_reducible exact ih0 _ _)
   | (with_reducible exact LeO.refl _)
   | (with_reducible exact LeO.none _)
   | (with_reducible refine LeO.ite ?_ ?_)
set_option maxHeartbeats 8000000 in
set_option maxRecDepth 100000 in
theorem joiner_top.calls (k : Nat) (p : Addr) (A : Option Addr) (c : Nat) (xs : List Int) (i r : Int) (w : World) (hp : w.cell? p = some (.slice A xs.length c)) (hr : Kd.C (Kd.int .i64) w A xs.length xs) (h : joiner_top.l0 k xs i = some r) :
  Calls Try.prog 29 #[.pointer (some p), .int .i64 i] w fun e w' => e = .returned (.int .i64 r) ∧ Drawn0 w w' := by
 have HR := Az.mk hr
 have H' := Az.mk h
 clear hr h
 go_enter Try.func29, Try.ntmps29
 go_wp2
 go_loopg [1] k (fun kq v1 w' => ∃ i_1 : Int, v1 = .int .i64 i_1 ∧ Az (joiner_top.l0 kq xs i_1 = some r) ∧ Az (kq ≤ k) ∧ Drawn0 w w')
 case atStart => exact ⟨i, rfl, H', ⟨Nat.le_refl _⟩, Drawn0.refl _⟩
 case round =>
  clear H'
  obtain ⟨i_1, rfl, HA, HK1, ⟨m1, rfl⟩⟩ := hrel
  cases gk with
  | zero => exact absurd HA.out (by simp [joiner_top.l0])
  | succ k1 =>
   have H := HA.out
   clear HA
   simp only [joiner_top.l0] at H
   by_cases b1 : 0 ≤ i_1
   ·rw [if_pos b1] at H
    by_cases b2 : i_1 < (xs.length : Int)
    ·rw [if_pos b2] at H
     obtain ⟨ad, rfl, hx⟩ := Kd.at_int HR.out i_1 b1 b2
     replace b1 := eq_true b1
     replace b2 := eq_true b2
     obtain ⟨X, hX⟩ : ∃ j_ : Int, rd xs i_1 = j_ := ⟨_, rfl⟩
     rw [hX] at H hx
     clear hX
     by_cases b3 : X = i_1
     ·rw [if_pos b3] at H
      have b3b : (X != i_1) = false := bne_eq_false_iff_eq.mpr b3
      clear b3
      obtain rfl := Option.some.inj H
      go_wp2
      go_ret
      exact ⟨rfl, by repeat (first | exact Drawn0.refl _ | apply Drawn0.step)⟩
     ·rw [if_neg b3] at H
      have b3b : (X != i_1) = true := bne_iff_ne.mpr b3
      clear b3
      have H' := Az.mk H
      clear H
      go_wp2
      go_roundg k1
      case measure => have := HK1.out; omega
      case rel => exact ⟨X, rfl, H', ⟨by have := HK1.out; omega⟩, by repeat (first | exact Drawn0.refl _ | apply Drawn0.step)⟩
    ·rw [if_neg b2] at H
     exact absurd H (by simp)
   ·rw [if_neg b1] at H
    exact absurd H (by simp)
def joiner_join.put (xs : List Int) (p q : Int) : Option (List Int) := if 0 ≤ p then (if p < (xs.length : Int) then some (xs.set p.toNat q) else none) else none
def joiner_join.f (k : Nat) (xs : List Int) (a b : Int) : Option (List Int) := (joiner_top.l0 k xs a).bind fun p => ((joiner_top.l0 k xs b).bind fun q => (if p > q then joiner_join.put xs p q else joiner_join.put xs q p))
theorem joiner_join.mono : ∀ y0 y1 y2 k, LeO (joiner_join.f k y0 y1 y2) (joiner_join.f (k + 1) y0 y1 y2) := by
 intro y0 y1 y2 k
 unfold joiner_join.f
 repeat' first
   | (with_reducible exact joiner_top.mono _ _ _)
   | (with_reducible exact LeO.refl _)
   | (with_reducible exact LeO.none _)
   | (with_reducible refine LeO.ite ?_ ?_)
   | (with_reducible refine LeO.bind ?_ (fun _ => ?_))
theorem joiner_join.put_len {xs ys : List Int} {p q : Int} (h : joiner_join.put xs p q = some ys) : ys.length = xs.length := by
 unfold joiner_join.put at h
 by_cases b1 : 0 ≤ p
 ·rw [if_pos b1] at h
  by_cases b2 : p < (xs.length : Int)
  ·rw [if_pos b2] at h
   obtain rfl := Option.some.inj h
   exact List.length_set ..
  ·rw [if_neg b2] at h
   exact absurd h (by simp)
 ·rw [if_neg b1] at h
  exact absurd h (by simp)
theorem joiner_join.len {k : Nat} {xs ys : List Int} {a b : Int} (h : joiner_join.f k xs a b = some ys) : ys.length = xs.length := by
 unfold joiner_join.f at h
 obtain ⟨p, _, h⟩ := Option.bind_eq_some_iff.mp h
 obtain ⟨q, _, h⟩ := Option.bind_eq_some_iff.mp h
 by_cases b : p > q
 ·rw [if_pos b] at h; exact joiner_join.put_len h
 ·rw [if_neg b] at h; exact joiner_join.put_len h
set_option maxHeartbeats 8000000 in
set_option maxRecDepth 100000 in
theorem joiner_join.calls (k : Nat) (p : Nat) (A : Option Addr) (c : Nat) (xs ys : List Int) (a b : Int) (w0 w : World) (hB : Below w0.heap.size w0 w) (hJ : Jn w w0.heap.size p A c xs) (h : joiner_join.f k xs a b = some ys) :
  Calls Try.prog 19 #[.pointer (some ⟨p, 0, none⟩), .int .i64 a, .int .i64 b] w fun e w' => e = .returned (.tuple #[]) ∧ Jn w' w0.heap.size p A c ys ∧ Below w0.heap.size w0 w' := by
 have HB := Az.mk hB
 have HJ := Az.mk hJ
 clear hB hJ
 unfold joiner_join.f at h
 obtain ⟨P, T1, h⟩ := Option.bind_eq_some_iff.mp h
 obtain ⟨Q, T2, h⟩ := Option.bind_eq_some_iff.mp h
 have T1 := Az.mk T1
 have T2 := Az.mk T2
 have K : ∀ (i r : Int), joiner_top.l0 k xs i = some r → ∀ W, Drawn0 w W → Calls Try.prog 29 #[.pointer (some ⟨p, 0, none⟩), .int .i64 i] W fun e w' => e = .returned (.int .i64 r) ∧ Drawn0 W w' := by
  rintro i r ht W ⟨n, rfl⟩
  have J := HJ.out.drewN n
  exact joiner_top.calls k _ A c xs i r _ J.cell J.C ht
 have K1 := K _ _ T1.out
 have K2 := K _ _ T2.out
 clear K T1 T2
 have key : ∀ (u v : Int), joiner_join.put xs u v = some ys → ∃ g : Nat, A = some ⟨g, 0, none⟩ ∧ (0 ≤ u ∧ u < (xs.length : Int)) ∧ w.cell? ⟨g, u.toNat, none⟩ = some (.int .i64 (rd xs u)) ∧ w.frozen? ⟨g, u.toNat, none⟩ = false ∧ ∀ W, Drawn0 w W → Jn (W.setCell ⟨g, u.toNat, none⟩ (.int .i64 v)) w0.heap.size p A c ys ∧ Below w0.heap.size w0 (W.setCell ⟨g, u.toNat, none⟩ (.int .i64 v)) := by
  intro u v hput
  have hlen := joiner_join.put_len hput
  unfold joiner_join.put at hput
  by_cases b1 : 0 ≤ u
  ·rw [if_pos b1] at hput
   by_cases b2 : u < (xs.length : Int)
   ·rw [if_pos b2] at hput
    obtain rfl := Option.some.inj hput
    obtain ⟨g, cap, eg, hg1, _⟩ := Kd.R_form HJ.out.row (by omega)
    injection eg with ea en ec
    subst ea
    subst ec
    have hne : g ≠ p := HJ.out.row.1 g rfl
    obtain ⟨hx, hf⟩ := Kd.R_celln 0 HJ.out.row u b1 b2
    refine ⟨g, rfl, ⟨b1, b2⟩, hx, hf, ?_⟩
    rintro W ⟨n, rfl⟩
    have J := HJ.out.drewN n
    have HP := Kd.R_putg J.row u v
    refine ⟨⟨J.lo, ?_, ?_⟩, bwS (pbN HB.out n) hg1⟩
    ·rw [hlen]
     exact (cell_far (fun e => hne e.symm) _).trans J.cell
    ·rw [hlen]
     exact HP.1
   ·rw [if_neg b2] at hput
    exact absurd hput (by simp)
  ·rw [if_neg b1] at hput
   exact absurd hput (by simp)
 have hcell := HJ.out.cell
 by_cases b : P > Q
 ·rw [if_pos b] at h
  obtain ⟨g, rfl, ⟨b1, b2⟩, hx, hf, fin⟩ := key P Q h
  have FIN := Az.mk fin
  have bb : decide (P > Q) = true := decide_eq_true b
  have bb' : decide (Q < P) = true := decide_eq_true b
  replace b1 := eq_true b1
  replace b2 := eq_true b2
  clear key fin h b HJ HB
  go_enter Try.func19, Try.ntmps19
  go_wp2_with (first
   | (go_at_call 29; refine (K1 _ (by repeat (first | exact Drawn0.refl _ | apply Drawn0.step))).mono ?_; rintro e w' ⟨rfl, ⟨nd1, rfl⟩⟩; clear K1)
   | (go_at_call 29; refine (K2 _ (by repeat (first | exact Drawn0.refl _ | apply Drawn0.step))).mono ?_; rintro e w' ⟨rfl, ⟨nd2, rfl⟩⟩; clear K2))
  first | go_end0 | ((try simp only [Exit.inBlock, Exit.then]); refine bodyPost_ret (results_none rfl _ _ _) rfl ?_)
  exact ⟨rfl, (FIN.out _ ⟨_, rfl⟩).1, (FIN.out _ ⟨_, rfl⟩).2⟩
 ·rw [if_neg b] at h
  obtain ⟨g, rfl, ⟨b1, b2⟩, hx, hf, fin⟩ := key Q P h
  have FIN := Az.mk fin
  have bb : decide (P > Q) = false := decide_eq_false b
  have bb' : decide (Q < P) = false := decide_eq_false b
  replace b1 := eq_true b1
  replace b2 := eq_true b2
  clear key fin h b HJ HB
  go_enter Try.func19, Try.ntmps19
  go_wp2_with (first
   | (go_at_call 29; refine (K1 _ (by repeat (first | exact Drawn0.refl _ | apply Drawn0.step))).mono ?_; rintro e w' ⟨rfl, ⟨nd1, rfl⟩⟩; clear K1)
   | (go_at_call 29; refine (K2 _ (by repeat (first | exact Drawn0.refl _ | apply Drawn0.step))).mono ?_; rintro e w' ⟨rfl, ⟨nd2, rfl⟩⟩; clear K2))
  first | go_end0 | ((try simp only [Exit.inBlock, Exit.then]); refine bodyPost_ret (results_none rfl _ _ _) rfl ?_)
  exact ⟨rfl, (FIN.out _ ⟨_, rfl⟩).1, (FIN.out _ ⟨_, rfl⟩).2⟩
def impl_newJoiner.l0 : Nat → Int → List Int → Int → Option (List Int)
 | 0, _, _, _ => none
 | k + 1, n, xs, i => if i < n then (if xs.length < 17592186044415 then impl_newJoiner.l0 k n (xs ++ [i]) (wrap64 (i + 1)) else none) else some xs
theorem impl_newJoiner.mono : ∀ k y0 y1 y2, LeO (impl_newJoiner.l0 k y0 y1 y2) (impl_newJoiner.l0 (k + 1) y0 y1 y2)
 | 0, y0, y1, y2 => fun r h => by simp [impl_newJoiner.l0] at h
 | k + 1, y0, y1, y2 => by
  have ih0 := impl_newJoiner.mono k
  unfold impl_newJoiner.l0
  repeat' first
   | (with_reducible exact ih0 _ _ _)
   | (with_reducible exact LeO.refl _)
   | (with_reducible exact LeO.none _)
   | (with_reducible refine LeO.ite ?_ ?_)
structure Jh (w : World) (base p : Nat) (A : Option Addr) (c : Nat) (xs : List Int) : Prop where
 lo : base ≤ p
 blk : w.heap[p]? = some (.cells #[.slice A xs.length c] 53 (0, 0))
 row : Kd.R (Kd.int .i64) 3 w base (fun k => k ≠ p) (.slice A xs.length c) xs
theorem jnblk_cell {w : World} {p t : Nat} {v : Value} (h : w.heap[p]? = some (.cells #[v] t (0, 0))) : w.cell? ⟨p, 0, none⟩ = some v ∧ w.frozen? ⟨p, 0, none⟩ = false := by
 unfold World.cell? World.frozen?
 rw [h]
 exact ⟨rfl, rfl⟩
theorem jnblk_set {w : World} {p t : Nat} {v : Value} (u : Value) (h : w.heap[p]? = some (.cells #[v] t (0, 0))) : (w.setCell ⟨p, 0, none⟩ u).heap[p]? = some (.cells #[u] t (0, 0)) := by
 unfold World.setCell
 show (w.heap.modify p _)[p]? = _
 rw [Array.getElem?_modify, if_pos rfl, h]
 rfl
theorem Jh.J {w : World} {base p : Nat} {A : Option Addr} {c : Nat} {xs : List Int} (h : Jh w base p A c xs) : Jn w base p A c xs := ⟨h.lo, (jnblk_cell h.blk).1, h.row⟩
set_option maxHeartbeats 8000000 in
set_option maxRecDepth 100000 in
theorem impl_newJoiner.calls (k : Nat) (n : Int) (xs : List Int) (w0 w : World) (hB : Below w0.heap.size w0 w) (h : impl_newJoiner.l0 k n [] 0 = some xs) :
  Calls Try.prog 17 #[.int .i64 n] w fun e w' => ∃ (p : Nat) (A : Option Addr) (c : Nat), e = .returned (.pointer (some ⟨p, 0, none⟩)) ∧ Jn w' w0.heap.size p A c xs ∧ Below w0.heap.size w0 w' ∧ w.heap.size ≤ p := by
 have HB := Az.mk hB
 clear hB
 have H' := Az.mk h
 clear h
 go_enter Try.func17, Try.ntmps17
 go_wp2
 go_loopg [8] k (fun kq v8 w' => ∃ (ys : List Int) (i_1 : Int) (A : Option Addr) (c : Nat), v8 = .int .i64 i_1 ∧ Az (impl_newJoiner.l0 kq n ys i_1 = some xs) ∧ Az (kq ≤ k) ∧ Az (Jh w' w0.heap.size w.heap.size A c ys) ∧ Az (Below w0.heap.size w0 w') ∧ Az (w.heap.size < w'.heap.size))
 case atStart =>
  refine ⟨[], 0, none, 0, rfl, H', ⟨Nat.le_refl _⟩, ⟨⟨?_, ?_, Kd.R_nil _ _ _ _ _⟩⟩, ⟨?_⟩, ⟨?_⟩⟩
  ·exact HB.out.size
  ·exact Array.getElem?_push_size
  ·exact HB.out.alloc HB.out.size _
  ·exact Nat.lt_of_lt_of_eq (Nat.lt_succ_self _) (Array.size_push _).symm
 case round =>
  clear H' HB
  obtain ⟨ys, i_1, A, c, rfl, HA, HK1, HJ, HB, HL⟩ := hrel
  cases gk with
  | zero => exact absurd HA.out (by simp [impl_newJoiner.l0])
  | succ k1 =>
   have H := HA.out
   clear HA
   simp only [impl_newJoiner.l0] at H
   have hx := (jnblk_cell HJ.out.blk).1
   have hf := (jnblk_cell HJ.out.blk).2
   by_cases b1 : i_1 < n
   ·rw [if_pos b1] at H
    by_cases b2 : ys.length < 17592186044415
    ·rw [if_pos b2] at H
     have H' := Az.mk H
     have LM := Az.mk b2
     have b1b := decide_eq_true b1
     clear H b1 b2
     go_wp2_with (first | ((with_reducible refine gate_builtin (b := .append) (xs := #[.tmp 15, .tmp 17]) rfl ?_); at_builtin; refine Kd.R_append (Kd.int .i64) (w0 := w0) w0.heap.size rfl (.tmp 15) (.tmp 17) 33 3 (.int .i64 0) 8 rfl Try.underlying33 info3 rfl (by decide) (by omega) (.slice A ys.length c) ys i_1 [.int .i64 i_1] (fun k => k ≠ w.heap.size) (fun _ => False) rfl rfl ?aP (fun _ hk => hk.elim) ?aF ?aO ?aB ?aS ?aL ?_; (case aP => exact rfl); (case aB => exact (by repeat (first | (with_reducible first | exact HB.out | apply pbN) | exact HB.out))); (case aF => exact (fun k_ hk_ e_ => by subst e_; exact absurd (Nat.lt_of_lt_of_le HL.out hk_) (Nat.lt_irrefl _))); (case aO => exact (by (with_reducible repeat (first | apply Kd.R_alloc | apply Kd.R_drewN | apply Kd.R_drew)); exact HJ.out.row)); (case aS => exact HB.out.size); (case aL => have := LM.out; omega); intro v1 w6 ho hb hg hat; obtain ⟨A2, c2, e2⟩ := Kd.R_slice ho; subst e2; have hk2 := (hg.block w.heap.size HL.out (fun e_ => HJ.out.row.1 w.heap.size e_.symm rfl)).trans HJ.out.blk; have HJ2 := Az.mk ho; have HB2 := Az.mk hb; have HL2 := Az.mk (blk_lt hk2); have HK := Az.mk hk2; have hx2 := (jnblk_cell hk2).1; have hf2 := (jnblk_cell hk2).2; clear ho hb hg hat hk2 hx hf))
     go_roundg k1
     case measure => have := HK1.out; omega
     case rel =>
      refine ⟨ys ++ [i_1], _, A2, c2, rfl, H', ⟨by have := HK1.out; omega⟩, ⟨⟨HJ.out.lo, ?_, ?_⟩⟩, ⟨?_⟩, ⟨?_⟩⟩
      ·rw [List.length_append]
       exact jnblk_set _ HK.out
      ·exact Kd.R_far (p := ⟨w.heap.size, 0, none⟩) HJ2.out (fun k_ hk_ => hk_) _
      ·exact bwS HB2.out HJ.out.lo
      ·exact Nat.lt_of_lt_of_eq HL2.out (Array.size_modify ..).symm
    ·rw [if_neg b2] at H
     exact absurd H (by simp)
   ·rw [if_neg b1] at H
    have b1b : decide (i_1 < n) = false := decide_eq_false b1
    clear b1
    obtain rfl := Option.some.inj H
    go_wp2
    go_ret
    exact ⟨_, rfl, ⟨A, c, HJ.out.J⟩, HB.out, Nat.le_refl _⟩

/-! ### impl_indexOf: function 28 -/
def impl_indexOf.l0 : Nat → Int → List Int → Int → Int → Option (Int)
 | 0, _, _, _, _ => none
 | k + 1, x1, x7, x8, x9 => if x9 < x8 then (if 0 ≤ x9 then (if x9 < (x7.length : Int) then (if (rd x7 x9) = x1 then (some x9) else (impl_indexOf.l0 k x1 x7 x8 (wrap64 (x9 + 1)))) else (none)) else (none)) else (some (-1))
def impl_indexOf.f (k : Nat) (l0 : List Int) (a1 : Int) : Option (Int) := impl_indexOf.l0 k a1 l0 (l0.length : Int) 0
theorem impl_indexOf.mono_l : ∀ k, (∀ y0 y1 y2 y3, LeO (impl_indexOf.l0 k y0 y1 y2 y3) (impl_indexOf.l0 (k + 1) y0 y1 y2 y3))
 | 0 => fun _ _ _ _ r h => by simp [impl_indexOf.l0] at h
 | k + 1 => by
  have ih0 := impl_indexOf.mono_l k
  ·intro y0 y1 y2 y3
   unfold impl_indexOf.l0
   repeat' first
   | (with_reducible exact ih0 _ _ _ _)
   | (with_reducible exact LeO.refl _)
   | (with_reducible exact LeO.none _)
   | (with_reducible refine LeO.ite ?_ ?_)
   | (with_reducible refine LeO.bind ?_ (fun _ => ?_))
   | exact ih0 _ _ _ _
   | exact LeO.none _
   | refine LeO.ite ?_ ?_
   | refine LeO.bind ?_ (fun _ => ?_)
theorem impl_indexOf.mono : ∀ a0 a1 k, LeO (impl_indexOf.f k a0 a1) (impl_indexOf.f (k + 1) a0 a1) := by
 intro a0 a1 k
 have ih0 := impl_indexOf.mono_l k
 unfold impl_indexOf.f
 repeat' first
   | (with_reducible exact ih0 _ _ _ _)
   | (with_reducible exact LeO.refl _)
   | (with_reducible exact LeO.none _)
   | (with_reducible refine LeO.ite ?_ ?_)
   | (with_reducible refine LeO.bind ?_ (fun _ => ?_))
   | exact ih0 _ _ _ _
   | exact LeO.none _
   | refine LeO.ite ?_ ?_
   | refine LeO.bind ?_ (fun _ => ?_)
set_option maxHeartbeats 8000000 in
set_option maxRecDepth 100000 in
theorem impl_indexOf.calls (k : Nat) (A0 : Option Addr) (c0 : Nat) (l0 : List Int) (a1 : Int) (r : Int) (w : World) (hr0 : Kd.C (Kd.int .i64) w A0 l0.length l0) (hc0 : l0.length ≤ c0) (h : impl_indexOf.f k l0 a1 = some r) :
  Calls Try.prog 28 #[.slice A0 l0.length c0, .int .i64 a1] w fun e w' => e = .returned (.int .i64 r) ∧ Drawn0 w w' := by
 have HR0 := Az.mk hr0
 have HC0 := Az.mk hc0
 clear hr0 hc0
 have H : (impl_indexOf.l0 k a1 l0 (l0.length : Int) 0) = some r := h
 clear h
 have H' := Az.mk H
 clear H
 go_enter Try.func28, Try.ntmps28
 go_wp2
 go_loopg [9] k (fun kq v9 w' => ∃ (x9_1 : Int), v9 = .int .i64 x9_1 ∧ Az (impl_indexOf.l0 kq a1 l0 (l0.length : Int) x9_1 = some r) ∧ Az (kq ≤ k) ∧ Drawn0 w w')
 case atStart => exact ⟨(0), (by first | rfl | (simp; done) | (simp [*]; done)), H', ⟨Nat.le_refl _⟩, by repeat (first | exact Drawn0.refl _ | apply Drawn0.step)⟩
 case round =>
  clear H'
  try clear c2
  try clear p2
  obtain ⟨x9_1, rfl, HA, HK1, ⟨m1, rfl⟩⟩ := hrel
  cases gk with
  | zero => exact absurd HA.out (by simp [impl_indexOf.l0])
  | succ k1 =>
   have H := HA.out
   clear HA
   simp only [impl_indexOf.l0] at H
   by_cases c3 : x9_1 < (l0.length : Int)
   ·rw [if_pos c3] at H
    have c3b0 : decide (x9_1 < (l0.length : Int)) = true := decide_eq_true c3
    clear c3
    by_cases c4 : 0 ≤ x9_1
    ·rw [if_pos c4] at H
     have c4b0 : decide (0 ≤ x9_1) = true := decide_eq_true c4
     clear c4
     by_cases c5 : x9_1 < (l0.length : Int)
     ·rw [if_pos c5] at H
      have c5b0 : decide (x9_1 < (l0.length : Int)) = true := decide_eq_true c5
      clear c5
      by_cases c6 : (rd l0 x9_1) = a1
      ·rw [if_pos c6] at H
       have c6b0 : ((rd l0 x9_1) == a1) = true := beq_iff_eq.mpr c6
       have c6b1 : ((rd l0 x9_1) != a1) = false := bne_eq_false_iff_eq.mpr c6
       clear c6
       obtain rfl := Option.some.inj H
       have p169 : 0 ≤ (x9_1 : Int) := of_decide_eq_true (by first | (with_reducible assumption) | assumption)
       have q169 : x9_1 < (l0.length : Int) := of_decide_eq_true (by first | (with_reducible assumption) | assumption)
       obtain ⟨ad169, e169, hx169_0⟩ := Kd.at_int HR0.out x9_1 p169 q169
       cases e169
       replace p169 := eq_true p169
       replace q169 := eq_true q169
       go_wp2
       go_ret
       exact ⟨by first | rfl | (simp; done) | (simp [*]; done), by repeat (first | exact Drawn0.refl _ | apply Drawn0.step)⟩
      ·rw [if_neg c6] at H
       have c6b0 : ((rd l0 x9_1) == a1) = false := beq_eq_false_iff_ne.mpr c6
       have c6b1 : ((rd l0 x9_1) != a1) = true := bne_iff_ne.mpr c6
       have H' := Az.mk H
       clear H
       have p169 : 0 ≤ (x9_1 : Int) := of_decide_eq_true (by first | (with_reducible assumption) | assumption)
       have q169 : x9_1 < (l0.length : Int) := of_decide_eq_true (by first | (with_reducible assumption) | assumption)
       obtain ⟨ad169, e169, hx169_0⟩ := Kd.at_int HR0.out x9_1 p169 q169
       cases e169
       replace p169 := eq_true p169
       replace q169 := eq_true q169
       go_wp2
       go_roundg k1
       case measure => have := HK1.out; omega
       case rel => exact ⟨(wrap64 (x9_1 + 1)), (by first | rfl | (simp; done) | (simp [*]; done)), H', ⟨by have := HK1.out; omega⟩, by repeat (first | exact Drawn0.refl _ | apply Drawn0.step)⟩
     ·rw [if_neg c5] at H
      exact absurd H (by simp)
    ·rw [if_neg c4] at H
     exact absurd H (by simp)
   ·rw [if_neg c3] at H
    have c3b0 : decide (x9_1 < (l0.length : Int)) = false := decide_eq_false c3
    clear c3
    obtain rfl := Option.some.inj H
    go_wp2
    go_ret
    exact ⟨by first | rfl | (simp; done) | (simp [*]; done), by repeat (first | exact Drawn0.refl _ | apply Drawn0.step)⟩

end Go.Proofs.Ytjmhcbilefnhdaa.P

-- By this session's driver (wip/tools/mk.py) of the kit's print program, over several statements at once. Not trusted: Lean checks it.
import Derived.Test.YtkmjcdlhlhefdaaQWZip
import Derived.Test.YtkmjcdlhlhefdaaQPx0
import Derived.Test.YtkmjcdlhlhefdaaQPx5
namespace Go.Proofs.Ytkmjcdlhlhefdaa.P
open Go.RowKit Go.Proofs.YtkmjcdlhlhefdaaW.PrintWords Go.Proofs.YtkmjcdlhlhefdaaW.PrintLast Go.Proofs.YtkmjcdlhlhefdaaW.PrintMore
attribute [local go_sem] max2_int min2_int max_two min_two max_three min_three max_four min_four   -- for this text's walks alone
set_option linter.unusedVariables false
set_option linter.unusedSimpArgs false
open Option renaming bind_eq_some_iff → be

/-! ### impl_newJoiner: function 73 -/
/-- What lies behind a joiner's pointer: block p holds the slice, its row is owned, apart from p. -/
structure Jn (w : World) (base p : Nat) (A : Option Addr) (c : Nat) (xs : List Int) : Prop where
 lo : base ≤ p
 cell : w.cell? ⟨p, 0, none⟩ = some (.slice A xs.length c)
 row : Kd.R (Kd.int .i64) 3 w base (fun k => k ≠ p) (.slice A xs.length c) xs
theorem Jn.below {w w' : World} {base p : Nat} {A : Option Addr} {c : Nat} {xs : List Int} (h : Jn w base p A c xs) (hb : Below w.heap.size w w') : Jn w' base p A c xs :=
 ⟨h.lo, (hb.cell (World.block_lt_of_cell? w _ h.cell)).trans h.cell, Kd.R_below h.row hb⟩
theorem Jn.drewN {w : World} {base p : Nat} {A : Option Addr} {c : Nat} {xs : List Int} (h : Jn w base p A c xs) (n : Nat) : Jn (w.drewN n) base p A c xs := h.below (pbN (Below.refl _ _) n)
theorem Jn.C {w : World} {base p : Nat} {A : Option Addr} {c : Nat} {xs : List Int} (h : Jn w base p A c xs) : Kd.C (Kd.int .i64) w A xs.length xs := (Kd.R_reads' h.row).2.2
def joiner_top.l0 : Nat → List Int → Int → Option Int
 | 0, _, _ => none
 | k + 1, xs, i => if 0 ≤ i then (if i < (xs.length : Int) then (if rd xs i = i then some i else joiner_top.l0 k xs (rd xs i)) else none) else none
theorem joiner_top.mono : ∀ k y0 y1, LeO (joiner_top.l0 k y0 y1) (joiner_top.l0 (k + 1) y0 y1)
 | 0, y0, y1 => fun r h => by simp [joiner_top.l0] at h
 | k + 1, y0, y1 => by
  have ih0 := joiner_top.mono k
  have i0 := fun z0 z1 => MoO.mk (ih0 z0 z1)
  unfold joiner_top.l0
  exact mo_
set_option maxHeartbeats 8000000 in
set_option maxRecDepth 100000 in
theorem joiner_top.calls (k : Nat) (p : Addr) (A : Option Addr) (c : Nat) (xs : List Int) (i r : Int) (w : World) (hp : w.cell? p = some (.slice A xs.length c)) (hr : Kd.C (Kd.int .i64) w A xs.length xs) (h : joiner_top.l0 k xs i = some r) :
  Calls Try.prog 78 #[.pointer (some p), .int .i64 i] w fun e w' => e = .returned (.int .i64 r) ∧ Drawn0 w w' := by
 have HR := Az.mk hr
 have H' := Az.mk h
 clear hr h
 go_enter Try.func78, Try.ntmps78
 go_wp2
 go_loopg [1] k (fun kq v1 w' => ∃ i_1 : Int, v1 = .int .i64 i_1 ∧ Az (joiner_top.l0 kq xs i_1 = some r) ∧ Az (kq ≤ k) ∧ Drawn0 w w')
 case atStart => exact ⟨i, rfl, H', ⟨Nat.le_refl _⟩, Drawn0.refl _⟩
 clear H'
 obtain ⟨i_1, rfl, HA, HK1, ⟨m1, rfl⟩⟩ := hrel
 cases gk with
 | zero => exact absurd HA.out (by simp [joiner_top.l0])
 | succ k1 =>
  have H := HA.out
  clear HA
  simp only [joiner_top.l0] at H
  by_cases b1 : 0 ≤ i_1
  rotate_left
  ·rw [if_neg b1] at H
   exact absurd H (by simp)
  rw [if_pos b1] at H
  by_cases b2 : i_1 < (xs.length : Int)
  rotate_left
  ·rw [if_neg b2] at H
   exact absurd H (by simp)
  rw [if_pos b2] at H
  obtain ⟨ad, rfl, hx⟩ := Kd.at_int HR.out i_1 b1 b2
  replace b1 := eq_true b1
  replace b2 := eq_true b2
  obtain ⟨X, hX⟩ : ∃ j_ : Int, rd xs i_1 = j_ := ⟨_, rfl⟩
  rw [hX] at H hx
  clear hX
  by_cases b3 : X = i_1
  ·rw [if_pos b3] at H
   have b3b : (X != i_1) = false := bne_eq_false_iff_eq.mpr b3
   clear b3
   obtain rfl := Option.some.inj H
   go_wp2
   go_ret
   exact ⟨rfl, kd⟩
  rw [if_neg b3] at H
  have b3b : (X != i_1) = true := bne_iff_ne.mpr b3
  clear b3
  have H' := Az.mk H
  clear H
  go_wp2
  go_roundg k1
  case measure => have := HK1.out; omega
  case rel => exact ⟨X, rfl, H', ⟨by have := HK1.out; omega⟩, kd⟩
def joiner_join.put (xs : List Int) (p q : Int) : Option (List Int) := if 0 ≤ p then (if p < (xs.length : Int) then some (xs.set p.toNat q) else none) else none
instance joiner_top.mi {y0 y1 k} : MoO (joiner_top.l0 k y0 y1) (joiner_top.l0 (k + 1) y0 y1) := ⟨joiner_top.mono _ _ _⟩
def joiner_join.f (k : Nat) (xs : List Int) (a b : Int) : Option (List Int) := (joiner_top.l0 k xs a).bind fun p => ((joiner_top.l0 k xs b).bind fun q => (if p > q then joiner_join.put xs p q else joiner_join.put xs q p))
theorem joiner_join.mono : ∀ y0 y1 y2 k, LeO (joiner_join.f k y0 y1 y2) (joiner_join.f (k + 1) y0 y1 y2) := by
 intro y0 y1 y2 k
 unfold joiner_join.f
 exact mo_
instance joiner_join.mi {y0 y1 y2 k} : MoO (joiner_join.f k y0 y1 y2) (joiner_join.f (k + 1) y0 y1 y2) := ⟨joiner_join.mono _ _ _ _⟩
theorem joiner_join.put_len {xs ys : List Int} {p q : Int} (h : joiner_join.put xs p q = some ys) : ys.length = xs.length := by
 unfold joiner_join.put at h
 by_cases b1 : 0 ≤ p
 rotate_left
 ·rw [if_neg b1] at h
  exact absurd h (by simp)
 rw [if_pos b1] at h
 by_cases b2 : p < (xs.length : Int)
 ·rw [if_pos b2] at h
  obtain rfl := Option.some.inj h
  exact List.length_set ..
 rw [if_neg b2] at h
 exact absurd h (by simp)
theorem joiner_join.len {k : Nat} {xs ys : List Int} {a b : Int} (h : joiner_join.f k xs a b = some ys) : ys.length = xs.length := by
 unfold joiner_join.f at h
 obtain ⟨p, _, h⟩ := be.mp h
 obtain ⟨q, _, h⟩ := be.mp h
 by_cases b : p > q
 ·rw [if_pos b] at h; exact joiner_join.put_len h
 rw [if_neg b] at h; exact joiner_join.put_len h
set_option maxHeartbeats 8000000 in
set_option maxRecDepth 100000 in
theorem joiner_join.calls (k : Nat) (p : Nat) (A : Option Addr) (c : Nat) (xs ys : List Int) (a b : Int) (w0 w : World) (hB : Below w0.heap.size w0 w) (hJ : Jn w w0.heap.size p A c xs) (h : joiner_join.f k xs a b = some ys) :
  Calls Try.prog 74 #[.pointer (some ⟨p, 0, none⟩), .int .i64 a, .int .i64 b] w fun e w' => e = .returned (.tuple #[]) ∧ Jn w' w0.heap.size p A c ys ∧ Below w0.heap.size w0 w' := by
 have HB := Az.mk hB
 have HJ := Az.mk hJ
 clear hB hJ
 unfold joiner_join.f at h
 obtain ⟨P, T1, h⟩ := be.mp h
 obtain ⟨Q, T2, h⟩ := be.mp h
 have T1 := Az.mk T1
 have T2 := Az.mk T2
 have K : ∀ (i r : Int), joiner_top.l0 k xs i = some r → ∀ W, Drawn0 w W → Calls Try.prog 78 #[.pointer (some ⟨p, 0, none⟩), .int .i64 i] W fun e w' => e = .returned (.int .i64 r) ∧ Drawn0 W w' := by
  rintro i r ht W ⟨n, rfl⟩
  have J := HJ.out.drewN n
  exact joiner_top.calls k _ A c xs i r _ J.cell J.C ht
 have K1 := K _ _ T1.out
 have K2 := K _ _ T2.out
 clear K T1 T2
 have key : ∀ (u v : Int), joiner_join.put xs u v = some ys → ∃ g : Nat, A = some ⟨g, 0, none⟩ ∧ (0 ≤ u ∧ u < (xs.length : Int)) ∧ w.cell? ⟨g, u.toNat, none⟩ = some (.int .i64 (rd xs u)) ∧ w.frozen? ⟨g, u.toNat, none⟩ = false ∧ ∀ W, Drawn0 w W → Jn (W.setCell ⟨g, u.toNat, none⟩ (.int .i64 v)) w0.heap.size p A c ys ∧ Below w0.heap.size w0 (W.setCell ⟨g, u.toNat, none⟩ (.int .i64 v)) := by
  intro u v hput
  have hlen := joiner_join.put_len hput
  unfold joiner_join.put at hput
  by_cases b1 : 0 ≤ u
  rotate_left
  ·rw [if_neg b1] at hput
   exact absurd hput (by simp)
  rw [if_pos b1] at hput
  by_cases b2 : u < (xs.length : Int)
  rotate_left
  ·rw [if_neg b2] at hput
   exact absurd hput (by simp)
  rw [if_pos b2] at hput
  obtain rfl := Option.some.inj hput
  obtain ⟨g, cap, eg, hg1, _⟩ := Kd.R_form HJ.out.row (by omega)
  injection eg with ea en ec
  subst ea
  subst ec
  have hne : g ≠ p := HJ.out.row.1 g rfl
  obtain ⟨hx, hf⟩ := Kd.R_celln 0 HJ.out.row u b1 b2
  refine ⟨g, rfl, ⟨b1, b2⟩, hx, hf, ?_⟩
  rintro W ⟨n, rfl⟩
  have J := HJ.out.drewN n
  have HP := Kd.R_putg J.row u v
  refine ⟨⟨J.lo, ?_, ?_⟩, bwS (pbN HB.out n) hg1⟩
  ·rw [hlen]
   exact (cell_far (fun e => hne e.symm) _).trans J.cell
  rw [hlen]
  exact HP.1
 have hcell := HJ.out.cell
 by_cases b : P > Q
 ·rw [if_pos b] at h
  obtain ⟨g, rfl, ⟨b1, b2⟩, hx, hf, fin⟩ := key P Q h
  have FIN := Az.mk fin
  have bb : decide (P > Q) = true := decide_eq_true b
  have bb' : decide (Q < P) = true := decide_eq_true b
  replace b1 := eq_true b1
  replace b2 := eq_true b2
  clear key fin h b HJ HB
  go_enter Try.func74, Try.ntmps74
  go_wp2_with (first
   | (go_at_call 78; refine (K1 _ (by repeat (first | exact Drawn0.refl _ | apply Drawn0.step))).mono ?_; rintro e w' ⟨rfl, ⟨nd1, rfl⟩⟩; clear K1)
   | (go_at_call 78; refine (K2 _ (by repeat (first | exact Drawn0.refl _ | apply Drawn0.step))).mono ?_; rintro e w' ⟨rfl, ⟨nd2, rfl⟩⟩; clear K2))
  first | go_end0 | ((try simp only [Exit.inBlock, Exit.then]); refine bodyPost_ret (results_none rfl _ _ _) rfl ?_)
  exact ⟨rfl, (FIN.out _ ⟨_, rfl⟩).1, (FIN.out _ ⟨_, rfl⟩).2⟩
 rw [if_neg b] at h
 obtain ⟨g, rfl, ⟨b1, b2⟩, hx, hf, fin⟩ := key Q P h
 have FIN := Az.mk fin
 have bb : decide (P > Q) = false := decide_eq_false b
 have bb' : decide (Q < P) = false := decide_eq_false b
 replace b1 := eq_true b1
 replace b2 := eq_true b2
 clear key fin h b HJ HB
 go_enter Try.func74, Try.ntmps74
 go_wp2_with (first
  | (go_at_call 78; refine (K1 _ (by repeat (first | exact Drawn0.refl _ | apply Drawn0.step))).mono ?_; rintro e w' ⟨rfl, ⟨nd1, rfl⟩⟩; clear K1)
  | (go_at_call 78; refine (K2 _ (by repeat (first | exact Drawn0.refl _ | apply Drawn0.step))).mono ?_; rintro e w' ⟨rfl, ⟨nd2, rfl⟩⟩; clear K2))
 first | go_end0 | ((try simp only [Exit.inBlock, Exit.then]); refine bodyPost_ret (results_none rfl _ _ _) rfl ?_)
 exact ⟨rfl, (FIN.out _ ⟨_, rfl⟩).1, (FIN.out _ ⟨_, rfl⟩).2⟩
def impl_newJoiner.l0 : Nat → Int → List Int → Int → Option (List Int)
 | 0, _, _, _ => none
 | k + 1, n, xs, i => if i < n then (if xs.length < 17592186044415 then impl_newJoiner.l0 k n (xs ++ [i]) (wrap64 (i + 1)) else none) else some xs
theorem impl_newJoiner.mono : ∀ k y0 y1 y2, LeO (impl_newJoiner.l0 k y0 y1 y2) (impl_newJoiner.l0 (k + 1) y0 y1 y2)
 | 0, y0, y1, y2 => fun r h => by simp [impl_newJoiner.l0] at h
 | k + 1, y0, y1, y2 => by
  have ih0 := impl_newJoiner.mono k
  have i0 := fun z0 z1 z2 => MoO.mk (ih0 z0 z1 z2)
  unfold impl_newJoiner.l0
  exact mo_
structure Jh (w : World) (base p : Nat) (A : Option Addr) (c : Nat) (xs : List Int) : Prop where
 lo : base ≤ p
 blk : w.heap[p]? = some (.cells #[.slice A xs.length c] 65 (0, 0))
 row : Kd.R (Kd.int .i64) 3 w base (fun k => k ≠ p) (.slice A xs.length c) xs
theorem jnblk_cell {w : World} {p t : Nat} {v : Value} (h : w.heap[p]? = some (.cells #[v] t (0, 0))) : w.cell? ⟨p, 0, none⟩ = some v ∧ w.frozen? ⟨p, 0, none⟩ = false := by
 unfold World.cell? World.frozen?
 rw [h]
 exact ⟨rfl, rfl⟩
theorem jnblk_set {w : World} {p t : Nat} {v : Value} (u : Value) (h : w.heap[p]? = some (.cells #[v] t (0, 0))) : (w.setCell ⟨p, 0, none⟩ u).heap[p]? = some (.cells #[u] t (0, 0)) := by
 unfold World.setCell
 show (w.heap.modify p _)[p]? = _
 rw [Array.getElem?_modify, if_pos rfl, h]
 rfl
theorem Jh.J {w : World} {base p : Nat} {A : Option Addr} {c : Nat} {xs : List Int} (h : Jh w base p A c xs) : Jn w base p A c xs := ⟨h.lo, (jnblk_cell h.blk).1, h.row⟩
set_option maxHeartbeats 8000000 in
set_option maxRecDepth 100000 in
theorem impl_newJoiner.calls (k : Nat) (n : Int) (xs : List Int) (w0 w : World) (hB : Below w0.heap.size w0 w) (h : impl_newJoiner.l0 k n [] 0 = some xs) :
  Calls Try.prog 73 #[.int .i64 n] w fun e w' => ∃ (p : Nat) (A : Option Addr) (c : Nat), e = .returned (.pointer (some ⟨p, 0, none⟩)) ∧ Jn w' w0.heap.size p A c xs ∧ Below w0.heap.size w0 w' ∧ w.heap.size ≤ p := by
 have HB := Az.mk hB
 clear hB
 have H' := Az.mk h
 clear h
 go_enter Try.func73, Try.ntmps73
 go_wp2
 go_loopg [8] k (fun kq v8 w' => ∃ (ys : List Int) (i_1 : Int) (A : Option Addr) (c : Nat), v8 = .int .i64 i_1 ∧ Az (impl_newJoiner.l0 kq n ys i_1 = some xs) ∧ Az (kq ≤ k) ∧ Az (Jh w' w0.heap.size w.heap.size A c ys) ∧ Az (Below w0.heap.size w0 w') ∧ Az (w.heap.size < w'.heap.size))
 case atStart =>
  refine ⟨[], 0, none, 0, rfl, H', ⟨Nat.le_refl _⟩, ⟨⟨?_, ?_, Kd.R_nil _ _ _ _ _⟩⟩, ⟨?_⟩, ⟨?_⟩⟩
  ·exact HB.out.size
  ·exact Array.getElem?_push_size
  ·exact HB.out.alloc HB.out.size _
  exact Nat.lt_of_lt_of_eq (Nat.lt_succ_self _) (Array.size_push _).symm
 clear H' HB
 obtain ⟨ys, i_1, A, c, rfl, HA, HK1, HJ, HB, HL⟩ := hrel
 cases gk with
 | zero => exact absurd HA.out (by simp [impl_newJoiner.l0])
 | succ k1 =>
  have H := HA.out
  clear HA
  simp only [impl_newJoiner.l0] at H
  have hx := (jnblk_cell HJ.out.blk).1
  have hf := (jnblk_cell HJ.out.blk).2
  by_cases b1 : i_1 < n
  rotate_left
  ·rw [if_neg b1] at H
   have b1b : decide (i_1 < n) = false := decide_eq_false b1
   clear b1
   obtain rfl := Option.some.inj H
   go_wp2
   go_ret
   exact ⟨_, rfl, ⟨A, c, HJ.out.J⟩, HB.out, Nat.le_refl _⟩
  rw [if_pos b1] at H
  by_cases b2 : ys.length < 17592186044415
  rotate_left
  ·rw [if_neg b2] at H
   exact absurd H (by simp)
  rw [if_pos b2] at H
  have H' := Az.mk H
  have LM := Az.mk b2
  have b1b := decide_eq_true b1
  clear H b1 b2
  go_wp2_with (first | ((with_reducible refine gate_builtin (b := .append) (xs := #[.tmp 15, .tmp 17]) rfl ?_); at_builtin; refine Kd.R_append (Kd.int .i64) (w0 := w0) w0.heap.size rfl (.tmp 15) (.tmp 17) 24 3 (.int .i64 0) 8 rfl Try.underlying24 info3 rfl (by decide) (by omega) (.slice A ys.length c) ys i_1 [.int .i64 i_1] (fun k => k ≠ w.heap.size) (fun _ => False) rfl rfl ?aP (fun _ hk => hk.elim) ?aF ?aO ?aB ?aS ?aL ?_; (case aP => exact rfl); (case aB => exact (by repeat (first | (with_reducible first | exact HB.out | apply pbN) | exact HB.out))); (case aF => exact (fun k_ hk_ e_ => by subst e_; exact absurd (Nat.lt_of_lt_of_le HL.out hk_) (Nat.lt_irrefl _))); (case aO => exact (by (with_reducible repeat (first | apply Kd.R_alloc | apply Kd.R_drewN | apply Kd.R_drew)); exact HJ.out.row)); (case aS => exact HB.out.size); (case aL => have := LM.out; omega); intro v1 w6 ho hb hg hat; obtain ⟨A2, c2, e2⟩ := Kd.R_slice ho; subst e2; have hk2 := (hg.block w.heap.size HL.out (fun e_ => HJ.out.row.1 w.heap.size e_.symm rfl)).trans HJ.out.blk; have HJ2 := Az.mk ho; have HB2 := Az.mk hb; have HL2 := Az.mk (blk_lt hk2); have HK := Az.mk hk2; have hx2 := (jnblk_cell hk2).1; have hf2 := (jnblk_cell hk2).2; clear ho hb hg hat hk2 hx hf))
  go_roundg k1
  case measure => have := HK1.out; omega
  case rel =>
   refine ⟨ys ++ [i_1], _, A2, c2, rfl, H', ⟨by have := HK1.out; omega⟩, ⟨⟨HJ.out.lo, ?_, ?_⟩⟩, ⟨?_⟩, ⟨?_⟩⟩
   ·rw [List.length_append]
    exact jnblk_set _ HK.out
   ·exact Kd.R_far (p := ⟨w.heap.size, 0, none⟩) HJ2.out (fun k_ hk_ => hk_) _
   ·exact bwS HB2.out HJ.out.lo
   exact Nat.lt_of_lt_of_eq HL2.out (Array.size_modify ..).symm

-- NOT PRINTED: function 78 (impl_joiner_top)

-- NOT PRINTED: function 74 (impl_joiner_join)

-- NOT PRINTED: function 75 (impl_joiner_count)

/-! ### impl_MapParts: function 57 -/
def joiner_count.l0 : Nat → List Int → Int → Int → Option Int
 | 0, _, _, _ => none
 | k + 1, xs, n, i => if i < (xs.length : Int) then (if 0 ≤ i then (if i = rd xs i then joiner_count.l0 k xs (wrap64 (n + 1)) (wrap64 (i + 1)) else joiner_count.l0 k xs n (wrap64 (i + 1))) else none) else some n
theorem joiner_count.mono : ∀ k y0 y1 y2, LeO (joiner_count.l0 k y0 y1 y2) (joiner_count.l0 (k + 1) y0 y1 y2)
 | 0, y0, y1, y2 => fun r h => by simp [joiner_count.l0] at h
 | k + 1, y0, y1, y2 => by
  have ih0 := joiner_count.mono k
  have i0 := fun z0 z1 z2 => MoO.mk (ih0 z0 z1 z2)
  unfold joiner_count.l0
  exact mo_
set_option maxHeartbeats 8000000 in
set_option maxRecDepth 100000 in
theorem joiner_count.calls (k : Nat) (p : Addr) (A : Option Addr) (c : Nat) (xs : List Int) (r : Int) (w : World) (hp : w.cell? p = some (.slice A xs.length c)) (hr : Kd.C (Kd.int .i64) w A xs.length xs) (h : joiner_count.l0 k xs 0 0 = some r) :
  Calls Try.prog 75 #[.pointer (some p)] w fun e w' => e = .returned (.int .i64 r) ∧ Drawn0 w w' := by
 have HR := Az.mk hr
 have H' := Az.mk h
 clear hr h
 go_enter Try.func75, Try.ntmps75
 go_wp2
 go_loopg [3, 11] k (fun kq v3 v11 w' => ∃ n_1 i_1 : Int, v3 = .int .i64 n_1 ∧ v11 = .int .i64 i_1 ∧ Az (joiner_count.l0 kq xs n_1 i_1 = some r) ∧ Az (kq ≤ k) ∧ Drawn0 w w')
 case atStart => exact ⟨0, 0, rfl, rfl, H', ⟨Nat.le_refl _⟩, kd⟩
 clear H'
 obtain ⟨n_1, i_1, rfl, rfl, HA, HK1, ⟨m1, rfl⟩⟩ := hrel
 cases gk with
 | zero => exact absurd HA.out (by simp [joiner_count.l0])
 | succ k1 =>
  have H := HA.out
  clear HA
  simp only [joiner_count.l0] at H
  by_cases b2 : i_1 < (xs.length : Int)
  rotate_left
  ·rw [if_neg b2] at H
   have b2b : decide (i_1 < (xs.length : Int)) = false := decide_eq_false b2
   clear b2
   obtain rfl := Option.some.inj H
   go_wp2
   go_ret
   exact ⟨rfl, kd⟩
  rw [if_pos b2] at H
  by_cases b1 : 0 ≤ i_1
  rotate_left
  ·rw [if_neg b1] at H
   exact absurd H (by simp)
  rw [if_pos b1] at H
  obtain ⟨ad, rfl, hx⟩ := Kd.at_int HR.out i_1 b1 b2
  have b2b := decide_eq_true b2
  replace b1 := eq_true b1
  replace b2 := eq_true b2
  obtain ⟨X, hX⟩ : ∃ j_ : Int, rd xs i_1 = j_ := ⟨_, rfl⟩
  rw [hX] at H hx
  clear hX
  by_cases b3 : i_1 = X
  ·rw [if_pos b3] at H
   have b3b : (i_1 == X) = true := beq_iff_eq.mpr b3
   clear b3
   have H' := Az.mk H
   clear H
   go_wp2
   go_roundg k1
   case measure => have := HK1.out; omega
   case rel => exact ⟨_, _, rfl, rfl, H', ⟨by have := HK1.out; omega⟩, kd⟩
  rw [if_neg b3] at H
  have b3b : (i_1 == X) = false := beq_eq_false_iff_ne.mpr b3
  clear b3
  have H' := Az.mk H
  clear H
  go_wp2
  go_roundg k1
  case measure => have := HK1.out; omega
  case rel => exact ⟨_, _, rfl, rfl, H', ⟨by have := HK1.out; omega⟩, kd⟩
instance joiner_count.mi {y0 y1 y2 k} : MoO (joiner_count.l0 k y0 y1 y2) (joiner_count.l0 (k + 1) y0 y1 y2) := ⟨joiner_count.mono _ _ _ _⟩
def impl_MapParts.l0 : Nat → List Int → List Int → Int → Option Int
 | 0, _, _, _ => none
 | k + 1, m, xs, i => if i < (m.length : Int) then (if 0 ≤ i then ((joiner_join.f k xs i (rd m i)).bind fun ys => ((joiner_join.f k ys i (Go.bits .xor .i64 i 1)).bind fun zs => (impl_MapParts.l0 k m zs (wrap64 (i + 1))))) else none) else (joiner_count.l0 k xs 0 0)
def impl_MapParts.f (k : Nat) (m : List Int) : Option Int := (impl_IsMap.f k m).bind fun b => (if b = true then ((impl_newJoiner.l0 k (m.length : Int) [] 0).bind fun xs => impl_MapParts.l0 k m xs 0) else some (-1))
theorem impl_MapParts.mono_l : ∀ k y0 y1 y2, LeO (impl_MapParts.l0 k y0 y1 y2) (impl_MapParts.l0 (k + 1) y0 y1 y2)
 | 0, y0, y1, y2 => fun r h => by simp [impl_MapParts.l0] at h
 | k + 1, y0, y1, y2 => by
  have ih0 := impl_MapParts.mono_l k
  have i0 := fun z0 z1 z2 => MoO.mk (ih0 z0 z1 z2)
  unfold impl_MapParts.l0
  exact mo_
theorem impl_MapParts.mono : ∀ a0 k, LeO (impl_MapParts.f k a0) (impl_MapParts.f (k + 1) a0) := by
 intro a0 k
 unfold impl_MapParts.f
 refine LeO.bind (impl_IsMap.mono _ _) (fun _ => LeO.ite (LeO.bind (impl_newJoiner.mono _ _ _ _) (fun _ => impl_MapParts.mono_l _ _ _ _)) (LeO.refl _))
instance impl_MapParts.mi {a0 k} : MoO (impl_MapParts.f k a0) (impl_MapParts.f (k + 1) a0) := ⟨impl_MapParts.mono _ _⟩
set_option maxHeartbeats 8000000 in
set_option maxRecDepth 100000 in
theorem impl_MapParts.calls (k : Nat) (A0 : Option Addr) (c0 : Nat) (l0 : List Int) (r : Int) (w : World) (hr0 : Kd.C (Kd.int .i64) w A0 l0.length l0) (hc0 : l0.length ≤ c0) (h : impl_MapParts.f k l0 = some r) :
  Calls Try.prog 57 #[.slice A0 l0.length c0] w fun e w' => e = .returned (.int .i64 r) ∧ Below w.heap.size w w' := by
 have HR0 := Az.mk hr0
 have HC0 := Az.mk hc0
 clear hr0 hc0
 unfold impl_MapParts.f at h
 obtain ⟨b, T0, h⟩ := be.mp h
 have T0 := Az.mk T0
 have HB := Az.mk (Below.refl w.heap.size w)
 by_cases p1 : b = true
 rotate_left
 ·rw [if_neg p1] at h
  replace p1 := Bool.eq_false_iff.mpr p1
  subst p1
  obtain rfl := Option.some.inj h
  go_enter Try.func57, Try.ntmps57
  go_wp2_with (first
   | (go_at_call 56; refine (impl_IsMap.calls k _ c0 l0 false _ (by first | exact Kd.C_drewN HR0.out _ | exact HR0.out) HC0.out T0.out).mono ?_; rintro e W0 ⟨rfl, hb⟩; have HB0 := Az.mk (bwT (by first | exact HB.out | exact pbN HB.out _) hb); clear hb T0))
  go_ret
  exact ⟨rfl, by first | exact HB0.out | exact pbN HB0.out _⟩
 rw [if_pos p1] at h
 subst p1
 obtain ⟨ns, T1, h⟩ := be.mp h
 have T1 := Az.mk T1
 have H' := Az.mk h
 clear h
 go_enter Try.func57, Try.ntmps57
 go_wp2_with (first
  | (go_at_call 56; refine (impl_IsMap.calls k _ c0 l0 true _ (by first | exact Kd.C_drewN HR0.out _ | exact HR0.out) HC0.out T0.out).mono ?_; rintro e W0 ⟨rfl, hb⟩; have HB0 := Az.mk (bwT (by first | exact HB.out | exact pbN HB.out _) hb); clear hb T0)
  | (go_at_call 73; refine (impl_newJoiner.calls k _ ns w _ (by first | exact pbN HB0.out _ | exact HB0.out) T1.out).mono ?_; rintro e W1 ⟨p, AJ, cJ, rfl, hj, hb, _⟩; have HJ1 := Az.mk hj; have HB1 := Az.mk hb; clear hj hb T1))
 go_loopg [14] k (fun kq v16 w' => ∃ (xs_1 : List Int) (i_1 : Int), v16 = .int .i64 i_1 ∧ Az (impl_MapParts.l0 kq l0 xs_1 i_1 = some r) ∧ Az (kq ≤ k) ∧ Az (Jn w' w.heap.size p AJ cJ xs_1) ∧ Az (Below w.heap.size w w'))
 case atStart => exact ⟨ns, 0, rfl, H', ⟨Nat.le_refl _⟩, HJ1, HB1⟩
 clear H' HB HB0 HJ1 HB1
 obtain ⟨xs_1, i_1, rfl, HA, HK1, HJ, HB⟩ := hrel
 cases gk with
 | zero => exact absurd HA.out (by simp [impl_MapParts.l0])
 | succ k1 =>
  have H := HA.out
  clear HA
  simp only [impl_MapParts.l0] at H
  by_cases b2 : i_1 < (l0.length : Int)
  rotate_left
  ·rw [if_neg b2] at H
   have b2b : decide (i_1 < (l0.length : Int)) = false := decide_eq_false b2
   clear b2
   have H' := Az.mk H
   clear H
   go_wp2_with (first
    | (go_at_call 75; refine (joiner_count.calls k1 ⟨p, 0, none⟩ AJ cJ xs_1 r _ (by first | exact (HJ.out.drewN _).cell | exact HJ.out.cell) (by first | exact (HJ.out.drewN _).C | exact HJ.out.C) H'.out).mono ?_; rintro e w' ⟨rfl, ⟨nd1, rfl⟩⟩; clear H'))
   go_ret
   exact ⟨rfl, by first | exact HB.out | exact pbN HB.out _ | exact pbN (pbN HB.out _) _⟩
  rw [if_pos b2] at H
  by_cases b1 : 0 ≤ i_1
  rotate_left
  ·rw [if_neg b1] at H
   exact absurd H (by simp)
  rw [if_pos b1] at H
  replace H := be.mp H
  obtain ⟨ys, T2, H⟩ := H
  replace H := be.mp H
  obtain ⟨zs, T3, H⟩ := H
  obtain ⟨ad2, e2, hx2⟩ := Kd.at_int HR0.out i_1 b1 b2
  subst e2
  replace hx2 := kc HB hx2
  obtain ⟨X, hX⟩ : ∃ j_ : Int, rd l0 i_1 = j_ := ⟨_, rfl⟩
  rw [hX] at T2 hx2
  clear hX
  have T2 := Az.mk T2
  have T3 := Az.mk T3
  have H' := Az.mk H
  clear H
  have b2b := decide_eq_true b2
  replace b1 := eq_true b1
  replace b2 := eq_true b2
  go_wp2_with (first
   | (go_at_call 74; refine (joiner_join.calls k1 p AJ cJ xs_1 ys _ _ w _ (by first | exact pbN HB.out _ | exact HB.out) (by first | exact HJ.out.drewN _ | exact HJ.out) T2.out).mono ?_; rintro e W2 ⟨rfl, hj, hb⟩; clear T2 HB HJ; have HJ2 := Az.mk hj; have HB2 := Az.mk hb; clear hj hb)
   | (go_at_call 74; refine (joiner_join.calls k1 p AJ cJ ys zs _ _ w _ (by first | exact pbN HB2.out _ | exact HB2.out) (by first | exact HJ2.out.drewN _ | exact HJ2.out) T3.out).mono ?_; rintro e W3 ⟨rfl, hj, hb⟩; clear T3 HB2 HJ2; have HJ3 := Az.mk hj; have HB3 := Az.mk hb; clear hj hb))
  go_roundg k1
  case measure => have := HK1.out; omega
  case rel => exact ⟨zs, _, rfl, H', ⟨by have := HK1.out; omega⟩, HJ3, HB3⟩

end Go.Proofs.Ytkmjcdlhlhefdaa.P

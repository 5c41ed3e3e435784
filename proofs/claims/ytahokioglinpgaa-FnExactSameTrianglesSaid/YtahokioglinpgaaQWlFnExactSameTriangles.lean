-- By this session's lawgen.py: the walk of a law in a straight line. Not trusted: Lean checks it.
import Derived.Test.YtahokioglinpgaaQPx1
import Derived.Test.YtahokioglinpgaaQPx3
import Derived.Test.YtahokioglinpgaaQPx5
import Derived.Test.YtahokioglinpgaaQPx11
import Derived.Test.YtahokioglinpgaaQPx12
namespace Go.Proofs.Ytahokioglinpgaa.P
open Go.RowKit Go.Proofs.YtahokioglinpgaaW.PrintWords Go.Proofs.YtahokioglinpgaaW.PrintLast Go.Proofs.YtahokioglinpgaaW.PrintMore
set_option linter.unusedVariables false
/-- Blocks from lo on, below hi. -/
def Iv (lo hi : Nat) (k : Nat) : Prop := lo ≤ k ∧ k < hi
section
variable {α : Type} {d : Kd α} {e : Nat} {w Wp W : World} {ok : Nat → Prop} {v : Value} {xs : List α} {a b c f : Nat}
theorem S_iv (h : Kd.S d e W Wp.heap.size ok v xs) (hb : w.heap.size ≤ Wp.heap.size) : Kd.S d e W w.heap.size (Iv Wp.heap.size W.heap.size) v xs := Kd.S_lower (Kd.S_mono (Kd.S_bound h) (fun _ hk => ⟨hk.2.1, hk.2.2.1⟩)) hb
theorem R_iv (h : Kd.R d e W Wp.heap.size ok v xs) (hb : w.heap.size ≤ Wp.heap.size) : Kd.R d e W w.heap.size (Iv Wp.heap.size W.heap.size) v xs := Kd.R_lower (Kd.R_mono (Kd.R_bound h) (fun _ hk => ⟨hk.2.1, hk.2.2.1⟩)) hb
theorem S_off (h : Kd.S d e Wp w.heap.size (Iv a b) v xs) (hk : Kept Wp W (Iv c f)) (hd : b ≤ c ∨ f ≤ a) : Kd.S d e W w.heap.size (Iv a b) v xs := Kd.S_step h (fun k ho hlt => hk.2 k hlt (fun hc => by have h1 := ho.1; have h2 := ho.2; have h3 := hc.1; have h4 := hc.2; omega))
theorem R_off (h : Kd.R d e Wp w.heap.size (Iv a b) v xs) (hk : Kept Wp W (Iv c f)) (hd : b ≤ c ∨ f ≤ a) : Kd.R d e W w.heap.size (Iv a b) v xs := Kd.R_step h (fun k ho hlt => hk.2 k hlt (fun hc => by have h1 := ho.1; have h2 := ho.2; have h3 := hc.1; have h4 := hc.2; omega))
def Iw (lo hi : Nat) (u : Value) (k : Nat) : Prop := Iv lo hi k ∧ some k ≠ u.ownBlock
def Iz (lo hi : Nat) (u : Value) (k : Nat) : Prop := Iv lo hi k ∧ some k = u.ownBlock
theorem S_iw {u : Value} (h : Kd.S d e W Wp.heap.size (fun k_ => some k_ ≠ u.ownBlock) v xs) (hb : w.heap.size ≤ Wp.heap.size) : Kd.S d e W w.heap.size (Iw Wp.heap.size W.heap.size u) v xs := Kd.S_lower (Kd.S_mono (Kd.S_bound h) (fun _ hk => ⟨⟨hk.2.1, hk.2.2.1⟩, hk.1⟩)) hb
theorem R_iz {ys : List Int} (h : Kd.R (Kd.int .i64) e W Wp.heap.size ok v ys) (hb : w.heap.size ≤ Wp.heap.size) : Kd.R (Kd.int .i64) e W w.heap.size (Iz Wp.heap.size W.heap.size v) v ys := Kd.R_reok rfl (R_iv (w := w) h hb) (fun k_ e_ => ⟨(R_iv (w := w) h hb).1 k_ e_, e_.symm⟩)
theorem S_offP {P Q : Nat → Prop} (h : Kd.S d e Wp w.heap.size P v xs) (hk : Kept Wp W Q) (hd : ∀ k, P k → Q k → False) : Kd.S d e W w.heap.size P v xs := Kd.S_step h (fun k ho hlt => hk.2 k hlt (fun hc => hd k ho hc))
theorem R_offP {P Q : Nat → Prop} (h : Kd.R d e Wp w.heap.size P v xs) (hk : Kept Wp W Q) (hd : ∀ k, P k → Q k → False) : Kd.R d e W w.heap.size P v xs := Kd.R_step h (fun k ho hlt => hk.2 k hlt (fun hc => hd k ho hc))
end
theorem calls_len {P : Program} {fn : FuncId} {A : Option Addr} {c n m : Nat} {x : Value} {w : World} {Q : Ending → World → Prop} (h : n = m) (hc : Calls P fn #[.slice A m c, x] w Q) : Calls P fn #[.slice A n c, x] w Q := by
  subst h
  exact hc

def laws_FnExactSameTriangles.f (k : Nat) (l0 : List (List Int)) (l1 : List (List Int)) : Option Bool := (laws_szIntSS.f k (l0) 1048576).bind fun r2 => (if r2 < 0 then some true else ((laws_szIntSS.f k (l1) r2).bind fun r4 => (if r4 < 0 then some true else ((laws_toIntSS.f k (l0)).bind fun r7 => ((laws_toIntSS.f k (l1)).bind fun r10 => ((spec_SameTriangles.f k (r7) (r10)).bind fun r12 => ((laws_toIntSS.f k (l0)).bind fun r14 => ((laws_toIntSS.f k (l1)).bind fun r16 => ((impl_SameTriangles.f k (r14) (r16)).bind fun r18 => (if r18 = r12 then ((laws_toIntSS.f k (l0)).bind fun r21 => ((laws_eqIntSS.f k (r14) (r21)).bind fun r24 => (if r24 = true then ((laws_toIntSS.f k (l1)).bind fun r27 => ((laws_eqIntSS.f k (r16) (r27)).bind fun r30 => (if r30 = true then (some true) else none))) else none))) else none))))))))))
set_option maxHeartbeats 8000000 in
set_option maxRecDepth 100000 in
theorem laws_FnExactSameTriangles.calls (k : Nat) (A0 : Option Addr) (c0 : Nat) (l0 : List (List Int)) (A1 : Option Addr) (c1 : Nat) (l1 : List (List Int)) (r : Bool) (w : World) (hr0 : Kd.C (Kd.slice 3 (Kd.int .i64)) w A0 l0.length l0) (hc0 : l0.length ≤ c0) (hr1 : Kd.C (Kd.slice 3 (Kd.int .i64)) w A1 l1.length l1) (hc1 : l1.length ≤ c1) (h : laws_FnExactSameTriangles.f k l0 l1 = some r) :
    Calls Try.prog 4 #[.slice A0 l0.length c0, .slice A1 l1.length c1] w fun e w' => e = .returned (.bool r) ∧ Below w.heap.size w w' := by
  have HR0 := Az.mk hr0
  have HC0 := Az.mk hc0
  clear hr0 hc0
  have HR1 := Az.mk hr1
  have HC1 := Az.mk hc1
  clear hr1 hc1
  have HB_w := Az.mk (Below.refl w.heap.size w)
  have H := h
  clear h
  unfold laws_FnExactSameTriangles.f at H
  replace H := Option.bind_eq_some_iff.mp H
  obtain ⟨r2, T1_, H⟩ := H
  have T1 := Az.mk T1_
  clear T1_
  try dsimp only at H
  by_cases c31 : r2 < 0
  · rw [if_pos c31] at H
    have c31b := decide_eq_true c31
    clear c31
    obtain rfl := Option.some.inj H
    go_enter Try.func4, Try.ntmps4
    go_wp2_with (first | ((with_reducible refine gtC (f := 6) rfl ?_); refine goesL_ (some 12) rfl rfl Try.func6 (by kernel_rfl) rfl #[.slice A0 l0.length c0, .int .i64 1048576] rfl (by (try simp only [List.map_toArray, List.map_cons, List.map_nil]); first | done | rfl) ?_; refine (laws_szIntSS.calls k A0 c0 (l0) 1048576 r2 w (Kd.C_below HR0.out HB_w.out) HC0.out T1.out).mono ?_; rintro e W1 ⟨rfl, hd⟩; refine ⟨_, rfl, ?_⟩; have hb := Drawn0.below hd; clear hd; have HB_W1 := Az.mk (bwT HB_w.out hb); have HS_W1 := Az.mk (show w.heap.size ≤ W1.heap.size from hb.size); clear hb))
    go_ret
    exact ⟨rfl, HB_W1.out⟩
  · rw [if_neg c31] at H
    have c31b := decide_eq_false c31
    clear c31
    replace H := Option.bind_eq_some_iff.mp H
    obtain ⟨r4, T3_, H⟩ := H
    have T3 := Az.mk T3_
    clear T3_
    try dsimp only at H
    by_cases c32 : r4 < 0
    · rw [if_pos c32] at H
      have c32b := decide_eq_true c32
      clear c32
      obtain rfl := Option.some.inj H
      go_enter Try.func4, Try.ntmps4
      go_wp2_with (first | ((with_reducible refine gtC (f := 6) rfl ?_); refine goesL_ (some 12) rfl rfl Try.func6 (by kernel_rfl) rfl #[.slice A0 l0.length c0, .int .i64 1048576] rfl (by (try simp only [List.map_toArray, List.map_cons, List.map_nil]); first | done | rfl) ?_; refine (laws_szIntSS.calls k A0 c0 (l0) 1048576 r2 w (Kd.C_below HR0.out HB_w.out) HC0.out T1.out).mono ?_; rintro e W1 ⟨rfl, hd⟩; refine ⟨_, rfl, ?_⟩; have hb := Drawn0.below hd; clear hd; have HB_W1 := Az.mk (bwT HB_w.out hb); have HS_W1 := Az.mk (show w.heap.size ≤ W1.heap.size from hb.size); clear hb) | ((with_reducible refine gtC (f := 6) rfl ?_); refine goesL_ (some 17) rfl rfl Try.func6 (by kernel_rfl) rfl #[.slice A1 l1.length c1, .int .i64 r2] rfl (by (try simp only [List.map_toArray, List.map_cons, List.map_nil]); first | done | rfl) ?_; refine (laws_szIntSS.calls k A1 c1 (l1) r2 r4 W1 (Kd.C_below HR1.out HB_W1.out) HC1.out T3.out).mono ?_; rintro e W2 ⟨rfl, hd⟩; refine ⟨_, rfl, ?_⟩; have hb := Drawn0.below hd; clear hd; have HB_W2 := Az.mk (bwT HB_W1.out hb); have HS_W2 := Az.mk (show W1.heap.size ≤ W2.heap.size from hb.size); clear HB_W1; clear hb))
      go_ret
      exact ⟨rfl, HB_W2.out⟩
    · rw [if_neg c32] at H
      have c32b := decide_eq_false c32
      clear c32
      replace H := Option.bind_eq_some_iff.mp H
      obtain ⟨r7, T6_, H⟩ := H
      have T6 := Az.mk T6_
      clear T6_
      try dsimp only at H
      replace H := Option.bind_eq_some_iff.mp H
      obtain ⟨r10, T9_, H⟩ := H
      have T9 := Az.mk T9_
      clear T9_
      try dsimp only at H
      replace H := Option.bind_eq_some_iff.mp H
      obtain ⟨r12, T11_, H⟩ := H
      have T11 := Az.mk T11_
      clear T11_
      try dsimp only at H
      replace H := Option.bind_eq_some_iff.mp H
      obtain ⟨r14, T13_, H⟩ := H
      have T13 := Az.mk T13_
      clear T13_
      try dsimp only at H
      replace H := Option.bind_eq_some_iff.mp H
      obtain ⟨r16, T15_, H⟩ := H
      have T15 := Az.mk T15_
      clear T15_
      try dsimp only at H
      replace H := Option.bind_eq_some_iff.mp H
      obtain ⟨r18, T17_, H⟩ := H
      have T17 := Az.mk T17_
      clear T17_
      try dsimp only at H
      by_cases c33 : r18 = r12
      · rw [if_pos c33] at H
        subst c33
        replace H := Option.bind_eq_some_iff.mp H
        obtain ⟨r21, T20_, H⟩ := H
        have T20 := Az.mk T20_
        clear T20_
        try dsimp only at H
        replace H := Option.bind_eq_some_iff.mp H
        obtain ⟨r24, T23_, H⟩ := H
        have T23 := Az.mk T23_
        clear T23_
        try dsimp only at H
        by_cases c34 : r24 = true
        · rw [if_pos c34] at H
          subst c34
          replace H := Option.bind_eq_some_iff.mp H
          obtain ⟨r27, T26_, H⟩ := H
          have T26 := Az.mk T26_
          clear T26_
          try dsimp only at H
          replace H := Option.bind_eq_some_iff.mp H
          obtain ⟨r30, T29_, H⟩ := H
          have T29 := Az.mk T29_
          clear T29_
          try dsimp only at H
          by_cases c35 : r30 = true
          · rw [if_pos c35] at H
            subst c35
            obtain rfl := Option.some.inj H
            go_enter Try.func4, Try.ntmps4
            go_wp2_with (first | ((with_reducible refine gtC (f := 6) rfl ?_); refine goesL_ (some 12) rfl rfl Try.func6 (by kernel_rfl) rfl #[.slice A0 l0.length c0, .int .i64 1048576] rfl (by (try simp only [List.map_toArray, List.map_cons, List.map_nil]); first | done | rfl) ?_; refine (laws_szIntSS.calls k A0 c0 (l0) 1048576 r2 w (Kd.C_below HR0.out HB_w.out) HC0.out T1.out).mono ?_; rintro e W1 ⟨rfl, hd⟩; refine ⟨_, rfl, ?_⟩; have hb := Drawn0.below hd; clear hd; have HB_W1 := Az.mk (bwT HB_w.out hb); have HS_W1 := Az.mk (show w.heap.size ≤ W1.heap.size from hb.size); clear hb) | ((with_reducible refine gtC (f := 6) rfl ?_); refine goesL_ (some 17) rfl rfl Try.func6 (by kernel_rfl) rfl #[.slice A1 l1.length c1, .int .i64 r2] rfl (by (try simp only [List.map_toArray, List.map_cons, List.map_nil]); first | done | rfl) ?_; refine (laws_szIntSS.calls k A1 c1 (l1) r2 r4 W1 (Kd.C_below HR1.out HB_W1.out) HC1.out T3.out).mono ?_; rintro e W2 ⟨rfl, hd⟩; refine ⟨_, rfl, ?_⟩; have hb := Drawn0.below hd; clear hd; have HB_W2 := Az.mk (bwT HB_W1.out hb); have HS_W2 := Az.mk (show W1.heap.size ≤ W2.heap.size from hb.size); clear HB_W1; clear hb) | ((with_reducible refine gtC (f := 8) rfl ?_); refine goesL_ (some 21) rfl rfl Try.func8 (by kernel_rfl) rfl #[.slice A0 l0.length c0] rfl (by (try simp only [List.map_toArray, List.map_cons, List.map_nil]); first | done | rfl) ?_; refine (laws_toIntSS.calls k A0 c0 (l0) r7 W2 (Kd.C_below HR0.out HB_W2.out) HC0.out T6.out).mono ?_; rintro e W3 ⟨v21_0, rfl, ho0, hb⟩; refine ⟨_, rfl, ?_⟩; have HO21_0 := Az.mk (S_iv (w := w) ho0 HB_W2.out.size); have HB_W3 := Az.mk (bwT HB_W2.out hb); have HS_W3 := Az.mk (show W2.heap.size ≤ W3.heap.size from hb.size); clear HB_W2; clear hb; clear ho0; obtain ⟨A21_0, c21_0, e_v21_0⟩ := Kd.S_slice HO21_0.out; subst e_v21_0) | ((with_reducible refine gtC (f := 8) rfl ?_); refine goesL_ (some 23) rfl rfl Try.func8 (by kernel_rfl) rfl #[.slice A1 l1.length c1] rfl (by (try simp only [List.map_toArray, List.map_cons, List.map_nil]); first | done | rfl) ?_; refine (laws_toIntSS.calls k A1 c1 (l1) r10 W3 (Kd.C_below HR1.out HB_W3.out) HC1.out T9.out).mono ?_; rintro e W4 ⟨v23_0, rfl, ho0, hb⟩; refine ⟨_, rfl, ?_⟩; have HO23_0 := Az.mk (S_iv (w := w) ho0 HB_W3.out.size); have HB_W4 := Az.mk (bwT HB_W3.out hb); have HS_W4 := Az.mk (show W3.heap.size ≤ W4.heap.size from hb.size); have HO21_0_ := Az.mk (Kd.S_below HO21_0.out hb); clear HO21_0; have HO21_0 := HO21_0_; clear HO21_0_; clear HB_W3; clear hb; clear ho0; obtain ⟨A23_0, c23_0, e_v23_0⟩ := Kd.S_slice HO23_0.out; subst e_v23_0) | ((with_reducible refine gtC (f := 13) rfl ?_); refine goesL_ (some 24) rfl rfl Try.func13 (by kernel_rfl) rfl #[.slice A21_0 r7.length c21_0, .slice A23_0 r10.length c23_0] rfl (by (try simp only [List.map_toArray, List.map_cons, List.map_nil]); first | done | rfl) ?_; refine (spec_SameTriangles.calls k A21_0 c21_0 (r7) A23_0 c23_0 (r10) r18 W4 (Kd.S_reads' HO21_0.out).2.2 (Nat.le_trans (Nat.le_of_eq (Kd.S_reads' HO21_0.out).1.symm) (Kd.S_reads' HO21_0.out).2.1) (Kd.S_reads' HO23_0.out).2.2 (Nat.le_trans (Nat.le_of_eq (Kd.S_reads' HO23_0.out).1.symm) (Kd.S_reads' HO23_0.out).2.1) T11.out).mono ?_; rintro e W5 ⟨rfl, hb⟩; refine ⟨_, rfl, ?_⟩; have HB_W5 := Az.mk (bwT HB_W4.out hb); have HS_W5 := Az.mk (show W4.heap.size ≤ W5.heap.size from hb.size); have HO21_0_ := Az.mk (Kd.S_below HO21_0.out hb); have HO23_0_ := Az.mk (Kd.S_below HO23_0.out hb); clear HO21_0; have HO21_0 := HO21_0_; clear HO21_0_; clear HO23_0; have HO23_0 := HO23_0_; clear HO23_0_; clear HB_W4; clear hb) | ((with_reducible refine gtC (f := 8) rfl ?_); refine goesL_ (some 26) rfl rfl Try.func8 (by kernel_rfl) rfl #[.slice A0 l0.length c0] rfl (by (try simp only [List.map_toArray, List.map_cons, List.map_nil]); first | done | rfl) ?_; refine (laws_toIntSS.calls k A0 c0 (l0) r14 W5 (Kd.C_below HR0.out HB_W5.out) HC0.out T13.out).mono ?_; rintro e W6 ⟨v26_0, rfl, ho0, hb⟩; refine ⟨_, rfl, ?_⟩; have HO26_0 := Az.mk (S_iv (w := w) ho0 HB_W5.out.size); have HB_W6 := Az.mk (bwT HB_W5.out hb); have HS_W6 := Az.mk (show W5.heap.size ≤ W6.heap.size from hb.size); have HO21_0_ := Az.mk (Kd.S_below HO21_0.out hb); have HO23_0_ := Az.mk (Kd.S_below HO23_0.out hb); clear HO21_0; have HO21_0 := HO21_0_; clear HO21_0_; clear HO23_0; have HO23_0 := HO23_0_; clear HO23_0_; clear HB_W5; clear hb; clear ho0; obtain ⟨A26_0, c26_0, e_v26_0⟩ := Kd.S_slice HO26_0.out; subst e_v26_0) | ((with_reducible refine gtC (f := 8) rfl ?_); refine goesL_ (some 28) rfl rfl Try.func8 (by kernel_rfl) rfl #[.slice A1 l1.length c1] rfl (by (try simp only [List.map_toArray, List.map_cons, List.map_nil]); first | done | rfl) ?_; refine (laws_toIntSS.calls k A1 c1 (l1) r16 W6 (Kd.C_below HR1.out HB_W6.out) HC1.out T15.out).mono ?_; rintro e W7 ⟨v28_0, rfl, ho0, hb⟩; refine ⟨_, rfl, ?_⟩; have HO28_0 := Az.mk (S_iv (w := w) ho0 HB_W6.out.size); have HB_W7 := Az.mk (bwT HB_W6.out hb); have HS_W7 := Az.mk (show W6.heap.size ≤ W7.heap.size from hb.size); have HO21_0_ := Az.mk (Kd.S_below HO21_0.out hb); have HO23_0_ := Az.mk (Kd.S_below HO23_0.out hb); have HO26_0_ := Az.mk (Kd.S_below HO26_0.out hb); clear HO21_0; have HO21_0 := HO21_0_; clear HO21_0_; clear HO23_0; have HO23_0 := HO23_0_; clear HO23_0_; clear HO26_0; have HO26_0 := HO26_0_; clear HO26_0_; clear HB_W6; clear hb; clear ho0; obtain ⟨A28_0, c28_0, e_v28_0⟩ := Kd.S_slice HO28_0.out; subst e_v28_0) | ((with_reducible refine gtC (f := 14) rfl ?_); refine goesL_ (some 31) rfl rfl Try.func14 (by kernel_rfl) rfl #[.slice A26_0 r14.length c26_0, .slice A28_0 r16.length c28_0] rfl (by (try simp only [List.map_toArray, List.map_cons, List.map_nil]); first | done | rfl) ?_; refine (impl_SameTriangles.calls k A26_0 c26_0 (r14) A28_0 c28_0 (r16) r18 W7 (Kd.S_reads' HO26_0.out).2.2 (Nat.le_trans (Nat.le_of_eq (Kd.S_reads' HO26_0.out).1.symm) (Kd.S_reads' HO26_0.out).2.1) (Kd.S_reads' HO28_0.out).2.2 (Nat.le_trans (Nat.le_of_eq (Kd.S_reads' HO28_0.out).1.symm) (Kd.S_reads' HO28_0.out).2.1) T17.out).mono ?_; rintro e W8 ⟨rfl, hb⟩; refine ⟨_, rfl, ?_⟩; have HB_W8 := Az.mk (bwT HB_W7.out hb); have HS_W8 := Az.mk (show W7.heap.size ≤ W8.heap.size from hb.size); have HO21_0_ := Az.mk (Kd.S_below HO21_0.out hb); have HO23_0_ := Az.mk (Kd.S_below HO23_0.out hb); have HO26_0_ := Az.mk (Kd.S_below HO26_0.out hb); have HO28_0_ := Az.mk (Kd.S_below HO28_0.out hb); clear HO21_0; have HO21_0 := HO21_0_; clear HO21_0_; clear HO23_0; have HO23_0 := HO23_0_; clear HO23_0_; clear HO26_0; have HO26_0 := HO26_0_; clear HO26_0_; clear HO28_0; have HO28_0 := HO28_0_; clear HO28_0_; clear HB_W7; clear hb) | ((with_reducible refine gtC (f := 8) rfl ?_); refine goesL_ (some 37) rfl rfl Try.func8 (by kernel_rfl) rfl #[.slice A0 l0.length c0] rfl (by (try simp only [List.map_toArray, List.map_cons, List.map_nil]); first | done | rfl) ?_; refine (laws_toIntSS.calls k A0 c0 (l0) r21 W8 (Kd.C_below HR0.out HB_W8.out) HC0.out T20.out).mono ?_; rintro e W9 ⟨v37_0, rfl, ho0, hb⟩; refine ⟨_, rfl, ?_⟩; have HO37_0 := Az.mk (S_iv (w := w) ho0 HB_W8.out.size); have HB_W9 := Az.mk (bwT HB_W8.out hb); have HS_W9 := Az.mk (show W8.heap.size ≤ W9.heap.size from hb.size); have HO21_0_ := Az.mk (Kd.S_below HO21_0.out hb); have HO23_0_ := Az.mk (Kd.S_below HO23_0.out hb); have HO26_0_ := Az.mk (Kd.S_below HO26_0.out hb); have HO28_0_ := Az.mk (Kd.S_below HO28_0.out hb); clear HO21_0; have HO21_0 := HO21_0_; clear HO21_0_; clear HO23_0; have HO23_0 := HO23_0_; clear HO23_0_; clear HO26_0; have HO26_0 := HO26_0_; clear HO26_0_; clear HO28_0; have HO28_0 := HO28_0_; clear HO28_0_; clear HB_W8; clear hb; clear ho0; obtain ⟨A37_0, c37_0, e_v37_0⟩ := Kd.S_slice HO37_0.out; subst e_v37_0) | ((with_reducible refine gtC (f := 10) rfl ?_); refine goesL_ (some 38) rfl rfl Try.func10 (by kernel_rfl) rfl #[.slice A26_0 r14.length c26_0, .slice A37_0 r21.length c37_0] rfl (by (try simp only [List.map_toArray, List.map_cons, List.map_nil]); first | done | rfl) ?_; refine (laws_eqIntSS.calls k A26_0 c26_0 (r14) A37_0 c37_0 (r21) true W9 (Kd.S_reads' HO26_0.out).2.2 (Nat.le_trans (Nat.le_of_eq (Kd.S_reads' HO26_0.out).1.symm) (Kd.S_reads' HO26_0.out).2.1) (Kd.S_reads' HO37_0.out).2.2 (Nat.le_trans (Nat.le_of_eq (Kd.S_reads' HO37_0.out).1.symm) (Kd.S_reads' HO37_0.out).2.1) T23.out).mono ?_; rintro e W10 ⟨rfl, hd⟩; refine ⟨_, rfl, ?_⟩; have hb := Drawn0.below hd; clear hd; have HB_W10 := Az.mk (bwT HB_W9.out hb); have HS_W10 := Az.mk (show W9.heap.size ≤ W10.heap.size from hb.size); have HO21_0_ := Az.mk (Kd.S_below HO21_0.out hb); have HO23_0_ := Az.mk (Kd.S_below HO23_0.out hb); have HO26_0_ := Az.mk (Kd.S_below HO26_0.out hb); have HO28_0_ := Az.mk (Kd.S_below HO28_0.out hb); have HO37_0_ := Az.mk (Kd.S_below HO37_0.out hb); clear HO21_0; have HO21_0 := HO21_0_; clear HO21_0_; clear HO23_0; have HO23_0 := HO23_0_; clear HO23_0_; clear HO26_0; have HO26_0 := HO26_0_; clear HO26_0_; clear HO28_0; have HO28_0 := HO28_0_; clear HO28_0_; clear HO37_0; have HO37_0 := HO37_0_; clear HO37_0_; clear HB_W9; clear hb) | ((with_reducible refine gtC (f := 8) rfl ?_); refine goesL_ (some 42) rfl rfl Try.func8 (by kernel_rfl) rfl #[.slice A1 l1.length c1] rfl (by (try simp only [List.map_toArray, List.map_cons, List.map_nil]); first | done | rfl) ?_; refine (laws_toIntSS.calls k A1 c1 (l1) r27 W10 (Kd.C_below HR1.out HB_W10.out) HC1.out T26.out).mono ?_; rintro e W11 ⟨v42_0, rfl, ho0, hb⟩; refine ⟨_, rfl, ?_⟩; have HO42_0 := Az.mk (S_iv (w := w) ho0 HB_W10.out.size); have HB_W11 := Az.mk (bwT HB_W10.out hb); have HS_W11 := Az.mk (show W10.heap.size ≤ W11.heap.size from hb.size); have HO21_0_ := Az.mk (Kd.S_below HO21_0.out hb); have HO23_0_ := Az.mk (Kd.S_below HO23_0.out hb); have HO26_0_ := Az.mk (Kd.S_below HO26_0.out hb); have HO28_0_ := Az.mk (Kd.S_below HO28_0.out hb); have HO37_0_ := Az.mk (Kd.S_below HO37_0.out hb); clear HO21_0; have HO21_0 := HO21_0_; clear HO21_0_; clear HO23_0; have HO23_0 := HO23_0_; clear HO23_0_; clear HO26_0; have HO26_0 := HO26_0_; clear HO26_0_; clear HO28_0; have HO28_0 := HO28_0_; clear HO28_0_; clear HO37_0; have HO37_0 := HO37_0_; clear HO37_0_; clear HB_W10; clear hb; clear ho0; obtain ⟨A42_0, c42_0, e_v42_0⟩ := Kd.S_slice HO42_0.out; subst e_v42_0) | ((with_reducible refine gtC (f := 10) rfl ?_); refine goesL_ (some 43) rfl rfl Try.func10 (by kernel_rfl) rfl #[.slice A28_0 r16.length c28_0, .slice A42_0 r27.length c42_0] rfl (by (try simp only [List.map_toArray, List.map_cons, List.map_nil]); first | done | rfl) ?_; refine (laws_eqIntSS.calls k A28_0 c28_0 (r16) A42_0 c42_0 (r27) true W11 (Kd.S_reads' HO28_0.out).2.2 (Nat.le_trans (Nat.le_of_eq (Kd.S_reads' HO28_0.out).1.symm) (Kd.S_reads' HO28_0.out).2.1) (Kd.S_reads' HO42_0.out).2.2 (Nat.le_trans (Nat.le_of_eq (Kd.S_reads' HO42_0.out).1.symm) (Kd.S_reads' HO42_0.out).2.1) T29.out).mono ?_; rintro e W12 ⟨rfl, hd⟩; refine ⟨_, rfl, ?_⟩; have hb := Drawn0.below hd; clear hd; have HB_W12 := Az.mk (bwT HB_W11.out hb); have HS_W12 := Az.mk (show W11.heap.size ≤ W12.heap.size from hb.size); have HO21_0_ := Az.mk (Kd.S_below HO21_0.out hb); have HO23_0_ := Az.mk (Kd.S_below HO23_0.out hb); have HO26_0_ := Az.mk (Kd.S_below HO26_0.out hb); have HO28_0_ := Az.mk (Kd.S_below HO28_0.out hb); have HO37_0_ := Az.mk (Kd.S_below HO37_0.out hb); have HO42_0_ := Az.mk (Kd.S_below HO42_0.out hb); clear HO21_0; have HO21_0 := HO21_0_; clear HO21_0_; clear HO23_0; have HO23_0 := HO23_0_; clear HO23_0_; clear HO26_0; have HO26_0 := HO26_0_; clear HO26_0_; clear HO28_0; have HO28_0 := HO28_0_; clear HO28_0_; clear HO37_0; have HO37_0 := HO37_0_; clear HO37_0_; clear HO42_0; have HO42_0 := HO42_0_; clear HO42_0_; clear HB_W11; clear hb))
            go_ret
            exact ⟨rfl, HB_W12.out⟩
          · rw [if_neg c35] at H; exact absurd H (by simp)
        · rw [if_neg c34] at H; exact absurd H (by simp)
      · rw [if_neg c33] at H; exact absurd H (by simp)
end Go.Proofs.Ytahokioglinpgaa.P

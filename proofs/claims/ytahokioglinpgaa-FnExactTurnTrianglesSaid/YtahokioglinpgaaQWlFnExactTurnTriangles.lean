-- By this session's lawgen.py: the walk of a law in a straight line. Not trusted: Lean checks it.
import Derived.Test.YtahokioglinpgaaQPx1
import Derived.Test.YtahokioglinpgaaQPx3
import Derived.Test.YtahokioglinpgaaQPx5
import Derived.Test.YtahokioglinpgaaQPx7
import Derived.Test.YtahokioglinpgaaQPx9
import Derived.Test.YtahokioglinpgaaQPx10
namespace Go.Proofs.Ytahokioglinpgaa.P
open Go.RowKit Go.Proofs.YtahokioglinpgaaW.PrintWords Go.Proofs.YtahokioglinpgaaW.PrintLast Go.Proofs.YtahokioglinpgaaW.PrintMore
set_option linter.unusedVariables false
/-- Blocks from lo on, below hi. -/
def Iv (lo hi : Nat) (k : Nat) : Prop := lo ≤ k ∧ k < hi
section
variable {α : Type} {d : Kd α} {e : Nat} {w Wp W : World} {ok : Nat → Prop} {v : Value} {xs : List α} {a b c f : Nat}
theorem S_iv (h : Kd.S d e W Wp.heap.size ok v xs) (hb : w.heap.size ≤ Wp.heap.size) : Kd.S d e W w.heap.size (Iv Wp.heap.size W.heap.size) v xs := Kd.S_lower (Kd.S_mono (Kd.S_bound h) (fun _ hk => ⟨hk.2.1, hk.2.2.1⟩)) hb
theorem R_iv (h : Kd.R d e W Wp.heap.size ok v xs) (hb : w.heap.size ≤ Wp.heap.size) : Kd.R d e W w.heap.size (Iv Wp.heap.size W.heap.size) v xs := Kd.R_lower (Kd.R_mono (Kd.R_bound h) (fun _ hk => ⟨hk.2.1, hk.2.2.1⟩)) hb
theorem S_off (h : Kd.S d e Wp w.heap.size (Iv a b) v xs) (hk : Kept Wp W (Iv c f)) (hd : b ≤ c ∨ f ≤ a) : Kd.S d e W w.heap.size (Iv a b) v xs := Kd.S_step h (fun k ho hlt => hk.2 k hlt (fun hc => by have h1 := ho.1; have h2 := ho.2; have h3 := hc.1; have h4 := hc.2; omega))
theorem R_off (h : Kd.R d e Wp w.heap.size (Iv a b) v xs) (hk : Kept Wp W (Iv c f)) (hd : b ≤ c ∨ f ≤ a) : Kd.R d e W w.heap.size (Iv a b) v xs := Kd.R_step h (fun k ho hlt => hk.2 k hlt (fun hc => by have h1 := ho.1; have h2 := ho.2; have h3 := hc.1; have h4 := hc.2; omega))
def Iw (lo hi : Nat) (u : Value) (k : Nat) : Prop := Iv lo hi k ∧ some k ≠ u.ownBlock
def Iz (lo hi : Nat) (u : Value) (k : Nat) : Prop := Iv lo hi k ∧ some k = u.ownBlock
theorem S_iw {u : Value} (h : Kd.S d e W Wp.heap.size (fun k_ => some k_ ≠ u.ownBlock) v xs) (hb : w.heap.size ≤ Wp.heap.size) : Kd.S d e W w.heap.size (Iw Wp.heap.size W.heap.size u) v xs := Kd.S_lower (Kd.S_mono (Kd.S_bound h) (fun _ hk => ⟨⟨hk.2.1, hk.2.2.1⟩, hk.1⟩)) hb
theorem R_iz {ys : List Int} (h : Kd.R (Kd.int .i64) e W Wp.heap.size ok v ys) (hb : w.heap.size ≤ Wp.heap.size) : Kd.R (Kd.int .i64) e W w.heap.size (Iz Wp.heap.size W.heap.size v) v ys := Kd.R_reok rfl (R_iv (w := w) h hb) (fun k_ e_ => ⟨(R_iv (w := w) h hb).1 k_ e_, e_.symm⟩)
theorem S_offP {P Q : Nat → Prop} (h : Kd.S d e Wp w.heap.size P v xs) (hk : Kept Wp W Q) (hd : ∀ k, P k → Q k → False) : Kd.S d e W w.heap.size P v xs := Kd.S_step h (fun k ho hlt => hk.2 k hlt (fun hc => hd k ho hc))
theorem R_offP {P Q : Nat → Prop} (h : Kd.R d e Wp w.heap.size P v xs) (hk : Kept Wp W Q) (hd : ∀ k, P k → Q k → False) : Kd.R d e W w.heap.size P v xs := Kd.R_step h (fun k ho hlt => hk.2 k hlt (fun hc => hd k ho hc))
end
theorem calls_len {P : Program} {fn : FuncId} {A : Option Addr} {c n m : Nat} {x : Value} {w : World} {Q : Ending → World → Prop} (h : n = m) (hc : Calls P fn #[.slice A m c, x] w Q) : Calls P fn #[.slice A n c, x] w Q := by
  subst h
  exact hc

def laws_FnExactTurnTriangles.f (k : Nat) (l0 : List (List Int)) : Option Bool := (laws_szIntSS.f k (l0) 1048576).bind fun r2 => (if r2 < 0 then some true else ((laws_toIntSS.f k (l0)).bind fun r5 => ((spec_TurnTriangles.f k (r5)).bind fun r7 => ((laws_toIntSS.f k (l0)).bind fun r9 => ((impl_TurnTriangles.f k (r9)).bind fun r11 => ((laws_eqIntSS.f k (r11) (r7)).bind fun r14 => (if r14 = true then ((laws_toIntSS.f k (l0)).bind fun r17 => ((laws_eqIntSS.f k (r9) (r17)).bind fun r20 => (if r20 = true then ((laws_markIntSS.f k (r9) 1).bind fun (r22, r23) => (if r22 < 0 then none else ((laws_eqIntSS.f k (r11) (r7)).bind fun r26 => (if r26 = true then ((laws_markIntSS.f k (r11) 1).bind fun (r28, r29) => ((laws_heldIntSS.f k (r29) 1).bind fun r32 => (if r32 < 0 then none else (if r32 = r28 then ((laws_toIntSS.f k (l0)).bind fun r35 => ((impl_TurnTriangles.f k (r35)).bind fun r37 => ((laws_eqIntSS.f k (r37) (r7)).bind fun r40 => (if r40 = true then ((laws_heldIntSS.f k (r29) 1).bind fun r43 => (if r43 < 0 then none else (if r43 = r28 then (some true) else none))) else none)))) else none)))) else none)))) else none))) else none)))))))
set_option maxHeartbeats 8000000 in
set_option maxRecDepth 100000 in
theorem laws_FnExactTurnTriangles.calls (k : Nat) (A0 : Option Addr) (c0 : Nat) (l0 : List (List Int)) (r : Bool) (w : World) (hr0 : Kd.C (Kd.slice 3 (Kd.int .i64)) w A0 l0.length l0) (hc0 : l0.length ≤ c0) (h : laws_FnExactTurnTriangles.f k l0 = some r) :
    Calls Try.prog 3 #[.slice A0 l0.length c0] w fun e w' => e = .returned (.bool r) ∧ Below w.heap.size w w' := by
  have HR0 := Az.mk hr0
  have HC0 := Az.mk hc0
  clear hr0 hc0
  have HB_w := Az.mk (Below.refl w.heap.size w)
  have H := h
  clear h
  unfold laws_FnExactTurnTriangles.f at H
  replace H := Option.bind_eq_some_iff.mp H
  obtain ⟨r2, T1_, H⟩ := H
  have T1 := Az.mk T1_
  clear T1_
  try dsimp only at H
  by_cases c44 : r2 < 0
  · rw [if_pos c44] at H
    have c44b := decide_eq_true c44
    clear c44
    obtain rfl := Option.some.inj H
    go_enter Try.func3, Try.ntmps3
    go_wp2_with (first | ((with_reducible refine gtC (f := 6) rfl ?_); refine goesL_ (some 13) rfl rfl Try.func6 (by kernel_rfl) rfl #[.slice A0 l0.length c0, .int .i64 1048576] rfl (by (try simp only [List.map_toArray, List.map_cons, List.map_nil]); first | done | rfl) ?_; refine (laws_szIntSS.calls k A0 c0 (l0) 1048576 r2 w (Kd.C_below HR0.out HB_w.out) HC0.out T1.out).mono ?_; rintro e W1 ⟨rfl, hd⟩; refine ⟨_, rfl, ?_⟩; have hb := Drawn0.below hd; clear hd; have HB_W1 := Az.mk (bwT HB_w.out hb); have HS_W1 := Az.mk (show w.heap.size ≤ W1.heap.size from hb.size); clear hb))
    go_ret
    exact ⟨rfl, HB_W1.out⟩
  · rw [if_neg c44] at H
    have c44b := decide_eq_false c44
    clear c44
    replace H := Option.bind_eq_some_iff.mp H
    obtain ⟨r5, T4_, H⟩ := H
    have T4 := Az.mk T4_
    clear T4_
    try dsimp only at H
    replace H := Option.bind_eq_some_iff.mp H
    obtain ⟨r7, T6_, H⟩ := H
    have T6 := Az.mk T6_
    clear T6_
    try dsimp only at H
    replace H := Option.bind_eq_some_iff.mp H
    obtain ⟨r9, T8_, H⟩ := H
    have T8 := Az.mk T8_
    clear T8_
    try dsimp only at H
    replace H := Option.bind_eq_some_iff.mp H
    obtain ⟨r11, T10_, H⟩ := H
    have T10 := Az.mk T10_
    clear T10_
    try dsimp only at H
    replace H := Option.bind_eq_some_iff.mp H
    obtain ⟨r14, T13_, H⟩ := H
    have T13 := Az.mk T13_
    clear T13_
    try dsimp only at H
    by_cases c45 : r14 = true
    · rw [if_pos c45] at H
      subst c45
      replace H := Option.bind_eq_some_iff.mp H
      obtain ⟨r17, T16_, H⟩ := H
      have T16 := Az.mk T16_
      clear T16_
      try dsimp only at H
      replace H := Option.bind_eq_some_iff.mp H
      obtain ⟨r20, T19_, H⟩ := H
      have T19 := Az.mk T19_
      clear T19_
      try dsimp only at H
      by_cases c46 : r20 = true
      · rw [if_pos c46] at H
        subst c46
        replace H := Option.bind_eq_some_iff.mp H
        obtain ⟨⟨r22, r23⟩, T21_, H⟩ := H
        have T21 := Az.mk T21_
        clear T21_
        try dsimp only at H
        by_cases c47 : r22 < 0
        · rw [if_pos c47] at H; exact absurd H (by simp)
        · rw [if_neg c47] at H
          have c47b := decide_eq_false c47
          clear c47
          replace H := Option.bind_eq_some_iff.mp H
          obtain ⟨r26, T25_, H⟩ := H
          have T25 := Az.mk T25_
          clear T25_
          try dsimp only at H
          by_cases c48 : r26 = true
          · rw [if_pos c48] at H
            subst c48
            replace H := Option.bind_eq_some_iff.mp H
            obtain ⟨⟨r28, r29⟩, T27_, H⟩ := H
            have T27 := Az.mk T27_
            clear T27_
            try dsimp only at H
            replace H := Option.bind_eq_some_iff.mp H
            obtain ⟨r32, T31_, H⟩ := H
            have T31 := Az.mk T31_
            clear T31_
            try dsimp only at H
            by_cases c49 : r32 < 0
            · rw [if_pos c49] at H; exact absurd H (by simp)
            · rw [if_neg c49] at H
              have c49b := decide_eq_false c49
              clear c49
              by_cases c50 : r32 = r28
              · rw [if_pos c50] at H
                subst c50
                replace H := Option.bind_eq_some_iff.mp H
                obtain ⟨r35, T34_, H⟩ := H
                have T34 := Az.mk T34_
                clear T34_
                try dsimp only at H
                replace H := Option.bind_eq_some_iff.mp H
                obtain ⟨r37, T36_, H⟩ := H
                have T36 := Az.mk T36_
                clear T36_
                try dsimp only at H
                replace H := Option.bind_eq_some_iff.mp H
                obtain ⟨r40, T39_, H⟩ := H
                have T39 := Az.mk T39_
                clear T39_
                try dsimp only at H
                by_cases c51 : r40 = true
                · rw [if_pos c51] at H
                  subst c51
                  replace H := Option.bind_eq_some_iff.mp H
                  obtain ⟨r43, T42_, H⟩ := H
                  have T42 := Az.mk T42_
                  clear T42_
                  try dsimp only at H
                  by_cases c52 : r43 < 0
                  · rw [if_pos c52] at H; exact absurd H (by simp)
                  · rw [if_neg c52] at H
                    have c52b := decide_eq_false c52
                    clear c52
                    by_cases c53 : r43 = r32
                    · rw [if_pos c53] at H
                      subst c53
                      obtain rfl := Option.some.inj H
                      go_enter Try.func3, Try.ntmps3
                      go_wp2_with (first | ((with_reducible refine gtC (f := 6) rfl ?_); refine goesL_ (some 13) rfl rfl Try.func6 (by kernel_rfl) rfl #[.slice A0 l0.length c0, .int .i64 1048576] rfl (by (try simp only [List.map_toArray, List.map_cons, List.map_nil]); first | done | rfl) ?_; refine (laws_szIntSS.calls k A0 c0 (l0) 1048576 r2 w (Kd.C_below HR0.out HB_w.out) HC0.out T1.out).mono ?_; rintro e W1 ⟨rfl, hd⟩; refine ⟨_, rfl, ?_⟩; have hb := Drawn0.below hd; clear hd; have HB_W1 := Az.mk (bwT HB_w.out hb); have HS_W1 := Az.mk (show w.heap.size ≤ W1.heap.size from hb.size); clear hb) | ((with_reducible refine gtC (f := 8) rfl ?_); refine goesL_ (some 17) rfl rfl Try.func8 (by kernel_rfl) rfl #[.slice A0 l0.length c0] rfl (by (try simp only [List.map_toArray, List.map_cons, List.map_nil]); first | done | rfl) ?_; refine (laws_toIntSS.calls k A0 c0 (l0) r5 W1 (Kd.C_below HR0.out HB_W1.out) HC0.out T4.out).mono ?_; rintro e W2 ⟨v17_0, rfl, ho0, hb⟩; refine ⟨_, rfl, ?_⟩; have HO17_0 := Az.mk (S_iv (w := w) ho0 HB_W1.out.size); have HB_W2 := Az.mk (bwT HB_W1.out hb); have HS_W2 := Az.mk (show W1.heap.size ≤ W2.heap.size from hb.size); clear HB_W1; clear hb; clear ho0; obtain ⟨A17_0, c17_0, e_v17_0⟩ := Kd.S_slice HO17_0.out; subst e_v17_0) | ((with_reducible refine gtC (f := 7) rfl ?_); refine goesL_ (some 18) rfl rfl Try.func7 (by kernel_rfl) rfl #[.slice A17_0 r5.length c17_0] rfl (by (try simp only [List.map_toArray, List.map_cons, List.map_nil]); first | done | rfl) ?_; refine (spec_TurnTriangles.calls k A17_0 c17_0 (r5) r7 W2 (Kd.S_reads' HO17_0.out).2.2 (Nat.le_trans (Nat.le_of_eq (Kd.S_reads' HO17_0.out).1.symm) (Kd.S_reads' HO17_0.out).2.1) T6.out).mono ?_; rintro e W3 ⟨v18_0, rfl, ho0, hb⟩; refine ⟨_, rfl, ?_⟩; have HO18_0 := Az.mk (S_iv (w := w) ho0 HB_W2.out.size); have HB_W3 := Az.mk (bwT HB_W2.out hb); have HS_W3 := Az.mk (show W2.heap.size ≤ W3.heap.size from hb.size); have HO17_0_ := Az.mk (Kd.S_below HO17_0.out hb); clear HO17_0; have HO17_0 := HO17_0_; clear HO17_0_; clear HB_W2; clear hb; clear ho0; obtain ⟨A18_0, c18_0, e_v18_0⟩ := Kd.S_slice HO18_0.out; subst e_v18_0) | ((with_reducible refine gtC (f := 8) rfl ?_); refine goesL_ (some 20) rfl rfl Try.func8 (by kernel_rfl) rfl #[.slice A0 l0.length c0] rfl (by (try simp only [List.map_toArray, List.map_cons, List.map_nil]); first | done | rfl) ?_; refine (laws_toIntSS.calls k A0 c0 (l0) r9 W3 (Kd.C_below HR0.out HB_W3.out) HC0.out T8.out).mono ?_; rintro e W4 ⟨v20_0, rfl, ho0, hb⟩; refine ⟨_, rfl, ?_⟩; have HO20_0 := Az.mk (S_iv (w := w) ho0 HB_W3.out.size); have HB_W4 := Az.mk (bwT HB_W3.out hb); have HS_W4 := Az.mk (show W3.heap.size ≤ W4.heap.size from hb.size); have HO17_0_ := Az.mk (Kd.S_below HO17_0.out hb); have HO18_0_ := Az.mk (Kd.S_below HO18_0.out hb); clear HO17_0; have HO17_0 := HO17_0_; clear HO17_0_; clear HO18_0; have HO18_0 := HO18_0_; clear HO18_0_; clear HB_W3; clear hb; clear ho0; obtain ⟨A20_0, c20_0, e_v20_0⟩ := Kd.S_slice HO20_0.out; subst e_v20_0) | ((with_reducible refine gtC (f := 9) rfl ?_); refine goesL_ (some 22) rfl rfl Try.func9 (by kernel_rfl) rfl #[.slice A20_0 r9.length c20_0] rfl (by (try simp only [List.map_toArray, List.map_cons, List.map_nil]); first | done | rfl) ?_; refine (impl_TurnTriangles.calls k A20_0 c20_0 (r9) r11 W4 (Kd.S_reads' HO20_0.out).2.2 (Nat.le_trans (Nat.le_of_eq (Kd.S_reads' HO20_0.out).1.symm) (Kd.S_reads' HO20_0.out).2.1) T10.out).mono ?_; rintro e W5 ⟨v22_0, rfl, ho0, hb⟩; refine ⟨_, rfl, ?_⟩; have HO22_0 := Az.mk (S_iv (w := w) ho0 HB_W4.out.size); have HB_W5 := Az.mk (bwT HB_W4.out hb); have HS_W5 := Az.mk (show W4.heap.size ≤ W5.heap.size from hb.size); have HO17_0_ := Az.mk (Kd.S_below HO17_0.out hb); have HO18_0_ := Az.mk (Kd.S_below HO18_0.out hb); have HO20_0_ := Az.mk (Kd.S_below HO20_0.out hb); clear HO17_0; have HO17_0 := HO17_0_; clear HO17_0_; clear HO18_0; have HO18_0 := HO18_0_; clear HO18_0_; clear HO20_0; have HO20_0 := HO20_0_; clear HO20_0_; clear HB_W4; clear hb; clear ho0; obtain ⟨A22_0, c22_0, e_v22_0⟩ := Kd.S_slice HO22_0.out; subst e_v22_0) | ((with_reducible refine gtC (f := 10) rfl ?_); refine goesL_ (some 25) rfl rfl Try.func10 (by kernel_rfl) rfl #[.slice A22_0 r11.length c22_0, .slice A18_0 r7.length c18_0] rfl (by (try simp only [List.map_toArray, List.map_cons, List.map_nil]); first | done | rfl) ?_; refine (laws_eqIntSS.calls k A22_0 c22_0 (r11) A18_0 c18_0 (r7) true W5 (Kd.S_reads' HO22_0.out).2.2 (Nat.le_trans (Nat.le_of_eq (Kd.S_reads' HO22_0.out).1.symm) (Kd.S_reads' HO22_0.out).2.1) (Kd.S_reads' HO18_0.out).2.2 (Nat.le_trans (Nat.le_of_eq (Kd.S_reads' HO18_0.out).1.symm) (Kd.S_reads' HO18_0.out).2.1) T13.out).mono ?_; rintro e W6 ⟨rfl, hd⟩; refine ⟨_, rfl, ?_⟩; have hb := Drawn0.below hd; clear hd; have HB_W6 := Az.mk (bwT HB_W5.out hb); have HS_W6 := Az.mk (show W5.heap.size ≤ W6.heap.size from hb.size); have HO17_0_ := Az.mk (Kd.S_below HO17_0.out hb); have HO18_0_ := Az.mk (Kd.S_below HO18_0.out hb); have HO20_0_ := Az.mk (Kd.S_below HO20_0.out hb); have HO22_0_ := Az.mk (Kd.S_below HO22_0.out hb); clear HO17_0; have HO17_0 := HO17_0_; clear HO17_0_; clear HO18_0; have HO18_0 := HO18_0_; clear HO18_0_; clear HO20_0; have HO20_0 := HO20_0_; clear HO20_0_; clear HO22_0; have HO22_0 := HO22_0_; clear HO22_0_; clear HB_W5; clear hb) | ((with_reducible refine gtC (f := 8) rfl ?_); refine goesL_ (some 29) rfl rfl Try.func8 (by kernel_rfl) rfl #[.slice A0 l0.length c0] rfl (by (try simp only [List.map_toArray, List.map_cons, List.map_nil]); first | done | rfl) ?_; refine (laws_toIntSS.calls k A0 c0 (l0) r17 W6 (Kd.C_below HR0.out HB_W6.out) HC0.out T16.out).mono ?_; rintro e W7 ⟨v29_0, rfl, ho0, hb⟩; refine ⟨_, rfl, ?_⟩; have HO29_0 := Az.mk (S_iv (w := w) ho0 HB_W6.out.size); have HB_W7 := Az.mk (bwT HB_W6.out hb); have HS_W7 := Az.mk (show W6.heap.size ≤ W7.heap.size from hb.size); have HO17_0_ := Az.mk (Kd.S_below HO17_0.out hb); have HO18_0_ := Az.mk (Kd.S_below HO18_0.out hb); have HO20_0_ := Az.mk (Kd.S_below HO20_0.out hb); have HO22_0_ := Az.mk (Kd.S_below HO22_0.out hb); clear HO17_0; have HO17_0 := HO17_0_; clear HO17_0_; clear HO18_0; have HO18_0 := HO18_0_; clear HO18_0_; clear HO20_0; have HO20_0 := HO20_0_; clear HO20_0_; clear HO22_0; have HO22_0 := HO22_0_; clear HO22_0_; clear HB_W6; clear hb; clear ho0; obtain ⟨A29_0, c29_0, e_v29_0⟩ := Kd.S_slice HO29_0.out; subst e_v29_0) | ((with_reducible refine gtC (f := 10) rfl ?_); refine goesL_ (some 30) rfl rfl Try.func10 (by kernel_rfl) rfl #[.slice A20_0 r9.length c20_0, .slice A29_0 r17.length c29_0] rfl (by (try simp only [List.map_toArray, List.map_cons, List.map_nil]); first | done | rfl) ?_; refine (laws_eqIntSS.calls k A20_0 c20_0 (r9) A29_0 c29_0 (r17) true W7 (Kd.S_reads' HO20_0.out).2.2 (Nat.le_trans (Nat.le_of_eq (Kd.S_reads' HO20_0.out).1.symm) (Kd.S_reads' HO20_0.out).2.1) (Kd.S_reads' HO29_0.out).2.2 (Nat.le_trans (Nat.le_of_eq (Kd.S_reads' HO29_0.out).1.symm) (Kd.S_reads' HO29_0.out).2.1) T19.out).mono ?_; rintro e W8 ⟨rfl, hd⟩; refine ⟨_, rfl, ?_⟩; have hb := Drawn0.below hd; clear hd; have HB_W8 := Az.mk (bwT HB_W7.out hb); have HS_W8 := Az.mk (show W7.heap.size ≤ W8.heap.size from hb.size); have HO17_0_ := Az.mk (Kd.S_below HO17_0.out hb); have HO18_0_ := Az.mk (Kd.S_below HO18_0.out hb); have HO20_0_ := Az.mk (Kd.S_below HO20_0.out hb); have HO22_0_ := Az.mk (Kd.S_below HO22_0.out hb); have HO29_0_ := Az.mk (Kd.S_below HO29_0.out hb); clear HO17_0; have HO17_0 := HO17_0_; clear HO17_0_; clear HO18_0; have HO18_0 := HO18_0_; clear HO18_0_; clear HO20_0; have HO20_0 := HO20_0_; clear HO20_0_; clear HO22_0; have HO22_0 := HO22_0_; clear HO22_0_; clear HO29_0; have HO29_0 := HO29_0_; clear HO29_0_; clear HB_W7; clear hb) | ((with_reducible refine gtC (f := 11) rfl ?_); refine goesL_ (some 34) rfl rfl Try.func11 (by kernel_rfl) rfl #[.slice A20_0 r9.length c20_0, .int .i64 1] rfl (by (try simp only [List.map_toArray, List.map_cons, List.map_nil]); first | done | rfl) ?_; refine (laws_markIntSS.calls k (Iv W3.heap.size W4.heap.size) (.slice A20_0 r9.length c20_0) (r9) 1 r22 r23 w W8 HB_W8.out HO20_0.out T21.out).mono ?_; rintro e W9 ⟨rfl, hy, hb, hk⟩; refine ⟨_, rfl, ?_⟩; have HB_W9 := Az.mk hb; have HS_W9 := Az.mk (show W8.heap.size ≤ W9.heap.size from hk.1); have HO17_0_ := Az.mk (S_off HO17_0.out hk (by have := HS_W1.out; have := HS_W2.out; have := HS_W3.out; have := HS_W4.out; have := HS_W5.out; have := HS_W6.out; have := HS_W7.out; have := HS_W8.out; omega)); have HO18_0_ := Az.mk (S_off HO18_0.out hk (by have := HS_W1.out; have := HS_W2.out; have := HS_W3.out; have := HS_W4.out; have := HS_W5.out; have := HS_W6.out; have := HS_W7.out; have := HS_W8.out; omega)); have HO20_0_ := Az.mk (hy); have HO22_0_ := Az.mk (S_off HO22_0.out hk (by have := HS_W1.out; have := HS_W2.out; have := HS_W3.out; have := HS_W4.out; have := HS_W5.out; have := HS_W6.out; have := HS_W7.out; have := HS_W8.out; omega)); have HO29_0_ := Az.mk (S_off HO29_0.out hk (by have := HS_W1.out; have := HS_W2.out; have := HS_W3.out; have := HS_W4.out; have := HS_W5.out; have := HS_W6.out; have := HS_W7.out; have := HS_W8.out; omega)); clear HO17_0; have HO17_0 := HO17_0_; clear HO17_0_; clear HO18_0; have HO18_0 := HO18_0_; clear HO18_0_; clear HO20_0; have HO20_0 := HO20_0_; clear HO20_0_; clear HO22_0; have HO22_0 := HO22_0_; clear HO22_0_; clear HO29_0; have HO29_0 := HO29_0_; clear HO29_0_; clear HB_W8; clear hb hk hy) | (go_at_call 10; refine (laws_eqIntSS.calls k A22_0 c22_0 (r11) A18_0 c18_0 (r7) true W9 (Kd.S_reads' HO22_0.out).2.2 (Nat.le_trans (Nat.le_of_eq (Kd.S_reads' HO22_0.out).1.symm) (Kd.S_reads' HO22_0.out).2.1) (Kd.S_reads' HO18_0.out).2.2 (Nat.le_trans (Nat.le_of_eq (Kd.S_reads' HO18_0.out).1.symm) (Kd.S_reads' HO18_0.out).2.1) T25.out).mono ?_; rintro e W10 ⟨rfl, hd⟩; have hb := Drawn0.below hd; clear hd; have HB_W10 := Az.mk (bwT HB_W9.out hb); have HS_W10 := Az.mk (show W9.heap.size ≤ W10.heap.size from hb.size); have HO17_0_ := Az.mk (Kd.S_below HO17_0.out hb); have HO18_0_ := Az.mk (Kd.S_below HO18_0.out hb); have HO20_0_ := Az.mk (Kd.S_below HO20_0.out hb); have HO22_0_ := Az.mk (Kd.S_below HO22_0.out hb); have HO29_0_ := Az.mk (Kd.S_below HO29_0.out hb); clear HO17_0; have HO17_0 := HO17_0_; clear HO17_0_; clear HO18_0; have HO18_0 := HO18_0_; clear HO18_0_; clear HO20_0; have HO20_0 := HO20_0_; clear HO20_0_; clear HO22_0; have HO22_0 := HO22_0_; clear HO22_0_; clear HO29_0; have HO29_0 := HO29_0_; clear HO29_0_; clear HB_W9; clear hb) | ((with_reducible refine gtC (f := 11) rfl ?_); refine goesL_ (some 45) rfl rfl Try.func11 (by kernel_rfl) rfl #[.slice A22_0 r11.length c22_0, .int .i64 1] rfl (by (try simp only [List.map_toArray, List.map_cons, List.map_nil]); first | done | rfl) ?_; refine (laws_markIntSS.calls k (Iv W4.heap.size W5.heap.size) (.slice A22_0 r11.length c22_0) (r11) 1 r43 r29 w W10 HB_W10.out HO22_0.out T27.out).mono ?_; rintro e W11 ⟨rfl, hy, hb, hk⟩; refine ⟨_, rfl, ?_⟩; have HB_W11 := Az.mk hb; have HS_W11 := Az.mk (show W10.heap.size ≤ W11.heap.size from hk.1); have HO17_0_ := Az.mk (S_off HO17_0.out hk (by have := HS_W1.out; have := HS_W2.out; have := HS_W3.out; have := HS_W4.out; have := HS_W5.out; have := HS_W6.out; have := HS_W7.out; have := HS_W8.out; have := HS_W9.out; have := HS_W10.out; omega)); have HO18_0_ := Az.mk (S_off HO18_0.out hk (by have := HS_W1.out; have := HS_W2.out; have := HS_W3.out; have := HS_W4.out; have := HS_W5.out; have := HS_W6.out; have := HS_W7.out; have := HS_W8.out; have := HS_W9.out; have := HS_W10.out; omega)); have HO20_0_ := Az.mk (S_off HO20_0.out hk (by have := HS_W1.out; have := HS_W2.out; have := HS_W3.out; have := HS_W4.out; have := HS_W5.out; have := HS_W6.out; have := HS_W7.out; have := HS_W8.out; have := HS_W9.out; have := HS_W10.out; omega)); have HO22_0_ := Az.mk (hy); have HO29_0_ := Az.mk (S_off HO29_0.out hk (by have := HS_W1.out; have := HS_W2.out; have := HS_W3.out; have := HS_W4.out; have := HS_W5.out; have := HS_W6.out; have := HS_W7.out; have := HS_W8.out; have := HS_W9.out; have := HS_W10.out; omega)); clear HO17_0; have HO17_0 := HO17_0_; clear HO17_0_; clear HO18_0; have HO18_0 := HO18_0_; clear HO18_0_; clear HO20_0; have HO20_0 := HO20_0_; clear HO20_0_; clear HO22_0; have HO22_0 := HO22_0_; clear HO22_0_; clear HO29_0; have HO29_0 := HO29_0_; clear HO29_0_; clear HB_W10; clear hb hk hy) | ((with_reducible refine gtC (f := 12) rfl ?_); refine goesL_ (some 48) rfl rfl Try.func12 (by kernel_rfl) rfl #[.slice A22_0 r11.length c22_0, .int .i64 1] rfl (by (try simp only [List.map_toArray, List.map_cons, List.map_nil]); first | done | rfl) ?_; refine (calls_len ((Kd.S_reads' HO22_0.out).1) (laws_heldIntSS.calls k A22_0 c22_0 (r29) 1 r43 W11 (Kd.S_reads' HO22_0.out).2.2 (Nat.le_trans (Nat.le_of_eq (Kd.S_reads' HO22_0.out).1.symm) (Kd.S_reads' HO22_0.out).2.1) T31.out)).mono ?_; rintro e W12 ⟨rfl, hd⟩; refine ⟨_, rfl, ?_⟩; have hb := Drawn0.below hd; clear hd; have HB_W12 := Az.mk (bwT HB_W11.out hb); have HS_W12 := Az.mk (show W11.heap.size ≤ W12.heap.size from hb.size); have HO17_0_ := Az.mk (Kd.S_below HO17_0.out hb); have HO18_0_ := Az.mk (Kd.S_below HO18_0.out hb); have HO20_0_ := Az.mk (Kd.S_below HO20_0.out hb); have HO22_0_ := Az.mk (Kd.S_below HO22_0.out hb); have HO29_0_ := Az.mk (Kd.S_below HO29_0.out hb); clear HO17_0; have HO17_0 := HO17_0_; clear HO17_0_; clear HO18_0; have HO18_0 := HO18_0_; clear HO18_0_; clear HO20_0; have HO20_0 := HO20_0_; clear HO20_0_; clear HO22_0; have HO22_0 := HO22_0_; clear HO22_0_; clear HO29_0; have HO29_0 := HO29_0_; clear HO29_0_; clear HB_W11; clear hb) | ((with_reducible refine gtC (f := 8) rfl ?_); refine goesL_ (some 55) rfl rfl Try.func8 (by kernel_rfl) rfl #[.slice A0 l0.length c0] rfl (by (try simp only [List.map_toArray, List.map_cons, List.map_nil]); first | done | rfl) ?_; refine (laws_toIntSS.calls k A0 c0 (l0) r35 W12 (Kd.C_below HR0.out HB_W12.out) HC0.out T34.out).mono ?_; rintro e W13 ⟨v55_0, rfl, ho0, hb⟩; refine ⟨_, rfl, ?_⟩; have HO55_0 := Az.mk (S_iv (w := w) ho0 HB_W12.out.size); have HB_W13 := Az.mk (bwT HB_W12.out hb); have HS_W13 := Az.mk (show W12.heap.size ≤ W13.heap.size from hb.size); have HO17_0_ := Az.mk (Kd.S_below HO17_0.out hb); have HO18_0_ := Az.mk (Kd.S_below HO18_0.out hb); have HO20_0_ := Az.mk (Kd.S_below HO20_0.out hb); have HO22_0_ := Az.mk (Kd.S_below HO22_0.out hb); have HO29_0_ := Az.mk (Kd.S_below HO29_0.out hb); clear HO17_0; have HO17_0 := HO17_0_; clear HO17_0_; clear HO18_0; have HO18_0 := HO18_0_; clear HO18_0_; clear HO20_0; have HO20_0 := HO20_0_; clear HO20_0_; clear HO22_0; have HO22_0 := HO22_0_; clear HO22_0_; clear HO29_0; have HO29_0 := HO29_0_; clear HO29_0_; clear HB_W12; clear hb; clear ho0; obtain ⟨A55_0, c55_0, e_v55_0⟩ := Kd.S_slice HO55_0.out; subst e_v55_0) | ((with_reducible refine gtC (f := 9) rfl ?_); refine goesL_ (some 56) rfl rfl Try.func9 (by kernel_rfl) rfl #[.slice A55_0 r35.length c55_0] rfl (by (try simp only [List.map_toArray, List.map_cons, List.map_nil]); first | done | rfl) ?_; refine (impl_TurnTriangles.calls k A55_0 c55_0 (r35) r37 W13 (Kd.S_reads' HO55_0.out).2.2 (Nat.le_trans (Nat.le_of_eq (Kd.S_reads' HO55_0.out).1.symm) (Kd.S_reads' HO55_0.out).2.1) T36.out).mono ?_; rintro e W14 ⟨v56_0, rfl, ho0, hb⟩; refine ⟨_, rfl, ?_⟩; have HO56_0 := Az.mk (S_iv (w := w) ho0 HB_W13.out.size); have HB_W14 := Az.mk (bwT HB_W13.out hb); have HS_W14 := Az.mk (show W13.heap.size ≤ W14.heap.size from hb.size); have HO17_0_ := Az.mk (Kd.S_below HO17_0.out hb); have HO18_0_ := Az.mk (Kd.S_below HO18_0.out hb); have HO20_0_ := Az.mk (Kd.S_below HO20_0.out hb); have HO22_0_ := Az.mk (Kd.S_below HO22_0.out hb); have HO29_0_ := Az.mk (Kd.S_below HO29_0.out hb); have HO55_0_ := Az.mk (Kd.S_below HO55_0.out hb); clear HO17_0; have HO17_0 := HO17_0_; clear HO17_0_; clear HO18_0; have HO18_0 := HO18_0_; clear HO18_0_; clear HO20_0; have HO20_0 := HO20_0_; clear HO20_0_; clear HO22_0; have HO22_0 := HO22_0_; clear HO22_0_; clear HO29_0; have HO29_0 := HO29_0_; clear HO29_0_; clear HO55_0; have HO55_0 := HO55_0_; clear HO55_0_; clear HB_W13; clear hb; clear ho0; obtain ⟨A56_0, c56_0, e_v56_0⟩ := Kd.S_slice HO56_0.out; subst e_v56_0) | ((with_reducible refine gtC (f := 10) rfl ?_); refine goesL_ (some 59) rfl rfl Try.func10 (by kernel_rfl) rfl #[.slice A56_0 r37.length c56_0, .slice A18_0 r7.length c18_0] rfl (by (try simp only [List.map_toArray, List.map_cons, List.map_nil]); first | done | rfl) ?_; refine (laws_eqIntSS.calls k A56_0 c56_0 (r37) A18_0 c18_0 (r7) true W14 (Kd.S_reads' HO56_0.out).2.2 (Nat.le_trans (Nat.le_of_eq (Kd.S_reads' HO56_0.out).1.symm) (Kd.S_reads' HO56_0.out).2.1) (Kd.S_reads' HO18_0.out).2.2 (Nat.le_trans (Nat.le_of_eq (Kd.S_reads' HO18_0.out).1.symm) (Kd.S_reads' HO18_0.out).2.1) T39.out).mono ?_; rintro e W15 ⟨rfl, hd⟩; refine ⟨_, rfl, ?_⟩; have hb := Drawn0.below hd; clear hd; have HB_W15 := Az.mk (bwT HB_W14.out hb); have HS_W15 := Az.mk (show W14.heap.size ≤ W15.heap.size from hb.size); have HO17_0_ := Az.mk (Kd.S_below HO17_0.out hb); have HO18_0_ := Az.mk (Kd.S_below HO18_0.out hb); have HO20_0_ := Az.mk (Kd.S_below HO20_0.out hb); have HO22_0_ := Az.mk (Kd.S_below HO22_0.out hb); have HO29_0_ := Az.mk (Kd.S_below HO29_0.out hb); have HO55_0_ := Az.mk (Kd.S_below HO55_0.out hb); have HO56_0_ := Az.mk (Kd.S_below HO56_0.out hb); clear HO17_0; have HO17_0 := HO17_0_; clear HO17_0_; clear HO18_0; have HO18_0 := HO18_0_; clear HO18_0_; clear HO20_0; have HO20_0 := HO20_0_; clear HO20_0_; clear HO22_0; have HO22_0 := HO22_0_; clear HO22_0_; clear HO29_0; have HO29_0 := HO29_0_; clear HO29_0_; clear HO55_0; have HO55_0 := HO55_0_; clear HO55_0_; clear HO56_0; have HO56_0 := HO56_0_; clear HO56_0_; clear HB_W14; clear hb) | ((with_reducible refine gtC (f := 12) rfl ?_); refine goesL_ (some 63) rfl rfl Try.func12 (by kernel_rfl) rfl #[.slice A22_0 r11.length c22_0, .int .i64 1] rfl (by (try simp only [List.map_toArray, List.map_cons, List.map_nil]); first | done | rfl) ?_; refine (calls_len ((Kd.S_reads' HO22_0.out).1) (laws_heldIntSS.calls k A22_0 c22_0 (r29) 1 r43 W15 (Kd.S_reads' HO22_0.out).2.2 (Nat.le_trans (Nat.le_of_eq (Kd.S_reads' HO22_0.out).1.symm) (Kd.S_reads' HO22_0.out).2.1) T42.out)).mono ?_; rintro e W16 ⟨rfl, hd⟩; refine ⟨_, rfl, ?_⟩; have hb := Drawn0.below hd; clear hd; have HB_W16 := Az.mk (bwT HB_W15.out hb); have HS_W16 := Az.mk (show W15.heap.size ≤ W16.heap.size from hb.size); have HO17_0_ := Az.mk (Kd.S_below HO17_0.out hb); have HO18_0_ := Az.mk (Kd.S_below HO18_0.out hb); have HO20_0_ := Az.mk (Kd.S_below HO20_0.out hb); have HO22_0_ := Az.mk (Kd.S_below HO22_0.out hb); have HO29_0_ := Az.mk (Kd.S_below HO29_0.out hb); have HO55_0_ := Az.mk (Kd.S_below HO55_0.out hb); have HO56_0_ := Az.mk (Kd.S_below HO56_0.out hb); clear HO17_0; have HO17_0 := HO17_0_; clear HO17_0_; clear HO18_0; have HO18_0 := HO18_0_; clear HO18_0_; clear HO20_0; have HO20_0 := HO20_0_; clear HO20_0_; clear HO22_0; have HO22_0 := HO22_0_; clear HO22_0_; clear HO29_0; have HO29_0 := HO29_0_; clear HO29_0_; clear HO55_0; have HO55_0 := HO55_0_; clear HO55_0_; clear HO56_0; have HO56_0 := HO56_0_; clear HO56_0_; clear HB_W15; clear hb))
                      go_ret
                      exact ⟨rfl, HB_W16.out⟩
                    · rw [if_neg c53] at H; exact absurd H (by simp)
                · rw [if_neg c51] at H; exact absurd H (by simp)
              · rw [if_neg c50] at H; exact absurd H (by simp)
          · rw [if_neg c48] at H; exact absurd H (by simp)
      · rw [if_neg c46] at H; exact absurd H (by simp)
    · rw [if_neg c45] at H; exact absurd H (by simp)
end Go.Proofs.Ytahokioglinpgaa.P

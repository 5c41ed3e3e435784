-- By this session's lawgen.py: the walk of a law in a straight line. Not trusted: Lean checks it.
import Derived.Test.YtolmicnapemljaaPx4
import Derived.Test.YtolmicnapemljaaPx5
import Derived.Test.YtolmicnapemljaaPx16
import Derived.Test.YtolmicnapemljaaPx36
namespace Go.Proofs.Ytolmicnapemljaa.P
open Go.RowKit Go.Proofs.YtolmicnapemljaaW.PrintWords Go.Proofs.YtolmicnapemljaaW.PrintLast Go.Proofs.YtolmicnapemljaaW.PrintMore
set_option linter.unusedVariables false
/-- Blocks from lo on, below hi. -/
def Iv (lo hi : Nat) (k : Nat) : Prop := lo ≤ k ∧ k < hi
section
variable {α : Type} {d : Kd α} {e : Nat} {w Wp W : World} {ok : Nat → Prop} {v : Value} {xs : List α} {a b c f : Nat}
theorem S_iv (h : Kd.S d e W Wp.heap.size ok v xs) (hb : w.heap.size ≤ Wp.heap.size) : Kd.S d e W w.heap.size (Iv Wp.heap.size W.heap.size) v xs := Kd.S_lower (Kd.S_mono (Kd.S_bound h) (fun _ hk => ⟨hk.2.1, hk.2.2.1⟩)) hb
theorem R_iv (h : Kd.R d e W Wp.heap.size ok v xs) (hb : w.heap.size ≤ Wp.heap.size) : Kd.R d e W w.heap.size (Iv Wp.heap.size W.heap.size) v xs := Kd.R_lower (Kd.R_mono (Kd.R_bound h) (fun _ hk => ⟨hk.2.1, hk.2.2.1⟩)) hb
theorem S_off (h : Kd.S d e Wp w.heap.size (Iv a b) v xs) (hk : Kept Wp W (Iv c f)) (hd : b ≤ c ∨ f ≤ a) : Kd.S d e W w.heap.size (Iv a b) v xs := Kd.S_step h (fun k ho hlt => hk.2 k hlt (fun hc => by have h1 := ho.1; have h2 := ho.2; have h3 := hc.1; have h4 := hc.2; omega))
theorem R_off (h : Kd.R d e Wp w.heap.size (Iv a b) v xs) (hk : Kept Wp W (Iv c f)) (hd : b ≤ c ∨ f ≤ a) : Kd.R d e W w.heap.size (Iv a b) v xs := Kd.R_step h (fun k ho hlt => hk.2 k hlt (fun hc => by have h1 := ho.1; have h2 := ho.2; have h3 := hc.1; have h4 := hc.2; omega))
end
theorem calls_len {P : Program} {fn : FuncId} {A : Option Addr} {c n m : Nat} {x : Value} {w : World} {Q : Ending → World → Prop} (h : n = m) (hc : Calls P fn #[.slice A m c, x] w Q) : Calls P fn #[.slice A n c, x] w Q := by
  subst h
  exact hc

def laws_FnExactVertexCurve.f (k : Nat) (l0 : List (List Int)) (a1 : Int) (a2 : Int) : Option Bool := (laws_szIntSS.f k (l0) 1048576).bind fun r2 => (if r2 < 0 then some true else ((laws_toIntSS.f k (l0)).bind fun r5 => ((spec_VertexCurve.f k (r5) a1 a2).bind fun (r7, r8) => ((laws_toIntSS.f k (l0)).bind fun r10 => ((impl_VertexCurve.f k (r10) a1 a2).bind fun (r12, r13) => ((laws_eqIntS.f k (r12) (r7)).bind fun r16 => (if r16 = true then (if r13 = r8 then ((laws_toIntSS.f k (l0)).bind fun r19 => ((laws_eqIntSS.f k (r10) (r19)).bind fun r22 => (if r22 = true then ((laws_markIntSS.f k (r10) 1).bind fun (r24, r25) => (if r24 < 0 then none else ((laws_eqIntS.f k (r12) (r7)).bind fun r28 => (if r28 = true then (if r13 = r8 then ((laws_markIntS.f k (r12) 1).bind fun (r30, r31) => ((laws_heldIntS.f k (r31) 1).bind fun r34 => (if r34 < 0 then none else (if r34 = r30 then ((laws_toIntSS.f k (l0)).bind fun r37 => ((impl_VertexCurve.f k (r37) a1 a2).bind fun (r39, r40) => ((laws_eqIntS.f k (r39) (r7)).bind fun r43 => (if r43 = true then (if r40 = r8 then ((laws_heldIntS.f k (r31) 1).bind fun r46 => (if r46 < 0 then none else (if r46 = r30 then (some true) else none))) else none) else none)))) else none)))) else none) else none)))) else none))) else none) else none)))))))
set_option maxHeartbeats 8000000 in
set_option maxRecDepth 100000 in
theorem laws_FnExactVertexCurve.calls (k : Nat) (A0 : Option Addr) (c0 : Nat) (l0 : List (List Int)) (a1 : Int) (a2 : Int) (r : Bool) (w : World) (hr0 : Kd.C (Kd.slice 3 (Kd.int .i64)) w A0 l0.length l0) (hc0 : l0.length ≤ c0) (h : laws_FnExactVertexCurve.f k l0 a1 a2 = some r) :
    Calls Try.prog 3 #[.slice A0 l0.length c0, .int .i64 a1, .int .i64 a2] w fun e w' => e = .returned (.bool r) ∧ Below w.heap.size w w' := by
  have HR0 := Aside0.mk hr0
  have HC0 := Aside0.mk hc0
  clear hr0 hc0
  have HB_w := Aside0.mk (Below.refl w.heap.size w)
  have H := h
  clear h
  unfold laws_FnExactVertexCurve.f at H
  replace H := Option.bind_eq_some_iff.mp H
  obtain ⟨r2, T1_, H⟩ := H
  have T1 := Aside0.mk T1_
  clear T1_
  try dsimp only at H
  by_cases c47 : r2 < 0
  · rw [if_pos c47] at H
    have c47b := decide_eq_true c47
    clear c47
    obtain rfl := Option.some.inj H
    go_enter Try.func3, Try.ntmps3
    go_wp2_with (first | ((with_reducible refine gate_callee (f := 13) rfl ?_); refine goesL_ (some 20) rfl rfl Try.func13 (by kernel_rfl) rfl #[.slice A0 l0.length c0, .int .i64 1048576] rfl (by (try simp only [List.map_toArray, List.map_cons, List.map_nil]); first | done | rfl) ?_; refine (laws_szIntSS.calls k A0 c0 (l0) 1048576 r2 w (Kd.C_below HR0.out HB_w.out) HC0.out T1.out).mono ?_; rintro e W1 ⟨rfl, hd⟩; refine ⟨_, rfl, ?_⟩; have hb := Drawn0.below hd; clear hd; have HB_W1 := Aside0.mk (below_step HB_w.out hb); have HS_W1 := Aside0.mk (show w.heap.size ≤ W1.heap.size from hb.size); clear hb))
    go_ret
    exact ⟨rfl, HB_W1.out⟩
  · rw [if_neg c47] at H
    have c47b := decide_eq_false c47
    clear c47
    replace H := Option.bind_eq_some_iff.mp H
    obtain ⟨r5, T4_, H⟩ := H
    have T4 := Aside0.mk T4_
    clear T4_
    try dsimp only at H
    replace H := Option.bind_eq_some_iff.mp H
    obtain ⟨⟨r7, r8⟩, T6_, H⟩ := H
    have T6 := Aside0.mk T6_
    clear T6_
    try dsimp only at H
    replace H := Option.bind_eq_some_iff.mp H
    obtain ⟨r10, T9_, H⟩ := H
    have T9 := Aside0.mk T9_
    clear T9_
    try dsimp only at H
    replace H := Option.bind_eq_some_iff.mp H
    obtain ⟨⟨r12, r13⟩, T11_, H⟩ := H
    have T11 := Aside0.mk T11_
    clear T11_
    try dsimp only at H
    replace H := Option.bind_eq_some_iff.mp H
    obtain ⟨r16, T15_, H⟩ := H
    have T15 := Aside0.mk T15_
    clear T15_
    try dsimp only at H
    by_cases c48 : r16 = true
    · rw [if_pos c48] at H
      subst c48
      by_cases c49 : r13 = r8
      · rw [if_pos c49] at H
        subst c49
        replace H := Option.bind_eq_some_iff.mp H
        obtain ⟨r19, T18_, H⟩ := H
        have T18 := Aside0.mk T18_
        clear T18_
        try dsimp only at H
        replace H := Option.bind_eq_some_iff.mp H
        obtain ⟨r22, T21_, H⟩ := H
        have T21 := Aside0.mk T21_
        clear T21_
        try dsimp only at H
        by_cases c50 : r22 = true
        · rw [if_pos c50] at H
          subst c50
          replace H := Option.bind_eq_some_iff.mp H
          obtain ⟨⟨r24, r25⟩, T23_, H⟩ := H
          have T23 := Aside0.mk T23_
          clear T23_
          try dsimp only at H
          by_cases c51 : r24 < 0
          · rw [if_pos c51] at H; exact absurd H (by simp)
          · rw [if_neg c51] at H
            have c51b := decide_eq_false c51
            clear c51
            replace H := Option.bind_eq_some_iff.mp H
            obtain ⟨r28, T27_, H⟩ := H
            have T27 := Aside0.mk T27_
            clear T27_
            try dsimp only at H
            by_cases c52 : r28 = true
            · rw [if_pos c52] at H
              subst c52
              rw [if_pos rfl] at H
              replace H := Option.bind_eq_some_iff.mp H
              obtain ⟨⟨r30, r31⟩, T29_, H⟩ := H
              have T29 := Aside0.mk T29_
              clear T29_
              try dsimp only at H
              replace H := Option.bind_eq_some_iff.mp H
              obtain ⟨r34, T33_, H⟩ := H
              have T33 := Aside0.mk T33_
              clear T33_
              try dsimp only at H
              by_cases c53 : r34 < 0
              · rw [if_pos c53] at H; exact absurd H (by simp)
              · rw [if_neg c53] at H
                have c53b := decide_eq_false c53
                clear c53
                by_cases c54 : r34 = r30
                · rw [if_pos c54] at H
                  subst c54
                  replace H := Option.bind_eq_some_iff.mp H
                  obtain ⟨r37, T36_, H⟩ := H
                  have T36 := Aside0.mk T36_
                  clear T36_
                  try dsimp only at H
                  replace H := Option.bind_eq_some_iff.mp H
                  obtain ⟨⟨r39, r40⟩, T38_, H⟩ := H
                  have T38 := Aside0.mk T38_
                  clear T38_
                  try dsimp only at H
                  replace H := Option.bind_eq_some_iff.mp H
                  obtain ⟨r43, T42_, H⟩ := H
                  have T42 := Aside0.mk T42_
                  clear T42_
                  try dsimp only at H
                  by_cases c55 : r43 = true
                  · rw [if_pos c55] at H
                    subst c55
                    by_cases c56 : r40 = r13
                    · rw [if_pos c56] at H
                      subst c56
                      replace H := Option.bind_eq_some_iff.mp H
                      obtain ⟨r46, T45_, H⟩ := H
                      have T45 := Aside0.mk T45_
                      clear T45_
                      try dsimp only at H
                      by_cases c57 : r46 < 0
                      · rw [if_pos c57] at H; exact absurd H (by simp)
                      · rw [if_neg c57] at H
                        have c57b := decide_eq_false c57
                        clear c57
                        by_cases c58 : r46 = r34
                        · rw [if_pos c58] at H
                          subst c58
                          obtain rfl := Option.some.inj H
                          go_enter Try.func3, Try.ntmps3
                          go_wp2_with (first | ((with_reducible refine gate_callee (f := 13) rfl ?_); refine goesL_ (some 20) rfl rfl Try.func13 (by kernel_rfl) rfl #[.slice A0 l0.length c0, .int .i64 1048576] rfl (by (try simp only [List.map_toArray, List.map_cons, List.map_nil]); first | done | rfl) ?_; refine (laws_szIntSS.calls k A0 c0 (l0) 1048576 r2 w (Kd.C_below HR0.out HB_w.out) HC0.out T1.out).mono ?_; rintro e W1 ⟨rfl, hd⟩; refine ⟨_, rfl, ?_⟩; have hb := Drawn0.below hd; clear hd; have HB_W1 := Aside0.mk (below_step HB_w.out hb); have HS_W1 := Aside0.mk (show w.heap.size ≤ W1.heap.size from hb.size); clear hb) | ((with_reducible refine gate_callee (f := 15) rfl ?_); refine goesL_ (some 25) rfl rfl Try.func15 (by kernel_rfl) rfl #[.slice A0 l0.length c0] rfl (by (try simp only [List.map_toArray, List.map_cons, List.map_nil]); first | done | rfl) ?_; refine (laws_toIntSS.calls k A0 c0 (l0) r5 W1 (Kd.C_below HR0.out HB_W1.out) HC0.out T4.out).mono ?_; rintro e W2 ⟨v25_0, rfl, ho0, hb⟩; refine ⟨_, rfl, ?_⟩; have HO25_0 := Aside0.mk (S_iv (w := w) ho0 HB_W1.out.size); have HB_W2 := Aside0.mk (below_step HB_W1.out hb); have HS_W2 := Aside0.mk (show W1.heap.size ≤ W2.heap.size from hb.size); clear HB_W1; clear hb; clear ho0; obtain ⟨A25_0, c25_0, e_v25_0⟩ := Kd.S_slice HO25_0.out; subst e_v25_0) | ((with_reducible refine gate_callee (f := 14) rfl ?_); refine goesL_ (some 28) rfl rfl Try.func14 (by kernel_rfl) rfl #[.slice A25_0 r5.length c25_0, .int .i64 a1, .int .i64 a2] rfl (by (try simp only [List.map_toArray, List.map_cons, List.map_nil]); first | done | rfl) ?_; refine (spec_VertexCurve.calls k A25_0 c25_0 (r5) a1 a2 r7 r40 W2 (Kd.S_reads' HO25_0.out).2.2 (Nat.le_trans (Nat.le_of_eq (Kd.S_reads' HO25_0.out).1.symm) (Kd.S_reads' HO25_0.out).2.1) T6.out).mono ?_; rintro e W3 ⟨v28_0, rfl, ho0, hb⟩; refine ⟨_, rfl, ?_⟩; have HO28_0 := Aside0.mk (R_iv (w := w) ho0 HB_W2.out.size); have HB_W3 := Aside0.mk (below_step HB_W2.out hb); have HS_W3 := Aside0.mk (show W2.heap.size ≤ W3.heap.size from hb.size); have HO25_0_ := Aside0.mk (Kd.S_below HO25_0.out hb); clear HO25_0; have HO25_0 := HO25_0_; clear HO25_0_; clear HB_W2; clear hb; clear ho0; obtain ⟨A28_0, c28_0, e_v28_0⟩ := Kd.R_slice HO28_0.out; subst e_v28_0) | ((with_reducible refine gate_callee (f := 15) rfl ?_); refine goesL_ (some 32) rfl rfl Try.func15 (by kernel_rfl) rfl #[.slice A0 l0.length c0] rfl (by (try simp only [List.map_toArray, List.map_cons, List.map_nil]); first | done | rfl) ?_; refine (laws_toIntSS.calls k A0 c0 (l0) r10 W3 (Kd.C_below HR0.out HB_W3.out) HC0.out T9.out).mono ?_; rintro e W4 ⟨v32_0, rfl, ho0, hb⟩; refine ⟨_, rfl, ?_⟩; have HO32_0 := Aside0.mk (S_iv (w := w) ho0 HB_W3.out.size); have HB_W4 := Aside0.mk (below_step HB_W3.out hb); have HS_W4 := Aside0.mk (show W3.heap.size ≤ W4.heap.size from hb.size); have HO25_0_ := Aside0.mk (Kd.S_below HO25_0.out hb); have HO28_0_ := Aside0.mk (Kd.R_below HO28_0.out hb); clear HO25_0; have HO25_0 := HO25_0_; clear HO25_0_; clear HO28_0; have HO28_0 := HO28_0_; clear HO28_0_; clear HB_W3; clear hb; clear ho0; obtain ⟨A32_0, c32_0, e_v32_0⟩ := Kd.S_slice HO32_0.out; subst e_v32_0) | ((with_reducible refine gate_callee (f := 16) rfl ?_); refine goesL_ (some 37) rfl rfl Try.func16 (by kernel_rfl) rfl #[.slice A32_0 r10.length c32_0, .int .i64 a1, .int .i64 a2] rfl (by (try simp only [List.map_toArray, List.map_cons, List.map_nil]); first | done | rfl) ?_; refine (impl_VertexCurve.calls k A32_0 c32_0 (r10) a1 a2 r12 r40 W4 (Kd.S_reads' HO32_0.out).2.2 (Nat.le_trans (Nat.le_of_eq (Kd.S_reads' HO32_0.out).1.symm) (Kd.S_reads' HO32_0.out).2.1) T11.out).mono ?_; rintro e W5 ⟨v37_0, rfl, ho0, hb⟩; refine ⟨_, rfl, ?_⟩; have HO37_0 := Aside0.mk (R_iv (w := w) ho0 HB_W4.out.size); have HB_W5 := Aside0.mk (below_step HB_W4.out hb); have HS_W5 := Aside0.mk (show W4.heap.size ≤ W5.heap.size from hb.size); have HO25_0_ := Aside0.mk (Kd.S_below HO25_0.out hb); have HO28_0_ := Aside0.mk (Kd.R_below HO28_0.out hb); have HO32_0_ := Aside0.mk (Kd.S_below HO32_0.out hb); clear HO25_0; have HO25_0 := HO25_0_; clear HO25_0_; clear HO28_0; have HO28_0 := HO28_0_; clear HO28_0_; clear HO32_0; have HO32_0 := HO32_0_; clear HO32_0_; clear HB_W4; clear hb; clear ho0; obtain ⟨A37_0, c37_0, e_v37_0⟩ := Kd.R_slice HO37_0.out; subst e_v37_0) | ((with_reducible refine gate_callee (f := 17) rfl ?_); refine goesL_ (some 42) rfl rfl Try.func17 (by kernel_rfl) rfl #[.slice A37_0 r12.length c37_0, .slice A28_0 r7.length c28_0] rfl (by (try simp only [List.map_toArray, List.map_cons, List.map_nil]); first | done | rfl) ?_; refine (laws_eqIntS.calls k A37_0 c37_0 (r12) A28_0 c28_0 (r7) true W5 (Kd.R_reads' HO37_0.out).2.2 (Nat.le_trans (Nat.le_of_eq (Kd.R_reads' HO37_0.out).1.symm) (Kd.R_reads' HO37_0.out).2.1) (Kd.R_reads' HO28_0.out).2.2 (Nat.le_trans (Nat.le_of_eq (Kd.R_reads' HO28_0.out).1.symm) (Kd.R_reads' HO28_0.out).2.1) T15.out).mono ?_; rintro e W6 ⟨rfl, hd⟩; refine ⟨_, rfl, ?_⟩; have hb := Drawn0.below hd; clear hd; have HB_W6 := Aside0.mk (below_step HB_W5.out hb); have HS_W6 := Aside0.mk (show W5.heap.size ≤ W6.heap.size from hb.size); have HO25_0_ := Aside0.mk (Kd.S_below HO25_0.out hb); have HO28_0_ := Aside0.mk (Kd.R_below HO28_0.out hb); have HO32_0_ := Aside0.mk (Kd.S_below HO32_0.out hb); have HO37_0_ := Aside0.mk (Kd.R_below HO37_0.out hb); clear HO25_0; have HO25_0 := HO25_0_; clear HO25_0_; clear HO28_0; have HO28_0 := HO28_0_; clear HO28_0_; clear HO32_0; have HO32_0 := HO32_0_; clear HO32_0_; clear HO37_0; have HO37_0 := HO37_0_; clear HO37_0_; clear HB_W5; clear hb) | ((with_reducible refine gate_callee (f := 15) rfl ?_); refine goesL_ (some 51) rfl rfl Try.func15 (by kernel_rfl) rfl #[.slice A0 l0.length c0] rfl (by (try simp only [List.map_toArray, List.map_cons, List.map_nil]); first | done | rfl) ?_; refine (laws_toIntSS.calls k A0 c0 (l0) r19 W6 (Kd.C_below HR0.out HB_W6.out) HC0.out T18.out).mono ?_; rintro e W7 ⟨v51_0, rfl, ho0, hb⟩; refine ⟨_, rfl, ?_⟩; have HO51_0 := Aside0.mk (S_iv (w := w) ho0 HB_W6.out.size); have HB_W7 := Aside0.mk (below_step HB_W6.out hb); have HS_W7 := Aside0.mk (show W6.heap.size ≤ W7.heap.size from hb.size); have HO25_0_ := Aside0.mk (Kd.S_below HO25_0.out hb); have HO28_0_ := Aside0.mk (Kd.R_below HO28_0.out hb); have HO32_0_ := Aside0.mk (Kd.S_below HO32_0.out hb); have HO37_0_ := Aside0.mk (Kd.R_below HO37_0.out hb); clear HO25_0; have HO25_0 := HO25_0_; clear HO25_0_; clear HO28_0; have HO28_0 := HO28_0_; clear HO28_0_; clear HO32_0; have HO32_0 := HO32_0_; clear HO32_0_; clear HO37_0; have HO37_0 := HO37_0_; clear HO37_0_; clear HB_W6; clear hb; clear ho0; obtain ⟨A51_0, c51_0, e_v51_0⟩ := Kd.S_slice HO51_0.out; subst e_v51_0) | ((with_reducible refine gate_callee (f := 18) rfl ?_); refine goesL_ (some 52) rfl rfl Try.func18 (by kernel_rfl) rfl #[.slice A32_0 r10.length c32_0, .slice A51_0 r19.length c51_0] rfl (by (try simp only [List.map_toArray, List.map_cons, List.map_nil]); first | done | rfl) ?_; refine (laws_eqIntSS.calls k A32_0 c32_0 (r10) A51_0 c51_0 (r19) true W7 (Kd.S_reads' HO32_0.out).2.2 (Nat.le_trans (Nat.le_of_eq (Kd.S_reads' HO32_0.out).1.symm) (Kd.S_reads' HO32_0.out).2.1) (Kd.S_reads' HO51_0.out).2.2 (Nat.le_trans (Nat.le_of_eq (Kd.S_reads' HO51_0.out).1.symm) (Kd.S_reads' HO51_0.out).2.1) T21.out).mono ?_; rintro e W8 ⟨rfl, hd⟩; refine ⟨_, rfl, ?_⟩; have hb := Drawn0.below hd; clear hd; have HB_W8 := Aside0.mk (below_step HB_W7.out hb); have HS_W8 := Aside0.mk (show W7.heap.size ≤ W8.heap.size from hb.size); have HO25_0_ := Aside0.mk (Kd.S_below HO25_0.out hb); have HO28_0_ := Aside0.mk (Kd.R_below HO28_0.out hb); have HO32_0_ := Aside0.mk (Kd.S_below HO32_0.out hb); have HO37_0_ := Aside0.mk (Kd.R_below HO37_0.out hb); have HO51_0_ := Aside0.mk (Kd.S_below HO51_0.out hb); clear HO25_0; have HO25_0 := HO25_0_; clear HO25_0_; clear HO28_0; have HO28_0 := HO28_0_; clear HO28_0_; clear HO32_0; have HO32_0 := HO32_0_; clear HO32_0_; clear HO37_0; have HO37_0 := HO37_0_; clear HO37_0_; clear HO51_0; have HO51_0 := HO51_0_; clear HO51_0_; clear HB_W7; clear hb) | ((with_reducible refine gate_callee (f := 19) rfl ?_); refine goesL_ (some 56) rfl rfl Try.func19 (by kernel_rfl) rfl #[.slice A32_0 r10.length c32_0, .int .i64 1] rfl (by (try simp only [List.map_toArray, List.map_cons, List.map_nil]); first | done | rfl) ?_; refine (laws_markIntSS.calls k (Iv W3.heap.size W4.heap.size) (.slice A32_0 r10.length c32_0) (r10) 1 r24 r25 w W8 HB_W8.out HO32_0.out T23.out).mono ?_; rintro e W9 ⟨rfl, hy, hb, hk⟩; refine ⟨_, rfl, ?_⟩; have HB_W9 := Aside0.mk hb; have HS_W9 := Aside0.mk (show W8.heap.size ≤ W9.heap.size from hk.1); have HO25_0_ := Aside0.mk (S_off HO25_0.out hk (by have := HS_W1.out; have := HS_W2.out; have := HS_W3.out; have := HS_W4.out; have := HS_W5.out; have := HS_W6.out; have := HS_W7.out; have := HS_W8.out; omega)); have HO28_0_ := Aside0.mk (R_off HO28_0.out hk (by have := HS_W1.out; have := HS_W2.out; have := HS_W3.out; have := HS_W4.out; have := HS_W5.out; have := HS_W6.out; have := HS_W7.out; have := HS_W8.out; omega)); have HO32_0_ := Aside0.mk (hy); have HO37_0_ := Aside0.mk (R_off HO37_0.out hk (by have := HS_W1.out; have := HS_W2.out; have := HS_W3.out; have := HS_W4.out; have := HS_W5.out; have := HS_W6.out; have := HS_W7.out; have := HS_W8.out; omega)); have HO51_0_ := Aside0.mk (S_off HO51_0.out hk (by have := HS_W1.out; have := HS_W2.out; have := HS_W3.out; have := HS_W4.out; have := HS_W5.out; have := HS_W6.out; have := HS_W7.out; have := HS_W8.out; omega)); clear HO25_0; have HO25_0 := HO25_0_; clear HO25_0_; clear HO28_0; have HO28_0 := HO28_0_; clear HO28_0_; clear HO32_0; have HO32_0 := HO32_0_; clear HO32_0_; clear HO37_0; have HO37_0 := HO37_0_; clear HO37_0_; clear HO51_0; have HO51_0 := HO51_0_; clear HO51_0_; clear HB_W8; clear hb hk hy) | (go_at_call 17; refine (laws_eqIntS.calls k A37_0 c37_0 (r12) A28_0 c28_0 (r7) true W9 (Kd.R_reads' HO37_0.out).2.2 (Nat.le_trans (Nat.le_of_eq (Kd.R_reads' HO37_0.out).1.symm) (Kd.R_reads' HO37_0.out).2.1) (Kd.R_reads' HO28_0.out).2.2 (Nat.le_trans (Nat.le_of_eq (Kd.R_reads' HO28_0.out).1.symm) (Kd.R_reads' HO28_0.out).2.1) T27.out).mono ?_; rintro e W10 ⟨rfl, hd⟩; have hb := Drawn0.below hd; clear hd; have HB_W10 := Aside0.mk (below_step HB_W9.out hb); have HS_W10 := Aside0.mk (show W9.heap.size ≤ W10.heap.size from hb.size); have HO25_0_ := Aside0.mk (Kd.S_below HO25_0.out hb); have HO28_0_ := Aside0.mk (Kd.R_below HO28_0.out hb); have HO32_0_ := Aside0.mk (Kd.S_below HO32_0.out hb); have HO37_0_ := Aside0.mk (Kd.R_below HO37_0.out hb); have HO51_0_ := Aside0.mk (Kd.S_below HO51_0.out hb); clear HO25_0; have HO25_0 := HO25_0_; clear HO25_0_; clear HO28_0; have HO28_0 := HO28_0_; clear HO28_0_; clear HO32_0; have HO32_0 := HO32_0_; clear HO32_0_; clear HO37_0; have HO37_0 := HO37_0_; clear HO37_0_; clear HO51_0; have HO51_0 := HO51_0_; clear HO51_0_; clear HB_W9; clear hb) | ((with_reducible refine gate_callee (f := 20) rfl ?_); refine goesL_ (some 72) rfl rfl Try.func20 (by kernel_rfl) rfl #[.slice A37_0 r12.length c37_0, .int .i64 1] rfl (by (try simp only [List.map_toArray, List.map_cons, List.map_nil]); first | done | rfl) ?_; refine (laws_markIntS.calls k (Iv W4.heap.size W5.heap.size) (.slice A37_0 r12.length c37_0) (r12) 1 r46 r31 w W10 HB_W10.out HO37_0.out T29.out).mono ?_; rintro e W11 ⟨rfl, hy, hb, hk⟩; refine ⟨_, rfl, ?_⟩; have HB_W11 := Aside0.mk hb; have HS_W11 := Aside0.mk (show W10.heap.size ≤ W11.heap.size from hk.1); have HO25_0_ := Aside0.mk (S_off HO25_0.out hk (by have := HS_W1.out; have := HS_W2.out; have := HS_W3.out; have := HS_W4.out; have := HS_W5.out; have := HS_W6.out; have := HS_W7.out; have := HS_W8.out; have := HS_W9.out; have := HS_W10.out; omega)); have HO28_0_ := Aside0.mk (R_off HO28_0.out hk (by have := HS_W1.out; have := HS_W2.out; have := HS_W3.out; have := HS_W4.out; have := HS_W5.out; have := HS_W6.out; have := HS_W7.out; have := HS_W8.out; have := HS_W9.out; have := HS_W10.out; omega)); have HO32_0_ := Aside0.mk (S_off HO32_0.out hk (by have := HS_W1.out; have := HS_W2.out; have := HS_W3.out; have := HS_W4.out; have := HS_W5.out; have := HS_W6.out; have := HS_W7.out; have := HS_W8.out; have := HS_W9.out; have := HS_W10.out; omega)); have HO37_0_ := Aside0.mk (Kd.R_reok rfl hy (fun k_ e_ => HO37_0.out.1 k_ e_)); have HO51_0_ := Aside0.mk (S_off HO51_0.out hk (by have := HS_W1.out; have := HS_W2.out; have := HS_W3.out; have := HS_W4.out; have := HS_W5.out; have := HS_W6.out; have := HS_W7.out; have := HS_W8.out; have := HS_W9.out; have := HS_W10.out; omega)); clear HO25_0; have HO25_0 := HO25_0_; clear HO25_0_; clear HO28_0; have HO28_0 := HO28_0_; clear HO28_0_; clear HO32_0; have HO32_0 := HO32_0_; clear HO32_0_; clear HO37_0; have HO37_0 := HO37_0_; clear HO37_0_; clear HO51_0; have HO51_0 := HO51_0_; clear HO51_0_; clear HB_W10; clear hb hk hy) | ((with_reducible refine gate_callee (f := 21) rfl ?_); refine goesL_ (some 75) rfl rfl Try.func21 (by kernel_rfl) rfl #[.slice A37_0 r12.length c37_0, .int .i64 1] rfl (by (try simp only [List.map_toArray, List.map_cons, List.map_nil]); first | done | rfl) ?_; refine (calls_len ((Kd.R_reads' HO37_0.out).1) (laws_heldIntS.calls k A37_0 c37_0 (r31) 1 r46 W11 (Kd.R_reads' HO37_0.out).2.2 (Nat.le_trans (Nat.le_of_eq (Kd.R_reads' HO37_0.out).1.symm) (Kd.R_reads' HO37_0.out).2.1) T33.out)).mono ?_; rintro e W12 ⟨rfl, hd⟩; refine ⟨_, rfl, ?_⟩; have hb := Drawn0.below hd; clear hd; have HB_W12 := Aside0.mk (below_step HB_W11.out hb); have HS_W12 := Aside0.mk (show W11.heap.size ≤ W12.heap.size from hb.size); have HO25_0_ := Aside0.mk (Kd.S_below HO25_0.out hb); have HO28_0_ := Aside0.mk (Kd.R_below HO28_0.out hb); have HO32_0_ := Aside0.mk (Kd.S_below HO32_0.out hb); have HO37_0_ := Aside0.mk (Kd.R_below HO37_0.out hb); have HO51_0_ := Aside0.mk (Kd.S_below HO51_0.out hb); clear HO25_0; have HO25_0 := HO25_0_; clear HO25_0_; clear HO28_0; have HO28_0 := HO28_0_; clear HO28_0_; clear HO32_0; have HO32_0 := HO32_0_; clear HO32_0_; clear HO37_0; have HO37_0 := HO37_0_; clear HO37_0_; clear HO51_0; have HO51_0 := HO51_0_; clear HO51_0_; clear HB_W11; clear hb) | ((with_reducible refine gate_callee (f := 15) rfl ?_); refine goesL_ (some 83) rfl rfl Try.func15 (by kernel_rfl) rfl #[.slice A0 l0.length c0] rfl (by (try simp only [List.map_toArray, List.map_cons, List.map_nil]); first | done | rfl) ?_; refine (laws_toIntSS.calls k A0 c0 (l0) r37 W12 (Kd.C_below HR0.out HB_W12.out) HC0.out T36.out).mono ?_; rintro e W13 ⟨v83_0, rfl, ho0, hb⟩; refine ⟨_, rfl, ?_⟩; have HO83_0 := Aside0.mk (S_iv (w := w) ho0 HB_W12.out.size); have HB_W13 := Aside0.mk (below_step HB_W12.out hb); have HS_W13 := Aside0.mk (show W12.heap.size ≤ W13.heap.size from hb.size); have HO25_0_ := Aside0.mk (Kd.S_below HO25_0.out hb); have HO28_0_ := Aside0.mk (Kd.R_below HO28_0.out hb); have HO32_0_ := Aside0.mk (Kd.S_below HO32_0.out hb); have HO37_0_ := Aside0.mk (Kd.R_below HO37_0.out hb); have HO51_0_ := Aside0.mk (Kd.S_below HO51_0.out hb); clear HO25_0; have HO25_0 := HO25_0_; clear HO25_0_; clear HO28_0; have HO28_0 := HO28_0_; clear HO28_0_; clear HO32_0; have HO32_0 := HO32_0_; clear HO32_0_; clear HO37_0; have HO37_0 := HO37_0_; clear HO37_0_; clear HO51_0; have HO51_0 := HO51_0_; clear HO51_0_; clear HB_W12; clear hb; clear ho0; obtain ⟨A83_0, c83_0, e_v83_0⟩ := Kd.S_slice HO83_0.out; subst e_v83_0) | ((with_reducible refine gate_callee (f := 16) rfl ?_); refine goesL_ (some 86) rfl rfl Try.func16 (by kernel_rfl) rfl #[.slice A83_0 r37.length c83_0, .int .i64 a1, .int .i64 a2] rfl (by (try simp only [List.map_toArray, List.map_cons, List.map_nil]); first | done | rfl) ?_; refine (impl_VertexCurve.calls k A83_0 c83_0 (r37) a1 a2 r39 r40 W13 (Kd.S_reads' HO83_0.out).2.2 (Nat.le_trans (Nat.le_of_eq (Kd.S_reads' HO83_0.out).1.symm) (Kd.S_reads' HO83_0.out).2.1) T38.out).mono ?_; rintro e W14 ⟨v86_0, rfl, ho0, hb⟩; refine ⟨_, rfl, ?_⟩; have HO86_0 := Aside0.mk (R_iv (w := w) ho0 HB_W13.out.size); have HB_W14 := Aside0.mk (below_step HB_W13.out hb); have HS_W14 := Aside0.mk (show W13.heap.size ≤ W14.heap.size from hb.size); have HO25_0_ := Aside0.mk (Kd.S_below HO25_0.out hb); have HO28_0_ := Aside0.mk (Kd.R_below HO28_0.out hb); have HO32_0_ := Aside0.mk (Kd.S_below HO32_0.out hb); have HO37_0_ := Aside0.mk (Kd.R_below HO37_0.out hb); have HO51_0_ := Aside0.mk (Kd.S_below HO51_0.out hb); have HO83_0_ := Aside0.mk (Kd.S_below HO83_0.out hb); clear HO25_0; have HO25_0 := HO25_0_; clear HO25_0_; clear HO28_0; have HO28_0 := HO28_0_; clear HO28_0_; clear HO32_0; have HO32_0 := HO32_0_; clear HO32_0_; clear HO37_0; have HO37_0 := HO37_0_; clear HO37_0_; clear HO51_0; have HO51_0 := HO51_0_; clear HO51_0_; clear HO83_0; have HO83_0 := HO83_0_; clear HO83_0_; clear HB_W13; clear hb; clear ho0; obtain ⟨A86_0, c86_0, e_v86_0⟩ := Kd.R_slice HO86_0.out; subst e_v86_0) | ((with_reducible refine gate_callee (f := 17) rfl ?_); refine goesL_ (some 91) rfl rfl Try.func17 (by kernel_rfl) rfl #[.slice A86_0 r39.length c86_0, .slice A28_0 r7.length c28_0] rfl (by (try simp only [List.map_toArray, List.map_cons, List.map_nil]); first | done | rfl) ?_; refine (laws_eqIntS.calls k A86_0 c86_0 (r39) A28_0 c28_0 (r7) true W14 (Kd.R_reads' HO86_0.out).2.2 (Nat.le_trans (Nat.le_of_eq (Kd.R_reads' HO86_0.out).1.symm) (Kd.R_reads' HO86_0.out).2.1) (Kd.R_reads' HO28_0.out).2.2 (Nat.le_trans (Nat.le_of_eq (Kd.R_reads' HO28_0.out).1.symm) (Kd.R_reads' HO28_0.out).2.1) T42.out).mono ?_; rintro e W15 ⟨rfl, hd⟩; refine ⟨_, rfl, ?_⟩; have hb := Drawn0.below hd; clear hd; have HB_W15 := Aside0.mk (below_step HB_W14.out hb); have HS_W15 := Aside0.mk (show W14.heap.size ≤ W15.heap.size from hb.size); have HO25_0_ := Aside0.mk (Kd.S_below HO25_0.out hb); have HO28_0_ := Aside0.mk (Kd.R_below HO28_0.out hb); have HO32_0_ := Aside0.mk (Kd.S_below HO32_0.out hb); have HO37_0_ := Aside0.mk (Kd.R_below HO37_0.out hb); have HO51_0_ := Aside0.mk (Kd.S_below HO51_0.out hb); have HO83_0_ := Aside0.mk (Kd.S_below HO83_0.out hb); have HO86_0_ := Aside0.mk (Kd.R_below HO86_0.out hb); clear HO25_0; have HO25_0 := HO25_0_; clear HO25_0_; clear HO28_0; have HO28_0 := HO28_0_; clear HO28_0_; clear HO32_0; have HO32_0 := HO32_0_; clear HO32_0_; clear HO37_0; have HO37_0 := HO37_0_; clear HO37_0_; clear HO51_0; have HO51_0 := HO51_0_; clear HO51_0_; clear HO83_0; have HO83_0 := HO83_0_; clear HO83_0_; clear HO86_0; have HO86_0 := HO86_0_; clear HO86_0_; clear HB_W14; clear hb) | ((with_reducible refine gate_callee (f := 21) rfl ?_); refine goesL_ (some 100) rfl rfl Try.func21 (by kernel_rfl) rfl #[.slice A37_0 r12.length c37_0, .int .i64 1] rfl (by (try simp only [List.map_toArray, List.map_cons, List.map_nil]); first | done | rfl) ?_; refine (calls_len ((Kd.R_reads' HO37_0.out).1) (laws_heldIntS.calls k A37_0 c37_0 (r31) 1 r46 W15 (Kd.R_reads' HO37_0.out).2.2 (Nat.le_trans (Nat.le_of_eq (Kd.R_reads' HO37_0.out).1.symm) (Kd.R_reads' HO37_0.out).2.1) T45.out)).mono ?_; rintro e W16 ⟨rfl, hd⟩; refine ⟨_, rfl, ?_⟩; have hb := Drawn0.below hd; clear hd; have HB_W16 := Aside0.mk (below_step HB_W15.out hb); have HS_W16 := Aside0.mk (show W15.heap.size ≤ W16.heap.size from hb.size); have HO25_0_ := Aside0.mk (Kd.S_below HO25_0.out hb); have HO28_0_ := Aside0.mk (Kd.R_below HO28_0.out hb); have HO32_0_ := Aside0.mk (Kd.S_below HO32_0.out hb); have HO37_0_ := Aside0.mk (Kd.R_below HO37_0.out hb); have HO51_0_ := Aside0.mk (Kd.S_below HO51_0.out hb); have HO83_0_ := Aside0.mk (Kd.S_below HO83_0.out hb); have HO86_0_ := Aside0.mk (Kd.R_below HO86_0.out hb); clear HO25_0; have HO25_0 := HO25_0_; clear HO25_0_; clear HO28_0; have HO28_0 := HO28_0_; clear HO28_0_; clear HO32_0; have HO32_0 := HO32_0_; clear HO32_0_; clear HO37_0; have HO37_0 := HO37_0_; clear HO37_0_; clear HO51_0; have HO51_0 := HO51_0_; clear HO51_0_; clear HO83_0; have HO83_0 := HO83_0_; clear HO83_0_; clear HO86_0; have HO86_0 := HO86_0_; clear HO86_0_; clear HB_W15; clear hb))
                          go_ret
                          exact ⟨rfl, HB_W16.out⟩
                        · rw [if_neg c58] at H; exact absurd H (by simp)
                    · rw [if_neg c56] at H; exact absurd H (by simp)
                  · rw [if_neg c55] at H; exact absurd H (by simp)
                · rw [if_neg c54] at H; exact absurd H (by simp)
            · rw [if_neg c52] at H; exact absurd H (by simp)
        · rw [if_neg c50] at H; exact absurd H (by simp)
      · rw [if_neg c49] at H; exact absurd H (by simp)
    · rw [if_neg c48] at H; exact absurd H (by simp)
end Go.Proofs.Ytolmicnapemljaa.P

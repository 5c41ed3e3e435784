-- By this session's driver (wip/tools/mk.py) of the kit's print program, over several statements at once. Not trusted: Lean checks it.
import Derived.Test.YtcligopbieaceaaPx0
import Derived.Test.YtcligopbieaceaaPx1
import Derived.Test.YtcligopbieaceaaPx4
import Derived.Test.YtcligopbieaceaaPx12
import Derived.Test.YtcligopbieaceaaPx19
namespace Go.Proofs.Ytcligopbieaceaa.P
open Go.RowKit Go.Proofs.YtcligopbieaceaaW.PrintWords Go.Proofs.YtcligopbieaceaaW.PrintLast Go.Proofs.YtcligopbieaceaaW.PrintMore
attribute [local go_sem] max2_int min2_int max_two min_two max_three min_three max_four min_four   -- for this text's walks alone
set_option linter.unusedVariables false
set_option linter.unusedSimpArgs false

/-! ### impl_ReverseEdge: function 39 -/
theorem impl_size_same (a0 : Int) (r : Int) (w : World) (h : impl_size.f a0 = some r) :
    Calls Try.prog 56 #[.int .i64 a0] w fun e w' => e = .returned (.int .i64 r) ∧ w' = w := by
  have H : (some (mx a0 (wrap64 (-a0)))) = some r := h
  clear h
  obtain ⟨ji2, hji2⟩ : ∃ j_ : Int, (mx a0 (wrap64 (-a0))) = j_ := ⟨_, rfl⟩
  replace H : (some ji2) = some r := by first | (rw [hji2] at H; exact H) | (simp only [hji2] at H ⊢; exact H)
  have hji2_ : (if a0 < (wrap64 (-a0)) then (wrap64 (-a0)) else a0) = ji2 := hji2
  obtain rfl := Option.some.inj H
  go_enter Try.func56, Try.ntmps56
  go_wp2
  go_ret
  exact ⟨by first | rfl | (simp [errW_none, errW_some] <;> rfl) | (simp only [← hji2]; first | rfl | (simp [errW_none, errW_some] <;> rfl)) | (simp [*, errW_none, errW_some] <;> rfl), rfl⟩
mutual
def impl_ReverseEdge.l0 : Nat → List (List Int) → Int → Int → Option (List (List Int) × Bool)
  | 0, _, _, _ => none
  | k + 1, x0, e, i => if i < (x0.length : Int) then (if 0 ≤ i then (impl_ReverseEdge.l1 k x0 (rd_L1 x0 i) e i 0) else none) else (some (x0, true))
def impl_ReverseEdge.l1 : Nat → List (List Int) → List Int → Int → Int → Int → Option (List (List Int) × Bool)
  | 0, _, _, _, _, _ => none
  | k + 1, x0, row, e, i, j => if j < (row.length : Int) then (if 0 ≤ j then ((impl_size.f (rd row j)).bind fun s => (if s = e then (impl_ReverseEdge.l1 k x0 (row.set j.toNat (wrap64 (-(rd row j)))) e i (wrap64 (j + 1))) else (impl_ReverseEdge.l1 k x0 row e i (wrap64 (j + 1))))) else none) else (impl_ReverseEdge.l0 k (x0.set i.toNat row) e (wrap64 (i + 1)))
end
def impl_ReverseEdge.f (k : Nat) (l0 : List (List Int)) (a1 : Int) : Option (List (List Int) × Bool) := (impl_IsTriangulation.f k l0).bind fun t1 => (if t1 = true then ((impl_within.f a1 1 (wrap64 (Int.tdiv (wrap64 (3 * (l0.length : Int))) 2))).bind fun t2 => (if t2 = true then ((impl_copyRows.f k l0).bind fun x0 => (impl_ReverseEdge.l0 k x0 a1 0)) else (some (([] : List (List Int)), false)))) else (some (([] : List (List Int)), false)))
theorem impl_ReverseEdge.mono_l : ∀ k, (∀ y0 y1 y2, LeO (impl_ReverseEdge.l0 k y0 y1 y2) (impl_ReverseEdge.l0 (k + 1) y0 y1 y2)) ∧ (∀ y0 y1 y2 y3 y4, LeO (impl_ReverseEdge.l1 k y0 y1 y2 y3 y4) (impl_ReverseEdge.l1 (k + 1) y0 y1 y2 y3 y4))
  | 0 => ⟨fun _ _ _ r h => by simp [impl_ReverseEdge.l0] at h, fun _ _ _ _ _ r h => by simp [impl_ReverseEdge.l1] at h⟩
  | k + 1 => by
    obtain ⟨ih0, ih1⟩ := impl_ReverseEdge.mono_l k
    refine ⟨?_, ?_⟩
    · intro y0 y1 y2
      unfold impl_ReverseEdge.l0
      repeat' first
      | (with_reducible exact ih0 _ _ _)
      | (with_reducible exact ih1 _ _ _ _ _)
      | (with_reducible exact LeO.refl _)
      | (with_reducible exact LeO.none _)
      | (with_reducible refine LeO.ite ?_ ?_)
      | (with_reducible refine LeO.bind ?_ (fun _ => ?_))
    · intro y0 y1 y2 y3 y4
      unfold impl_ReverseEdge.l1
      repeat' first
      | (with_reducible exact ih0 _ _ _)
      | (with_reducible exact ih1 _ _ _ _ _)
      | (with_reducible exact LeO.refl _)
      | (with_reducible exact LeO.none _)
      | (with_reducible refine LeO.ite ?_ ?_)
      | (with_reducible refine LeO.bind ?_ (fun _ => ?_))
theorem impl_ReverseEdge.mono : ∀ a0 a1 k, LeO (impl_ReverseEdge.f k a0 a1) (impl_ReverseEdge.f (k + 1) a0 a1) := by
  intro a0 a1 k
  obtain ⟨ih0, ih1⟩ := impl_ReverseEdge.mono_l k
  unfold impl_ReverseEdge.f
  repeat' first
      | (with_reducible exact ih0 _ _ _)
      | (with_reducible exact impl_IsTriangulation.mono _ _)
      | (with_reducible exact impl_copyRows.mono _ _)
      | (with_reducible exact LeO.refl _)
      | (with_reducible exact LeO.none _)
      | (with_reducible refine LeO.ite ?_ ?_)
      | (with_reducible refine LeO.bind ?_ (fun _ => ?_))
set_option maxHeartbeats 8000000 in
set_option maxRecDepth 100000 in
theorem impl_ReverseEdge.calls (k : Nat) (A0 : Option Addr) (c0 : Nat) (l0 : List (List Int)) (a1 : Int) (r1 : List (List Int)) (r2 : Bool) (w : World) (hr0 : Kd.C (Kd.slice 3 (Kd.int .i64)) w A0 l0.length l0) (hc0 : l0.length ≤ c0) (h : impl_ReverseEdge.f k l0 a1 = some (r1, r2)) :
    Calls Try.prog 39 #[.slice A0 l0.length c0, .int .i64 a1] w fun e w' => ∃ v0_ : Value, e = .returned (.tuple #[v0_, .bool r2]) ∧ Kd.S (Kd.slice 3 (Kd.int .i64)) 22 w' w.heap.size (fun _ => True) v0_ r1 ∧ Below w.heap.size w w' := by
  have HR0 := Aside0.mk hr0
  have HC0 := Aside0.mk hc0
  clear hr0 hc0
  unfold impl_ReverseEdge.f at h
  obtain ⟨t1, T1, h⟩ := Option.bind_eq_some_iff.mp h
  have T1 := Aside0.mk T1
  by_cases c1 : t1 = true
  · subst c1
    rw [if_pos rfl] at h
    obtain ⟨t2, T2, h⟩ := Option.bind_eq_some_iff.mp h
    have T2 := Aside0.mk T2
    by_cases c2 : t2 = true
    · subst c2
      rw [if_pos rfl] at h
      obtain ⟨x0, T3, h⟩ := Option.bind_eq_some_iff.mp h
      have T3 := Aside0.mk T3
      have H' := Aside0.mk h
      clear h
      go_enter Try.func39, Try.ntmps39
      go_wp2_with (first
        | (go_at_call 26; refine (impl_IsTriangulation.calls k A0 c0 l0 true w HR0.out HC0.out T1.out).mono ?_; rintro e W1 ⟨rfl, hb1⟩; have HB1 := Aside0.mk hb1; clear hb1)
        | (go_at_call 51; refine (impl_within.calls a1 1 _ true W1 T2.out).mono ?_; rintro e w' ⟨rfl, ⟨nd, rfl⟩⟩)
        | (go_at_call 62; refine (impl_copyRows.calls k A0 c0 l0 x0 _ (Kd.C_drewN (Kd.C_below HR0.out HB1.out) _) HC0.out T3.out).mono ?_; rintro e W2 ⟨v, rfl, ho, hb2⟩; have HO := Aside0.mk (Kd.S_lower (base' := w.heap.size) ho (pw_below_drewN HB1.out nd).size); have HB := Aside0.mk (below_step (pw_below_drewN HB1.out nd) hb2); clear ho hb2; obtain ⟨AV, cV, eV⟩ := Kd.S_slice HO.out; subst eV))
      clear T1 T2 T3
      go_loopg [27] k (fun kq v1 w' => ∃ (x0_1 : List (List Int)) (i_1 : Int), v1 = .int .i64 i_1 ∧ Aside0 (impl_ReverseEdge.l0 kq x0_1 a1 i_1 = some (r1, r2)) ∧ Aside0 (kq ≤ k) ∧ Aside0 (Kd.S (Kd.slice 3 (Kd.int .i64)) 22 w' w.heap.size (fun _ => True) (.slice AV x0.length cV) x0_1) ∧ Aside0 (Below w.heap.size w w'))
      case atStart => exact ⟨x0, 0, rfl, H', ⟨Nat.le_refl _⟩, HO, HB⟩
      case round =>
        clear H' HO HB
        obtain ⟨x0_1, i_1, rfl, HA, HK1, HO, HB⟩ := hrel
        cases gk with
        | zero => exact absurd HA.out (by simp [impl_ReverseEdge.l0])
        | succ k1 =>
          have H := HA.out
          clear HA
          simp only [impl_ReverseEdge.l0] at H
          have HL := Aside0.mk (Kd.S_reads' HO.out).1
          rw [← HL.out] at H
          by_cases c3 : i_1 < (x0.length : Int)
          · rw [if_pos c3] at H
            by_cases c4 : 0 ≤ i_1
            · rw [if_pos c4] at H
              have H' := Aside0.mk H
              clear H
              obtain ⟨g, cap, eg, hg1, hg2, cells, hg3⟩ := Kd.S_form HO.out (by have := HL.out; omega)
              injection eg with ea en ec
              clear en
              subst ea
              subst ec
              obtain ⟨oki, cs, hcl, hM, hcc, hfr, hoki, hH⟩ := Kd.S_elem HO.out [] i_1 c4 c3
              obtain ⟨ve, rfl, ge⟩ := hM
              have hx := hcc 0 _ rfl
              simp only [show ((Kd.slice 3 (Kd.int .i64))).sz = 1 from rfl, Nat.mul_one, Nat.add_zero] at hx
              have c3b := decide_eq_true c3
              obtain ⟨row0, e0⟩ : ∃ r_ : List Int, rd_L1 x0_1 i_1 = r_ := ⟨_, rfl⟩
              replace ge : Kd.R (Kd.int .i64) 3 wr w.heap.size oki ve row0 := by rw [← e0]; exact ge
              have H'' := Aside0.mk (show impl_ReverseEdge.l1 k1 x0_1 row0 a1 i_1 0 = some (r1, r2) from by rw [← e0]; exact H'.out)
              clear H' e0
              have H' := H''
              clear H''
              have HG := Aside0.mk ge
              have HH := Aside0.mk hH
              have HI := Aside0.mk hoki
              clear ge hH hoki hfr hcc hcl hg3 cells
              obtain ⟨AR, cR, eR⟩ := Kd.R_slice HG.out
              subst eR
              replace c3 := eq_true c3
              replace c4 := eq_true c4
              go_wp2
              go_loopg [33] k1 (fun kq v1 w' => ∃ (row_1 : List Int) (j_1 : Int), v1 = .int .i64 j_1 ∧ Aside0 (impl_ReverseEdge.l1 kq x0_1 row_1 a1 i_1 j_1 = some (r1, r2)) ∧ Aside0 (kq ≤ k1) ∧ Aside0 (Kd.R (Kd.int .i64) 3 w' w.heap.size oki (.slice AR row0.length cR) row_1) ∧ Aside0 (Kd.H (Kd.slice 3 (Kd.int .i64)) 22 w' w.heap.size (fun _ => True) (.slice (some ⟨g, 0, none⟩) x0.length cV) x0_1 i_1 oki [.slice AR row0.length cR]) ∧ Aside0 (Below w.heap.size w w'))
              case atStart => exact ⟨row0, 0, rfl, H', ⟨Nat.le_refl _⟩, HG, HH, HB⟩
              case round =>
                clear H' HG HH HB HO hx
                obtain ⟨row_1, j_1, rfl, HA, HK2, HG, HH, HB⟩ := hrel
                cases gk with
                | zero => exact absurd HA.out (by simp [impl_ReverseEdge.l1])
                | succ k2 =>
                  have H := HA.out
                  clear HA
                  simp only [impl_ReverseEdge.l1] at H
                  have HL2 := Aside0.mk (Kd.R_reads' HG.out).1
                  rw [← HL2.out] at H
                  by_cases d3 : j_1 < (row0.length : Int)
                  · rw [if_pos d3] at H
                    by_cases d4 : 0 ≤ j_1
                    · rw [if_pos d4] at H
                      obtain ⟨s, T4, H⟩ := Option.bind_eq_some_iff.mp H
                      have T4 := Aside0.mk T4
                      obtain ⟨gr, cap2, eg, hgb, _, cells, hg3⟩ := Kd.R_form HG.out (by have := HL2.out; omega)
                      have GB := Aside0.mk hgb
                      clear hgb
                      injection eg with ea en ec
                      clear en
                      subst ea
                      subst ec
                      obtain ⟨hx, hf⟩ := Kd.R_celln 0 HG.out j_1 d4 d3
                      replace hx : wr.cell? ⟨gr, j_1.toNat, none⟩ = some (.int .i64 (rd row_1 j_1)) := hx
                      clear hg3 cells
                      have d3b := decide_eq_true d3
                      replace d3 := eq_true d3
                      replace d4 := eq_true d4
                      by_cases c5 : s = a1
                      · rw [if_pos c5] at H
                        have c5b : (s == a1) = true := beq_iff_eq.mpr c5
                        clear c5
                        have H' := Aside0.mk H
                        clear H
                        go_wp2_with (first | (go_at_call 56; refine (impl_size_same (rd row_1 j_1) s _ T4.out).mono ?_; rintro e w' ⟨rfl, rfl⟩))
                        go_roundg k2
                        case measure => have := HK1.out; have := HK2.out; omega
                        case rel =>
                          have HP := Kd.R_putg HG.out j_1 (wrap64 (-(rd row_1 j_1)))
                          exact ⟨row_1.set j_1.toNat (wrap64 (-(rd row_1 j_1))), (wrap64 (j_1 + 1)), rfl, H', ⟨by have := HK1.out; have := HK2.out; omega⟩, ⟨HP.1⟩, ⟨Kd.H_step HH.out (fun k_ _ hn hlt => HP.2.block k_ hlt (fun e_ => hn (by injection e_ with e_; rw [e_]; exact HG.out.1 gr rfl)))⟩, ⟨below_set HB.out GB.out⟩⟩
                      · rw [if_neg c5] at H
                        have c5b : (s == a1) = false := beq_eq_false_iff_ne.mpr c5
                        clear c5
                        have H' := Aside0.mk H
                        clear H
                        go_wp2_with (first | (go_at_call 56; refine (impl_size_same (rd row_1 j_1) s _ T4.out).mono ?_; rintro e w' ⟨rfl, rfl⟩))
                        go_roundg k2
                        case measure => have := HK1.out; have := HK2.out; omega
                        case rel => exact ⟨row_1, (wrap64 (j_1 + 1)), rfl, H', ⟨by have := HK1.out; have := HK2.out; omega⟩, HG, HH, HB⟩
                    · rw [if_neg d4] at H
                      exact absurd H (by simp)
                  · rw [if_neg d3] at H
                    have d3b : decide (j_1 < (row0.length : Int)) = false := decide_eq_false d3
                    clear d3
                    have H' := Aside0.mk H
                    clear H
                    go_wp2
                    go_roundg k2
                    case measure => have := HK1.out; have := HK2.out; omega
                    case rel => exact ⟨x0_1.set i_1.toNat row_1, (wrap64 (i_1 + 1)), rfl, H', ⟨by have := HK1.out; have := HK2.out; omega⟩, ⟨Kd.H_back HH.out (Kd.M_row HG.out) (fun _ hk_ => hk_)⟩, HB⟩
            · rw [if_neg c4] at H
              exact absurd H (by simp)
          · rw [if_neg c3] at H
            have c3b : decide (i_1 < (x0.length : Int)) = false := decide_eq_false c3
            clear c3
            obtain ⟨rfl, rfl⟩ := Prod.mk.injEq .. ▸ Option.some.inj H
            go_wp2
            go_ret2
            exact ⟨_, rfl, HO.out, HB.out⟩
    · rw [if_neg c2] at h
      obtain ⟨rfl, rfl⟩ := Prod.mk.injEq .. ▸ Option.some.inj h
      replace c2 := Bool.eq_false_iff.mpr c2
      subst c2
      go_enter Try.func39, Try.ntmps39
      go_wp2_with (first
        | (go_at_call 26; refine (impl_IsTriangulation.calls k A0 c0 l0 true w HR0.out HC0.out T1.out).mono ?_; rintro e W1 ⟨rfl, hb1⟩; have HB1 := Aside0.mk hb1; clear hb1)
        | (go_at_call 51; refine (impl_within.calls a1 1 _ false W1 T2.out).mono ?_; rintro e w' ⟨rfl, ⟨nd, rfl⟩⟩))
      go_ret2
      exact ⟨_, rfl, Kd.S_nil _ _ _ _ _, pw_below_drewN HB1.out nd⟩
  · rw [if_neg c1] at h
    obtain ⟨rfl, rfl⟩ := Prod.mk.injEq .. ▸ Option.some.inj h
    replace c1 := Bool.eq_false_iff.mpr c1
    subst c1
    go_enter Try.func39, Try.ntmps39
    go_wp2_with (first
      | (go_at_call 26; refine (impl_IsTriangulation.calls k A0 c0 l0 false w HR0.out HC0.out T1.out).mono ?_; rintro e W1 ⟨rfl, hb1⟩; have HB1 := Aside0.mk hb1; clear hb1))
    go_ret2
    exact ⟨_, rfl, Kd.S_nil _ _ _ _ _, HB1.out⟩

-- NOT PRINTED: function 10 (laws_FnExactReverseEdge)

end Go.Proofs.Ytcligopbieaceaa.P

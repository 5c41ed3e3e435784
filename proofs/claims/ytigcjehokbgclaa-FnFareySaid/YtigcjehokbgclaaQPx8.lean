-- By this session's driver (wip/tools/mk.py) of the kit's print program, over several statements at once. Not trusted: Lean checks it.
import Derived.Test.YtigcjehokbgclaaQWZip
import Derived.Test.YtigcjehokbgclaaQPx0
import Derived.Test.YtigcjehokbgclaaQPx7
namespace Go.Proofs.Ytigcjehokbgclaa.P
open Go.RowKit Go.Proofs.YtigcjehokbgclaaW.PrintWords Go.Proofs.YtigcjehokbgclaaW.PrintLast Go.Proofs.YtigcjehokbgclaaW.PrintMore
attribute [local go_sem] max2_int min2_int max_two min_two max_three min_three max_four min_four   -- for this text's walks alone
set_option linter.unusedVariables false
set_option linter.unusedSimpArgs false
theorem bw_8 {n : Nat} {v v' : World} (h : Below n v v' := by repeat (first | (with_reducible first | exact HB.out | apply bwA | apply pbN | apply bwD | refine bwS ?_ GE230.out | refine bwS ?_ GE231.out) | exact HB.out)) : Below n v v' := h
theorem ln_8 {P : Prop} (h : P := by (try simp only [List.map_toArray, List.map_cons, List.map_nil]); first | done | rfl | (simp only [List.length_drop, List.length_take]; rfl)) : P := h
open Option renaming bind_eq_some_iff → be

/-! ### impl_between: function 28 -/
theorem fy_u : Try.prog.underlying 76 = some (.array 2 3) := by kernel_rfl
theorem fy_u3 : Try.prog.underlying 3 = some (.int .i64) := by kernel_rfl
theorem fy_kt : Try.prog.keyType 76 = true := by kernel_rfl
theorem fy_n : 0 < Try.prog.types.size := of_decide_eq_true (by kernel_rfl)
theorem fy_c : Try.prog.cellsOf 3 = 1 := by kernel_rfl
theorem fy_c2 : Try.prog.cellsOf 76 = 2 := by kernel_rfl
theorem fy_l1 (d : Nat) (x : Int) (h : (Lit.int .i64 x).wf = true) : Try.prog.keyLits (d + 1) 3 [.int .i64 x] = some [.int .i64 x] := by
 unfold Program.keyLits
 simp only [fy_u3, h, and_self, if_true]
theorem fy_l2 (d : Nat) (q r : Int) (h1 : (Lit.int .i64 q).wf = true) (h2 : (Lit.int .i64 r).wf = true) : Try.prog.keyLits (d + 1 + 1) 76 [.int .i64 q, .int .i64 r] = some [.int .i64 q, .int .i64 r] := by
 unfold Program.keyLits
 have e : List.range 2 = [0, 1] := rfl
 simp only [fy_u, fy_c2, fy_c, e]
 rw [if_pos (show ([Value.int IntKind.i64 q, Value.int IntKind.i64 r] : List Value).length = 2 from rfl)]
 simp [fy_l1 d _ h1, fy_l1 d _ h2]
def fyK (q r : Int) : Lit := .string (keyBytes [.int .i64 q, .int .i64 r])
theorem fy_key (q r : Int) (h1 : (Lit.int .i64 q).wf = true) (h2 : (Lit.int .i64 r).wf = true) : keyOf Try.prog 76 (.agg #[.int .i64 q, .int .i64 r]) = some (fyK q r) := by
 unfold keyOf
 rw [fy_u]
 have hf : Value.formed Try.prog 76 (.agg #[.int .i64 q, .int .i64 r]) = true := by simp [Value.formed, fy_c2]
 have hc : (Value.agg #[.int .i64 q, .int .i64 r]).cells.toList = [.int .i64 q, .int .i64 r] := rfl
 simp only [fy_kt, Bool.true_and]
 obtain ⟨d, hd⟩ : ∃ d, Try.prog.types.size = d + 1 := ⟨Try.prog.types.size - 1, by have := fy_n; omega⟩
 rw [if_pos hf, hd, hc, fy_l2 d q r h1 h2]
 rfl
theorem fy_laid : laidOutB Try.prog = true := by kernel_rfl
theorem fy_wide : (match Try.prog.underlying 76 with | some (.array _ _) | some (.struct _) => true | _ => false) = true := by kernel_rfl
theorem fy_law : Go.Maps.Keyed Try.prog 76 := Go.Maps.Keyed.of_law (deep_law_laid fy_laid (m := 2) (by omega) (of_decide_eq_true (by kernel_rfl)) (by kernel_rfl) fy_wide)
theorem fyK_inj {q r q' r' : Int} (h1 : (Lit.int .i64 q).wf = true) (h2 : (Lit.int .i64 r).wf = true) (h3 : (Lit.int .i64 q').wf = true) (h4 : (Lit.int .i64 r').wf = true) (e : fyK q r = fyK q' r') : q = q' ∧ r = r' := by
 have a := fy_key q r h1 h2
 have b := fy_key q' r' h3 h4
 rw [← e] at b
 have c := fy_law.inj a b
 simpa using c
theorem fy_zero (w : World) : (zeroValue 3).run Try.prog w = .ok (.int .i64 0) w := by kernel_rfl
/-- the block B is the map of the distances known -/
def FyMap (w : World) (B : Nat) (kn : List ((Int × Int) × Int)) : Prop := ∃ D : DataW Unit, w.ownsMap Try.prog 76 (plainElem Try.prog 3) B kn.length D ∧ Go.Maps.IsMap D ∧ ∀ q r, (Lit.int .i64 q).wf = true → (Lit.int .i64 r).wf = true → Maps.has D (fyK q r) = (kn.lookup (q, r)).isSome ∧ D.atKey (fyK q r) (.lit (.int .i64 0)) = .lit (.int .i64 ((kn.lookup (q, r)).getD 0))
theorem FyMap.made (w : World) : FyMap (w.alloc (.map #[] 0)) w.heap.size [] :=
 ⟨.map [], World.ownsMap_made _ _ _ _, Go.Maps.isMap_empty, fun q r _ _ => ⟨by simp [Maps.has], by simp [DataW.atKey]⟩⟩
theorem FyMap.look {w : World} {B : Nat} {kn : List ((Int × Int) × Int)} (h : FyMap w B kn) {q r : Int} (h1 : (Lit.int .i64 q).wf = true) (h2 : (Lit.int .i64 r).wf = true) : (Instr.lookup 64 (.map (some B)) (.agg #[.int .i64 q, .int .i64 r]) true).run Try.prog w = .ok (.tuple #[.int .i64 ((kn.lookup (q, r)).getD 0), .bool (kn.lookup (q, r)).isSome]) w := by
 obtain ⟨D, hown, hm, hD⟩ := h
 have hw0 : (Lit.int .i64 0).wf = true := by decide
 have hu : Try.prog.underlying 64 = some (.map 76 3) := by kernel_rfl
 obtain ⟨v, ps, hrun, hv⟩ := hown.look_ok fy_law hu (fy_zero w) (plainElem_int fy_u3 hw0) (fy_key q r h1 h2)
 obtain ⟨c, rfl, hc, hwc⟩ := plainElem_int_inv fy_u3 hv
 simp only [Prod.mk.injEq] at hc
 have e1 := hc.1
 rw [(hD q r h1 h2).2] at e1
 have e2 : (kn.lookup (q, r)).getD 0 = c := by simpa using e1
 rw [(hD q r h1 h2).1] at hrun
 rw [e2]
 exact hrun
theorem FyMap.put {w : World} {B : Nat} {kn : List ((Int × Int) × Int)} (h : FyMap w B kn) {q r v : Int} (h1 : (Lit.int .i64 q).wf = true) (h2 : (Lit.int .i64 r).wf = true) (h3 : (Lit.int .i64 v).wf = true) (hn : kn.length < maxLen) : ∃ w', (Instr.mapUpdate 64 (.map (some B)) (.agg #[.int .i64 q, .int .i64 r]) (.int .i64 v)).run Try.prog w = .ok () w' ∧ FyMap w' B (((q, r), v) :: kn) ∧ w.grownBy w' (some B) := by
 obtain ⟨D, hown, hm, hD⟩ := h
 have hu : Try.prog.underlying 64 = some (.map 76 3) := by kernel_rfl
 obtain ⟨w', hrun, hown', hg⟩ := hown.update fy_law hu hn (fy_key q r h1 h2) (plainElem_int fy_u3 h3)
 refine ⟨w', hrun, ⟨_, hown', hm.put _ _, fun q' r' h4 h5 => ?_⟩, hg⟩
 by_cases e : q' = q ∧ r' = r
 ·obtain ⟨rfl, rfl⟩ := e
  rw [Go.Maps.atKey_put_same hm (by simp [fyK, WideAt.IsKeyLit])]
  have : (List.lookup (q', r') (((q', r'), v) :: kn)) = some v := by simp [List.lookup]
  rw [this]
  exact ⟨Go.Maps.has_put_same hm (by simp [fyK, WideAt.IsKeyLit]) _, rfl⟩
 have hne : fyK q' r' ≠ fyK q r := fun e2 => e (fyK_inj h4 h5 h1 h2 e2)
 have hl : (List.lookup (q', r') (((q, r), v) :: kn)) = List.lookup (q', r') kn := by
  have : ((q', r') == (q, r)) = false := by simpa using fun a b => e ⟨a, b⟩
  simp [List.lookup, this]
 rw [hl, Go.Maps.atKey_put_other hne]
 exact ⟨by rw [Go.Maps.has_put_other hne]; exact (hD q' r' h4 h5).1, (hD q' r' h4 h5).2⟩

theorem FyMap.grown {w w' : World} {B : Nat} {row : Option Nat} {kn : List ((Int × Int) × Int)} (h : FyMap w B kn) (hg : w.grownBy w' row) (hne : some B ≠ row) : FyMap w' B kn := by
 obtain ⟨D, hown, hm, hD⟩ := h
 exact ⟨D, hown.kept hg hne, hm, hD⟩
theorem fy_grown {w w' : World} {row : Option Nat} (hb : Below w.heap.size w w') : w.grownBy w' row := ⟨hb.os, hb.tape, hb.output, hb.size, fun k hk _ => hb.block k hk⟩
structure Fy (w : World) (g B : Nat) (kn : List ((Int × Int) × Int)) : Prop where
 cell : w.cell? ⟨g, 0, none⟩ = some (.map (some B))
 ne : g ≠ B
 map : FyMap w B kn
theorem Fy.below {w w' : World} {g B : Nat} {kn : List ((Int × Int) × Int)} (h : Fy w g B kn) (hb : Below w.heap.size w w') : Fy w' g B kn :=
 ⟨(hb.cell (World.block_lt_of_cell? w _ h.cell)).trans h.cell, h.ne, h.map.grown (row := none) (fy_grown hb) (by simp)⟩
def farey_distance.f : Nat → List ((Int × Int) × Int) → Int → Int → Option (Int × List ((Int × Int) × Int))
 | 0, _, _, _ => none
 | k + 1, kn, p, q0 => (impl_size.f q0).bind fun q => if q ≤ 1 then some (q, kn) else ((impl_mod.f p q).bind fun r => if (Lit.int .i64 q).wf = true then (if (Lit.int .i64 r).wf = true then (match kn.lookup (q, r) with
   | some n => some (n, kn)
   | none => ((farey_distance.f k kn q r).bind fun a => ((farey_distance.f k a.2 q (wrap64 (q - r))).bind fun b => (if (Lit.int .i64 (wrap64 (1 + mn a.1 b.1))).wf = true then (if b.2.length < maxLen then some (wrap64 (1 + mn a.1 b.1), ((q, r), wrap64 (1 + mn a.1 b.1)) :: b.2) else none) else none)))) else none) else none)
theorem fy_trans {a b c : World} {r : Option Nat} (h1 : a.grownBy b r) (h2 : b.grownBy c r) : a.grownBy c r := ⟨h2.os.trans h1.os, h2.tape.trans h1.tape, h2.output.trans h1.output, Nat.le_trans h1.size h2.size, fun k hk hne => (h2.block k (Nat.lt_of_lt_of_le hk h1.size) hne).trans (h1.block k hk hne)⟩
theorem fy_cell {W W' : World} {B : Nat} {a : Addr} {v : Value} (hg : W.grownBy W' (some B)) (hc : W.cell? a = some v) (hne : a.block ≠ B) : W'.cell? a = some v := (World.cell?_of_block (hg.block _ (World.block_lt_of_cell? W _ hc) (fun e => hne (Option.some.inj e)))).trans hc
theorem Fy.lt {w : World} {g B : Nat} {kn : List ((Int × Int) × Int)} (h : Fy w g B kn) : B < w.heap.size := by
 obtain ⟨D, hown, _⟩ := h.map
 exact hown.lt
theorem fy_put_step {ops : Array Oper} {o : Oper} {a : Act} {w : World} {K : Act → World → Prop} {Q : Exit → Act → World → Prop} {E : Prop} {B : Nat} {kn : List ((Int × Int) × Int)} {q r n : Int} (hgd : o.guard = none) (hN : o.dst = none) (m x v : Operand)
  (ho : o.op = .mapUpdate 64 m x v) (hm : a.eval m = .map (some B)) (hx : a.eval x = .agg #[.int .i64 q, .int .i64 r]) (hv : a.eval v = .int .i64 n) (hF : FyMap w B kn) (h1 : (Lit.int .i64 q).wf = true) (h2 : (Lit.int .i64 r).wf = true) (h3 : (Lit.int .i64 n).wf = true) (hl : kn.length < maxLen)
  (h : ∀ w', Az (FyMap w' B (((q, r), n) :: kn)) → Az (w.grownBy w' (some B)) → K (a.put o.dst undef) w') :
  if Region.wanted o (yielded ops a.tmps) = true then Oper.wp Try.prog o a w K Q else E := by
 have hw : Region.wanted o (yielded ops a.tmps) = true := by simp [Region.wanted, hgd]
 rw [if_pos hw]
 obtain ⟨w', hrun, hf, hg⟩ := hF.put h1 h2 h3 hl
 unfold Oper.wp
 simp [execOp, ho, hm, hx, hv, hrun, Result.andThen]
 exact h w' ⟨hf⟩ ⟨hg⟩
def farey_distance.T10 : Bool × List (List Nat × List Nat) := (true, [([], []), ([0], [0]), ([1], [1]), ([2], [2]), ([], []), ([], []), ([3, 4, 5, 0, 1, 2, 3, 4, 5], [3, 4, 5])])
def farey_distance.B10 : List Nat := [0, 1, 3, 7, 0, 0, 63]
theorem farey_distance.tab10 : rtab .any (opsOf Try.f54 10) = farey_distance.T10 := by kernel_rfl
theorem farey_distance.bits10 : waitsOk farey_distance.T10.2 farey_distance.B10 = true := by kernel_rfl
theorem fy_info : (Try.prog.info? 76).map (·.size) = some 2 := by kernel_rfl
theorem fy_store {ops : Array Oper} {rest : List Oper} {o : Oper} {a : Act} {Q : Exit → Act → World → Prop} {W : World} (q r : Int) (hgd : o.guard = none) (hN : o.dst = none) (ho : o.op = .store 76 (.tmp 8) (.tmp 22))
  (haddr : a.eval (.tmp 8) = .pointer (some ⟨W.heap.size, 0, none⟩)) (hx : a.eval (.tmp 22) = .agg #[.int .i64 q, .int .i64 r])
  (h : ∀ w1 : World, w1.cell? ⟨W.heap.size, 0, none⟩ = some (.int .i64 q) → w1.cell? ⟨W.heap.size, 1, none⟩ = some (.int .i64 r) → Below W.heap.size W w1 → wpList Try.prog ops Q rest a w1) : wpList Try.prog ops Q (o :: rest) a (W.alloc (.cells #[.int .i64 0, .int .i64 0] 76)) := by
 have hb : (W.alloc (.cells #[.int .i64 0, .int .i64 0] 76)).heap[W.heap.size]? = some (.cells #[.int .i64 0, .int .i64 0] 76 (0, 0)) := (MapKept.heap_alloc W _).1
 refine wpList_plain hgd fun K hK => ?_
 have hrun : (Instr.storeAt 76 (.pointer (some ⟨W.heap.size, 0, none⟩)) (.agg #[.int .i64 q, .int .i64 r])).run Try.prog (W.alloc (.cells #[.int .i64 0, .int .i64 0] 76)) = .ok () ((W.alloc (.cells #[.int .i64 0, .int .i64 0] 76)).setCells W.heap.size 0 [.int .i64 q, .int .i64 r]) := by
  refine run_store_run 76 _ [.int .i64 q, .int .i64 r] hb rfl fy_info (by simp) (by intro v hv; simp at hv; rcases hv with rfl | rfl <;> rfl)
 unfold Oper.wp execOp
 simp only [ho, haddr, hx, Sem.run_bind, Sem.run_pure, Result.andThen_ok, hrun]
 show K (a.put o.dst undef) _
 rw [hN]
 obtain ⟨cur', h3, h4, h5⟩ := setCells_row [.int .i64 q, .int .i64 r] 0 _ _ hb (by simp)
 have e5 : cur'.toList = [.int .i64 q, .int .i64 r] := by rw [h5]; rfl
 have g0 : cur'[0]? = some (.int .i64 q) := by rw [← Array.getElem?_toList, e5]; rfl
 have g1 : cur'[1]? = some (.int .i64 r) := by rw [← Array.getElem?_toList, e5]; rfl
 have hBl : Below W.heap.size W (W.alloc (.cells #[.int .i64 0, .int .i64 0] 76)) := bwA (Below.refl _ _) _
 obtain ⟨s1, s2, s3, s4⟩ := setCells_same W.heap.size [.int .i64 q, .int .i64 r] 0 (W.alloc (.cells #[.int .i64 0, .int .i64 0] 76))
 refine hK _ _ (h _ ?_ ?_ ?_)
 ·simp [World.cell?, h3, g0]
 ·simp [World.cell?, h3, g1]
 exact hBl.trans ⟨s1, s2, s3, by rw [s4]; exact Nat.le_refl _, fun k hk => setCells_far _ _ k (by omega)⟩
set_option maxHeartbeats 16000000 in
set_option maxRecDepth 100000 in
theorem farey_distance.calls (k : Nat) : ∀ (g B : Nat) (kn kn' : List ((Int × Int) × Int)) (p q0 r0 : Int) (w : World), Fy w g B kn → farey_distance.f k kn p q0 = some (r0, kn') →
  Calls Try.prog 54 #[.pointer (some ⟨g, 0, none⟩), .int .i64 p, .int .i64 q0] w fun e w' => e = .returned (.int .i64 r0) ∧ Fy w' g B kn' ∧ w.grownBy w' (some B) := by
 induction k using Nat.strongRecOn with
 | ind k ih =>
 intro g B kn kn' p q0 r0 w hF h
 have HF := Az.mk hF
 have IH := Az.mk ih
 clear hF ih
 cases k with
 | zero => exact absurd h (by simp [farey_distance.f])
 | succ k =>
  simp only [farey_distance.f] at h
  replace h := be.mp h
  obtain ⟨q, T1, h⟩ := h
  have T1 := Az.mk T1
  have HBs := Az.mk (Below.refl w.heap.size w)
  by_cases c1 : q ≤ 1
  ·rw [if_pos c1] at h
   have c1b := decide_eq_true c1
   obtain ⟨rfl, rfl⟩ := Prod.mk.inj (Option.some.inj h)
   clear h c1
   go_enter Try.func54, Try.ntmps54
   go_wp2_with (first
    | (go_at_call 63; refine (impl_size.calls q0 q _ T1.out).mono ?_; rintro e W1 ⟨rfl, hb⟩; have HB := Az.mk (bwT (by first | exact HBs.out | exact pbN HBs.out _) hb); clear hb T1 HBs))
   go_ret
   exact ⟨rfl, HF.out.below (by first | exact HB.out | exact pbN HB.out _), fy_grown (by first | exact HB.out | exact pbN HB.out _)⟩
  rw [if_neg c1] at h
  have c1b := decide_eq_false c1
  clear c1
  replace h := be.mp h
  obtain ⟨r, T2, h⟩ := h
  have T2 := Az.mk T2
  by_cases w1 : (Lit.int .i64 q).wf = true
  rotate_left
  ·rw [if_neg w1] at h
   exact absurd h (by simp)
  rw [if_pos w1] at h
  by_cases w2 : (Lit.int .i64 r).wf = true
  rotate_left
  ·rw [if_neg w2] at h
   exact absurd h (by simp)
  rw [if_pos w2] at h
  have QW1 := Az.mk w1
  have QW2 := Az.mk w2
  have H := Az.mk h
  clear h w1 w2
  go_enter Try.func54, Try.ntmps54
  go_upto_region 6 with (first
   | (go_at_call 63; refine (impl_size.calls q0 q _ T1.out).mono ?_; rintro e W1 ⟨rfl, hb⟩; have HB := Az.mk (bwT (by first | exact HBs.out | exact pbN HBs.out _) hb); clear hb T1 HBs)
   | (go_at_call 36; refine (impl_mod.calls p q r _ T2.out).mono ?_; rintro e W2_ ⟨rfl, ⟨nd, rfl⟩⟩; clear T2)
   | (refine fy_store q r rfl rfl rfl rfl rfl ?_; intro W3 hk0 hk1 hb3; have HB3 := Az.mk (bwT (by first | exact HB.out | exact pbN HB.out _) hb3); clear hb3))
  simp only [show (World.drewN W1 nd).heap = W1.heap from by simp] at hk0 hk1
  have HF3 := Az.mk (HF.out.below HB3.out)
  have hcg := HF3.out.cell
  have hlk : ∀ n : Nat, (Instr.lookup 64 (.map (some B)) (.agg #[.int .i64 q, .int .i64 r]) true).run Try.prog (W3.drewN n) = .ok (.tuple #[.int .i64 ((kn.lookup (q, r)).getD 0), .bool (kn.lookup (q, r)).isSome]) (W3.drewN n) := fun n => (HF3.out.map.grown (row := none) (fy_grown (pbN (Below.refl _ _) n)) (by simp)).look QW1.out QW2.out
  have hlk1 : (Instr.lookup 64 (.map (some B)) (.agg #[.int .i64 q, .int .i64 r]) true).run Try.prog W3.drew = .ok (.tuple #[.int .i64 ((kn.lookup (q, r)).getD 0), .bool (kn.lookup (q, r)).isSome]) W3.drew := (HF3.out.map.grown (row := none) (fy_grown (below_drew (Below.refl _ _))) (by simp)).look QW1.out QW2.out
  cases e : kn.lookup (q, r) with
  | some n =>
   rw [e] at hlk hlk1
   have h := H.out
   rw [e] at h
   obtain ⟨rfl, rfl⟩ := Prod.mk.inj (Option.some.inj h)
   clear h H e
   go_wp2
   go_quiet (fail)
   go_wp2
   go_ret
   exact ⟨rfl, HF.out.below (by first | exact HB3.out | exact pbN HB3.out _), fy_grown (by first | exact HB3.out | exact pbN HB3.out _)⟩
  | none =>
   rw [e] at hlk hlk1
   have h := H.out
   rw [e] at h
   clear H e
   go_wp2
   go_quiet (fail)
   replace h := be.mp h
   obtain ⟨⟨d1, kn1⟩, T3, h⟩ := h
   replace h := be.mp h
   obtain ⟨⟨d2, kn2⟩, T4, h⟩ := h
   have T3 := Az.mk T3
   have T4 := Az.mk T4
   dsimp only at T4
   have HM := Az.mk h
   dsimp only at HM
   clear h
   obtain ⟨q2, hq2⟩ : ∃ j_ : Int, wrap64 (q - r) = j_ := ⟨_, rfl⟩
   have hqw : IntKind.i64.wrap (q - r) = q2 := (i64_w _).trans hq2
   rw [hq2] at T4
   obtain ⟨m, hm⟩ : ∃ j_ : Int, (if d2 < d1 then d2 else d1) = j_ := ⟨_, rfl⟩
   have hmn : mn d1 d2 = m := hm
   rw [hmn] at HM
   obtain ⟨n, hn⟩ : ∃ j_ : Int, wrap64 (1 + m) = j_ := ⟨_, rfl⟩
   have hnw : IntKind.i64.wrap (1 + m) = n := (i64_w _).trans hn
   rw [hn] at HM
   have hKB : W1.heap.size ≠ B := by have a1 := HF.out.lt; have a2 := HB.out.size; omega
   have G3 := Az.mk (show w.grownBy W3 (some B) from fy_grown HB3.out)
   have HK0 := Az.mk hk0
   have HK1 := Az.mk hk1
   clear hk0 hk1 hcg hlk hlk1 hmn hn hq2
   go_upto_region 10 with (first
    | (go_at_call 54; refine (IH.out k (Nat.lt_succ_self k) g B kn kn1 q r d1 _ (by first | exact HF3.out | exact HF3.out.below (pbN (Below.refl _ _) _)) T3.out).mono ?_; rintro e W4 ⟨rfl, hF4, hg4⟩; have HF4 := Az.mk hF4; have HG34 := Az.mk (show W3.grownBy W4 (some B) from by first | exact hg4 | exact fy_trans (fy_grown (pbN (Below.refl _ _) _)) hg4); clear hF4 hg4 T3)
    | (go_at_call 54; refine (IH.out k (Nat.lt_succ_self k) g B kn1 kn2 q q2 d2 _ (by first | exact HF4.out | exact HF4.out.below (pbN (Below.refl _ _) _)) T4.out).mono ?_; rintro e W5 ⟨rfl, hF5, hg5⟩; have HF5 := Az.mk hF5; have HG45 := Az.mk (show W4.grownBy W5 (some B) from by first | exact hg5 | exact fy_trans (fy_grown (pbN (Below.refl _ _) _)) hg5); clear hF5 hg5 T4))
   by_cases w3 : (Lit.int .i64 n).wf = true
   rotate_left
   ·have HM2 := HM.out
    rw [if_neg w3] at HM2
    exact absurd HM2 (by simp)
   have HM2 := HM.out
   rw [if_pos w3] at HM2
   by_cases w4 : kn2.length < maxLen
   rotate_left
   ·rw [if_neg w4] at HM2
    exact absurd HM2 (by simp)
   rw [if_pos w4] at HM2
   obtain ⟨rfl, rfl⟩ := Prod.mk.inj (Option.some.inj HM2)
   clear HM2 HM
   have QW3 := Az.mk w3
   have HLn := Az.mk w4
   clear w3 w4
   have hc50 := fy_cell HG45.out (fy_cell HG34.out HK0.out hKB) hKB
   have hc51 := fy_cell HG45.out (fy_cell HG34.out HK1.out hKB) hKB
   have hcd : W5.drew.cell? ⟨g, 0, none⟩ = some (.map (some B)) ∧ W5.drew.cell? ⟨W1.heap.size, 0, none⟩ = some (.int .i64 q) ∧ W5.drew.cell? ⟨W1.heap.size, 1, none⟩ = some (.int .i64 r) := ⟨HF5.out.cell, hc50, hc51⟩
   refine start_ (n := 7) (S := fun w' => w'.cell? ⟨g, 0, none⟩ = some (.map (some B)) ∧ w'.cell? ⟨W1.heap.size, 0, none⟩ = some (.int .i64 q) ∧ w'.cell? ⟨W1.heap.size, 1, none⟩ = some (.int .i64 r)) (ds := [6]) #[false, false, false, false, false, false, false] (by kernel_rfl) rfl rfl hcd (fun hHeld => ?_)
   refine with_tabW farey_distance.tab10 farey_distance.bits10 (fun HT_ HW_ => ?_)
   have HMd := Az.mk (HF5.out.map.grown (row := none) (fy_grown (below_drew (Below.refl _ _))) (by simp))
   have HGd := Az.mk (show W5.grownBy W5.drew (some B) from fy_grown (below_drew (Below.refl _ _)))
   have HCd := Az.mk hcd
   clear hcd hc50 hc51
   generalize W5.drew = wd at HMd HGd HCd hHeld ⊢
   refine pu (i := 0) (N := some 46) #[true, false, false, false, false, false, false] (any_of HT_.out (by kernel_rfl)) ?_
   refine pu (i := 1) (N := some 47) #[true, true, false, false, false, false, false] (any_of HT_.out (by kernel_rfl)) ?_
   refine pu (i := 2) (N := some 48) #[true, true, true, false, false, false, false] (any_of HT_.out (by kernel_rfl)) ?_
   refine pu (i := 5) (N := some 51) #[true, true, true, false, false, true, false] (any_of HT_.out (by kernel_rfl)) ?_
   refine take_ (i := 3) (N := some 49) (v := ?_) (a' := ?_) #[true, true, true, true, false, true, false] rfl rfl (take_ofW HT_.out HW_.out (by kernel_rfl)) (fun _ _ _ h => h) (Or.inl ⟨by rfl, ?_⟩) hHeld ?_ ?_
   rotate_left
   ·rintro w' ⟨s0, s1, s2⟩
    go_simp
    with_reducible rfl
   rotate_left
   ·exact acq
   refine take_ (i := 4) (N := some 50) (v := ?_) (a' := ?_) #[true, true, true, true, true, true, false] rfl rfl (take_ofW HT_.out HW_.out (by kernel_rfl)) (fun _ _ _ h => h) (Or.inl ⟨by rfl, ?_⟩) hHeld ?_ ?_
   rotate_left
   ·rintro w' ⟨s0, s1, s2⟩
    go_simp
    with_reducible rfl
   rotate_left
   ·exact acq
   refine last_ (i := 6) (N := none) #[true, true, true, true, true, true, true] rfl rfl (one_of HT_.out (by kernel_rfl)) (by decide) (fun K hK => ?_)
   refine fy_put_step (kn := kn2) rfl rfl (.tmp 49) (.tmp 50) (.tmp 51) rfl rfl rfl rfl HMd.out QW1.out QW2.out QW3.out HLn.out ?_
   intro W6 HF6 HG6
   refine hK.out _ _ ?_
   clear hK K
   refine done_ (done_of HT_.out (by kernel_rfl)) ?_
   have HG56 := Az.mk (fy_trans HGd.out HG6.out)
   have HF7 := Az.mk (show Fy W6 g B (((q, r), n) :: kn2) from ⟨fy_cell HG6.out HCd.out.1 HF.out.ne, HF.out.ne, HF6.out⟩)
   have HGA := Az.mk (fy_trans G3.out (fy_trans HG34.out (fy_trans HG45.out HG56.out)))
   clear hHeld HMd HGd HCd HG6 HF6 HG56
   go_wp2
   go_ret
   exact ⟨rfl, by first | exact HF7.out | exact HF7.out.below (pbN (Below.refl _ _) _), by first | exact HGA.out | exact fy_trans HGA.out (fy_grown (pbN (Below.refl _ _) _))⟩
theorem farey_distance.mono : ∀ k y0 y1 y2, LeO (farey_distance.f k y0 y1 y2) (farey_distance.f (k + 1) y0 y1 y2)
 | 0, y0, y1, y2 => fun r h => by simp [farey_distance.f] at h
 | k + 1, y0, y1, y2 => by
  have ih := farey_distance.mono k
  unfold farey_distance.f
  refine LeO.bind (LeO.refl _) (fun q => LeO.ite (LeO.refl _) (LeO.bind (LeO.refl _) (fun r => LeO.ite (LeO.ite ?_ (LeO.refl _)) (LeO.refl _))))
  cases y0.lookup (q, r) with
  | some n => exact LeO.refl _
  | none => exact LeO.bind (ih _ _ _) (fun a => LeO.bind (ih _ _ _) (fun b => LeO.refl _))
theorem fy_made (W : World) : Fy ((W.alloc (.map #[] 0)).alloc (.cells #[.map (some W.heap.size)] 66)) (W.heap.size + 1) W.heap.size [] := by
 have hs : (W.alloc (.map #[] 0)).heap.size = W.heap.size + 1 := Array.size_push _
 refine ⟨?_, by omega, (FyMap.made W).grown (row := none) (World.grownBy_alloc _ _ none) (by simp)⟩
 have hb := (MapKept.heap_alloc (W.alloc (.map #[] 0)) (.cells #[.map (some W.heap.size)] 66)).1
 rw [hs] at hb
 unfold World.cell?
 dsimp only
 rw [hb]
 rfl
theorem fy_made2 (w : World) (o1 o2 : Obj) (nd : Nat) : Fy (((((w.alloc o1).alloc o2).drewN nd).alloc (.map #[] 0)).alloc (.cells #[.map (some (w.heap.size + 1 + 1))] 66)) (w.heap.size + 1 + 1 + 1) (w.heap.size + 1 + 1) [] := by
 have h := fy_made (((w.alloc o1).alloc o2).drewN nd)
 have e : (((w.alloc o1).alloc o2).drewN nd).heap.size = w.heap.size + 1 + 1 := by
  rw [World.heap_drewN]
  exact (Array.size_push _).trans (congrArg (· + 1) (Array.size_push _))
 rw [e] at h
 exact h
theorem fy_post {w WW W5 : World} {B : Nat} (hB : Below w.heap.size w WW) (hg : WW.grownBy W5 (some B)) (hle : w.heap.size ≤ B) : Below w.heap.size w W5 := hB.grown hg hB.size (fun k hk => by injection hk with hk; omega)
def impl_between.f (k : Nat) (a0_0 a0_1 a1_0 a1_1 : Int) : Option Int := (impl_euclid.f k a0_0 a0_1).bind fun xy => (farey_distance.f k [] (wrap64 (wrap64 (xy.1 * a1_0) + wrap64 (xy.2 * a1_1))) (wrap64 (wrap64 (a0_0 * a1_1) - wrap64 (a0_1 * a1_0)))).bind fun d => some d.1
theorem impl_between.mono : ∀ a0 a1 a2 a3 k, LeO (impl_between.f k a0 a1 a2 a3) (impl_between.f (k + 1) a0 a1 a2 a3) := by
 intro a0 a1 a2 a3 k
 unfold impl_between.f
 exact LeO.bind (impl_euclid.mono _ _ _) (fun xy => LeO.bind (farey_distance.mono _ _ _ _) (fun d => LeO.refl _))
instance impl_between.mi {a0 a1 a2 a3 k} : MoO (impl_between.f k a0 a1 a2 a3) (impl_between.f (k + 1) a0 a1 a2 a3) := ⟨impl_between.mono _ _ _ _ _⟩
set_option maxHeartbeats 16000000 in
set_option maxRecDepth 100000 in
theorem impl_between.calls (k : Nat) (a0_0 : Int) (a0_1 : Int) (a1_0 : Int) (a1_1 : Int) (r : Int) (w : World) (h : impl_between.f k a0_0 a0_1 a1_0 a1_1 = some r) :
  Calls Try.prog 28 #[.agg #[.int .i64 a0_0, .int .i64 a0_1], .agg #[.int .i64 a1_0, .int .i64 a1_1]] w fun e w' => e = .returned (.int .i64 r) ∧ Below w.heap.size w w' := by
 unfold impl_between.f at h
 replace h := be.mp h
 obtain ⟨⟨x, y⟩, T1, h⟩ := h
 replace h := be.mp h
 obtain ⟨⟨d, kn⟩, T2, h⟩ := h
 dsimp only at T2 h
 obtain rfl := Option.some.inj h
 clear h
 have T1 := Az.mk T1
 have T2 := Az.mk T2
 have HB := Az.mk (Below.refl w.heap.size w)
 have hmm := @run_makeMap Try.prog
 have huS := Try.underlying25
 go_enter Try.func28, Try.ntmps28
 go_upto_region 3 with (first
  | (go_at_call 53; refine (impl_euclid.calls k a0_0 a0_1 x y _ T1.out).mono ?_; rintro e W1 ⟨rfl, ⟨nd, rfl⟩⟩; clear T1))
 go_wp2_with (first
  | (go_at_call 54; refine (farey_distance.calls k (w.heap.size + 1 + 1 + 1) (w.heap.size + 1 + 1) [] kn _ _ d _ ?fy T2.out).mono ?_; (case fy => first | exact fy_made2 _ _ _ _ | exact (fy_made2 _ _ _ _).below (pbN (Below.refl _ _) _)); rintro e W5 ⟨rfl, _, hg⟩; have HB5 := Az.mk (fy_post bw_8 hg (by omega)); clear hg T2))
 go_ret
 exact ⟨rfl, by first | exact HB5.out | exact pbN HB5.out _⟩

/-! ### impl_SlopeDistance: function 6 -/
def impl_SlopeDistance.f (k : Nat) (a0_0 : Int) (a0_1 : Int) (a1_0 : Int) (a1_1 : Int) : Option (Int) := (impl_IsSlope.f k a0_0 a0_1).bind fun t232 => (if t232 = true then ((impl_IsSlope.f k a1_0 a1_1).bind fun t233 => (if t233 = true then ((impl_between.f k a0_0 a0_1 a1_0 a1_1).bind fun t234 => (some t234)) else (some (-1)))) else (some (-1)))
theorem impl_SlopeDistance.mono : ∀ a0 a1 a2 a3 k, LeO (impl_SlopeDistance.f k a0 a1 a2 a3) (impl_SlopeDistance.f (k + 1) a0 a1 a2 a3) := by
 intro a0 a1 a2 a3 k
 unfold impl_SlopeDistance.f
 exact mo_
instance impl_SlopeDistance.mi {a0 a1 a2 a3 k} : MoO (impl_SlopeDistance.f k a0 a1 a2 a3) (impl_SlopeDistance.f (k + 1) a0 a1 a2 a3) := ⟨impl_SlopeDistance.mono _ _ _ _ _⟩
set_option maxHeartbeats 8000000 in
set_option maxRecDepth 100000 in
theorem impl_SlopeDistance.calls (k : Nat) (a0_0 : Int) (a0_1 : Int) (a1_0 : Int) (a1_1 : Int) (r : Int) (w : World) (h : impl_SlopeDistance.f k a0_0 a0_1 a1_0 a1_1 = some r) :
  Calls Try.prog 6 #[.agg #[.int .i64 a0_0, .int .i64 a0_1], .agg #[.int .i64 a1_0, .int .i64 a1_1]] w fun e w' => e = .returned (.int .i64 r) ∧ Below w.heap.size w w' := by
 have hu25 := Try.underlying25
 have HB := Az.mk (Below.refl w.heap.size w)
 have H : ((impl_IsSlope.f k a0_0 a0_1).bind fun t232 => (if t232 = true then ((impl_IsSlope.f k a1_0 a1_1).bind fun t233 => (if t233 = true then ((impl_between.f k a0_0 a0_1 a1_0 a1_1).bind fun t234 => (some t234)) else (some (-1)))) else (some (-1)))) = some r := h
 clear h
 replace H := bez H
 obtain ⟨t232, A3, H⟩ := H
 try dsimp only at H
 by_cases c4 : t232 = true
 rotate_left
 ·replace c4 := Bool.eq_false_iff.mpr c4
  subst c4
  rw [if_neg (show ¬ (false = true) by decide)] at H
  obtain rfl := Option.some.inj H
  go_enter Try.func6, Try.ntmps6
  go_wp2_with (first | ((with_reducible refine gtD (N := 2) rfl ?_); refine bx (N := 2) (cs := #[.int .i64 a0_0, .int .i64 a0_1]) (t := 25) ?_; intro gb230 hg w25 hbox hb; have BK230 := Az.mk (hbox); have GW230 := gwz hg bw_8; have GE230 := gwz hg bw_8; replace HB := Az.mk (bwT bw_8 hb); clear hb hbox hg) | ((with_reducible refine gtD (N := 3) rfl ?_); refine bx (N := 3) (cs := #[.int .i64 a1_0, .int .i64 a1_1]) (t := 25) ?_; intro gb231 hg w26 hbox hb; have BK231 := Az.mk (hbox); have GW231 := gwz hg bw_8; have GE231 := gwz hg bw_8; replace HB := Az.mk (bwT bw_8 hb); have NB230_231 := nlt BK230 hg; have NB231_230 := ngt BK230 hg; replace BK230 := bkz BK230 hb; clear hb hbox hg; have hnb27 := NB230_231.out; have hnc27 := NB231_230.out; obtain ⟨hcz28_0, hcz28_1, hfz28_0, hfz28_1⟩ := bq2 BK230) | ((with_reducible refine gtC (f := 27) rfl ?_); refine clz Try.func27 (some 6) #[.agg #[.int .i64 a0_0, .int .i64 a0_1]] ?_; (with_reducible refine (impl_IsSlope.calls k a0_0 a0_1 false _ A3.out).mono ?_); rintro e w29 ⟨rfl, hb⟩; refine ⟨_, rfl, ?_⟩; replace BK230 := bkz BK230 hb; replace BK231 := bkz BK231 hb; replace HB := Az.mk (bwT bw_8 hb); (try clear hb)))
  go_ret
  exact ⟨rq1, bw_8⟩
 subst c4
 rw [if_pos rfl] at H
 replace H := bez H
 obtain ⟨t233, A5, H⟩ := H
 try dsimp only at H
 by_cases c6 : t233 = true
 rotate_left
 ·replace c6 := Bool.eq_false_iff.mpr c6
  subst c6
  rw [if_neg (show ¬ (false = true) by decide)] at H
  obtain rfl := Option.some.inj H
  go_enter Try.func6, Try.ntmps6
  go_wp2_with (first | ((with_reducible refine gtD (N := 2) rfl ?_); refine bx (N := 2) (cs := #[.int .i64 a0_0, .int .i64 a0_1]) (t := 25) ?_; intro gb230 hg w18 hbox hb; have BK230 := Az.mk (hbox); have GW230 := gwz hg bw_8; have GE230 := gwz hg bw_8; replace HB := Az.mk (bwT bw_8 hb); clear hb hbox hg) | ((with_reducible refine gtD (N := 3) rfl ?_); refine bx (N := 3) (cs := #[.int .i64 a1_0, .int .i64 a1_1]) (t := 25) ?_; intro gb231 hg w19 hbox hb; have BK231 := Az.mk (hbox); have GW231 := gwz hg bw_8; have GE231 := gwz hg bw_8; replace HB := Az.mk (bwT bw_8 hb); have NB230_231 := nlt BK230 hg; have NB231_230 := ngt BK230 hg; replace BK230 := bkz BK230 hb; clear hb hbox hg; have hnb20 := NB230_231.out; have hnc20 := NB231_230.out; obtain ⟨hcz21_0, hcz21_1, hfz21_0, hfz21_1⟩ := bq2 BK230) | ((with_reducible refine gtC (f := 27) rfl ?_); refine clz Try.func27 (some 6) #[.agg #[.int .i64 a0_0, .int .i64 a0_1]] ?_; (with_reducible refine (impl_IsSlope.calls k a0_0 a0_1 true _ A3.out).mono ?_); rintro e w22 ⟨rfl, hb⟩; refine ⟨_, rfl, ?_⟩; replace BK230 := bkz BK230 hb; replace BK231 := bkz BK231 hb; replace HB := Az.mk (bwT bw_8 hb); (try clear hb); obtain ⟨hcz23_0, hcz23_1, hfz23_0, hfz23_1⟩ := bq2 BK231) | (go_at_call 27; (with_reducible refine (impl_IsSlope.calls k a1_0 a1_1 false _ A5.out).mono ?_); rintro e w24 ⟨rfl, hb⟩; replace BK230 := bkz BK230 hb; replace BK231 := bkz BK231 hb; replace HB := Az.mk (bwT bw_8 hb); (try clear hb)))
  go_ret
  exact ⟨rq1, bw_8⟩
 subst c6
 rw [if_pos rfl] at H
 replace H := bez H
 obtain ⟨t234, A7, H⟩ := H
 replace H : (some t234) = some r := H
 obtain rfl := Option.some.inj H
 go_enter Try.func6, Try.ntmps6
 go_wp2_with (first | ((with_reducible refine gtD (N := 2) rfl ?_); refine bx (N := 2) (cs := #[.int .i64 a0_0, .int .i64 a0_1]) (t := 25) ?_; intro gb230 hg w8 hbox hb; have BK230 := Az.mk (hbox); have GW230 := gwz hg bw_8; have GE230 := gwz hg bw_8; replace HB := Az.mk (bwT bw_8 hb); clear hb hbox hg) | ((with_reducible refine gtD (N := 3) rfl ?_); refine bx (N := 3) (cs := #[.int .i64 a1_0, .int .i64 a1_1]) (t := 25) ?_; intro gb231 hg w9 hbox hb; have BK231 := Az.mk (hbox); have GW231 := gwz hg bw_8; have GE231 := gwz hg bw_8; replace HB := Az.mk (bwT bw_8 hb); have NB230_231 := nlt BK230 hg; have NB231_230 := ngt BK230 hg; replace BK230 := bkz BK230 hb; clear hb hbox hg; have hnb10 := NB230_231.out; have hnc10 := NB231_230.out; obtain ⟨hcz11_0, hcz11_1, hfz11_0, hfz11_1⟩ := bq2 BK230) | ((with_reducible refine gtC (f := 27) rfl ?_); refine clz Try.func27 (some 6) #[.agg #[.int .i64 a0_0, .int .i64 a0_1]] ?_; (with_reducible refine (impl_IsSlope.calls k a0_0 a0_1 true _ A3.out).mono ?_); rintro e w12 ⟨rfl, hb⟩; refine ⟨_, rfl, ?_⟩; replace BK230 := bkz BK230 hb; replace BK231 := bkz BK231 hb; replace HB := Az.mk (bwT bw_8 hb); (try clear hb); obtain ⟨hcz13_0, hcz13_1, hfz13_0, hfz13_1⟩ := bq2 BK231) | (go_at_call 27; (with_reducible refine (impl_IsSlope.calls k a1_0 a1_1 true _ A5.out).mono ?_); rintro e w14 ⟨rfl, hb⟩; replace BK230 := bkz BK230 hb; replace BK231 := bkz BK231 hb; replace HB := Az.mk (bwT bw_8 hb); (try clear hb); obtain ⟨hcz15_0, hcz15_1, hfz15_0, hfz15_1⟩ := bq2 BK230; obtain ⟨hcz16_0, hcz16_1, hfz16_0, hfz16_1⟩ := bq2 BK231) | ((with_reducible refine gtC (f := 28) rfl ?_); refine clz Try.func28 (some 15) #[.agg #[.int .i64 a0_0, .int .i64 a0_1], .agg #[.int .i64 a1_0, .int .i64 a1_1]] ?_; (with_reducible refine (impl_between.calls k a0_0 a0_1 a1_0 a1_1 t234 _ A7.out).mono ?_); rintro e w17 ⟨rfl, hb⟩; refine ⟨_, rfl, ?_⟩; replace BK230 := bkz BK230 hb; replace BK231 := bkz BK231 hb; replace HB := Az.mk (bwT bw_8 hb); (try clear hb)))
 go_ret
 exact ⟨rq1, bw_8⟩

end Go.Proofs.Ytigcjehokbgclaa.P

/- Words with default proofs, by this session: what a walk carries from world to world. -/
import Derived.Test.YtkmjcdlhlhefdaaQWMore
import Derived.Test.YtkmjcdlhlhefdaaQWLast
import Derived.Test.YtkmjcdlhlhefdaaProg
namespace Go.Proofs.YtkmjcdlhlhefdaaW.PrintMore
open Go Go.RowKit Go.Proofs.YtkmjcdlhlhefdaaW.PrintWords Go.Proofs.YtkmjcdlhlhefdaaW.PrintLast
theorem rq1 {p : Prop} (h : p := by first | rfl | (simp [eWn, eWs] <;> rfl) | (simp [*, eWn, eWs] <;> rfl)) : p := h
theorem rq2 {p : Prop} (h : p := by first | rfl | (simp; done) | (simp [*]; done)) : p := h
theorem acq {p : Prop} (h : p := by simp only [Act.put, List.setIfInBounds_toArray, List.set_cons_zero, List.set_cons_succ, i64_w, i32_w]; rfl) : p := h
section
variable {P : Program} {ops : Array Oper} {rest : List Oper} {o : Oper} {a : Act} {Q : Exit → Act → World → Prop}
theorem bx {W : World} {N : Tmp} {cs : Array Value} {t : TypeId} (h : ∀ g, g = W.heap.size → ∀ w1, w1.heap[g]? = some (.cells cs t (0, 0)) → Below W.heap.size W w1 → wpList P ops Q rest (a.put o.dst (.pointer (some ⟨g, 0, none⟩))) w1) (hgd : o.guard = none := by rfl) (hd : o.dst = some N := by rfl)
    (hrun : (execOp a.eval o).run P W = .ok (.value (.pointer (some ⟨W.heap.size, 0, none⟩))) (W.alloc (.cells cs t (0, 0))) := by first | (go_simp; done) | (go_simp; rfl)) : wpList P ops Q (o :: rest) a W := bxE hgd hd hrun h
end
theorem bez {α β : Type} {x : Option α} {f : α → Option β} {r : β} (h : x.bind f = some r) : ∃ a, Az (x = some a) ∧ f a = some r := by
  obtain ⟨a, h1, h2⟩ := Option.bind_eq_some_iff.mp h
  exact ⟨a, ⟨h1⟩, h2⟩
class MoO {α : Type} (a b : Option α) : Prop where out : LeO a b
theorem mo_ {α : Type} {a b : Option α} (h : LeO a b := by repeat' first | (with_reducible exact LeO.refl _) | (with_reducible exact LeO.none _) | (with_reducible refine LeO.ite ?_ ?_) | (with_reducible refine LeO.bind ?_ (fun _ => ?_)) | exact MoO.out | exact LeO.none _ | refine LeO.ite ?_ ?_ | refine LeO.bind ?_ (fun _ => ?_)) : LeO a b := h
theorem clz {P : Program} {ops : Array Oper} {Q : Exit → Act → World → Prop} {rest : List Oper} {o : Oper} {a : Act} {w : World} {f : FuncId} {fn : Func} (hf : P.funcs[f]? = some fn) (N : Option Tmp) (args : Array Value) (h : Calls P f args w fun e w' => ∃ v, e = .returned v ∧ wpList P ops Q rest (a.put N v) w') {az : Array Operand} {ts : Array TypeId} (hop : o.op = .call { callee := .value (.func f), args := az, argTypes := ts } := by rfl) (hd : o.dst = N := by rfl) (hg : o.guard = none := by rfl) (hname : (fn.name == "runtime.NumGoroutine") = false := by kernel_rfl) (hb : fn.body.isSome = true := by rfl) (hargs : az.map a.eval = args := by (try simp only [List.map_toArray, List.map_cons, List.map_nil]); first | done | rfl | (simp only [List.length_drop, List.length_take]; rfl)) : wpList P ops Q (o :: rest) a w := goesL_ N hd hg hf hname hb args hop hargs h
theorem kR {q p : Prop} (h : q) (hs : q → p := by intro h_; (with_reducible repeat (first | apply Kd.R_alloc | apply Kd.R_drewN | apply Kd.R_drew)); exact h_) : p := hs h
theorem kS {q p : Prop} (h : q) (hs : q → p := by intro h_; (with_reducible repeat (first | apply Kd.S_alloc | apply Kd.S_drewN | apply Kd.S_drew)); exact h_) : p := hs h
theorem kC {q p : Prop} (h : q) (hs : q → p := by intro h_; repeat (first | exact h_ | (with_reducible refine Kd.C_alloc ?_ _) | (with_reducible refine Kd.C_drewN ?_ _) | (with_reducible refine Kd.C_drew ?_))) : p := hs h
theorem kB {q p : Prop} (h : q) (hs : q → p := by intro h_; repeat (first | (with_reducible first | exact h_ | apply bwA | apply pbN | apply bwD) | exact h_)) : p := hs h
theorem kG {q r p : Prop} (h : q) (g : r) (hs : q → r → p := by intro h_ g_; repeat (first | (with_reducible first | exact h_ | apply bwA | apply pbN | apply bwD | refine bwS ?_ g_) | exact h_)) : p := hs h g
theorem kK {q p : Prop} (h : q) (hs : q → p := by intro h_; repeat (first | (with_reducible first | exact h_ | apply KeepBut.set_ | apply keep_drewN | apply keep_drew | apply keep_alloc) | exact h_)) : p := hs h
theorem kc {w W : World} {a : Addr} {v : Value} {p : Prop} (h : Az (Below w.heap.size w W)) (e : w.cell? a = some v) (hs : W.cell? a = some v → p := by exact fun h_ => h_) : p := hs ((h.out.cell (World.block_lt_of_cell? w _ e)).trans e)
theorem am {p : Prop} (h : p := by first | (with_reducible assumption) | assumption) : p := h
theorem ff : ¬ (false = true) := by decide
theorem rh {p : Prop} (h : p := by first | (rw [hy]; with_reducible exact H) | (have H2_ := (Option.bind_some _ _).symm.trans H; rw [hy]; with_reducible exact H2_) | (have H2_ := (Option.bind_some _ _).symm.trans H; with_reducible exact H2_) | with_reducible exact H | (rw [hy]; exact H) | exact H) : p := h
theorem kd {p : Prop} (h : p := by repeat (first | exact Drawn0.refl _ | apply Drawn0.step)) : p := h
end Go.Proofs.YtkmjcdlhlhefdaaW.PrintMore

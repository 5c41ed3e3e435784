/- Words with default proofs, by this session: what a walk carries from world to world. -/
import Derived.Test.YtemeiocmgbgikaaKWMore
import Derived.Test.YtemeiocmgbgikaaKWLast
import Derived.Test.YtemeiocmgbgikaaProg
namespace Go.Proofs.YtemeiocmgbgikaaW.PrintMore
open Go Go.RowKit Go.Proofs.YtemeiocmgbgikaaW.PrintWords Go.Proofs.YtemeiocmgbgikaaW.PrintLast
theorem bk1 {w w':World}{g:Nat}{o:Obj} (h:Az (w.heap[g]?= some o)) (hs:w.heap[g]?= some o→w'.heap[g]?= some o:=by intro h_;(with_reducible repeat first|apply bkN|apply bkD|apply bkA);exact h_):w'.heap[g]?= some o:=hs h.out
theorem bkz {w w' w1:World}{g:Nat}{o:Obj} (h:Az (w.heap[g]?= some o)) (hb:Below w'.heap.size w' w1) (hs:w.heap[g]?= some o→w'.heap[g]?= some o:=by intro h_;(with_reducible repeat first|apply bkN|apply bkD|apply bkA);exact h_):Az (w1.heap[g]?= some o):=⟨bkB (hs h.out) hb⟩
theorem nlt {w w':World}{g g':Nat}{o:Obj} (h:Az (w.heap[g]?= some o)) (hg:g'=w'.heap.size) (hs:w.heap[g]?= some o→w'.heap[g]?= some o:=by intro h_;(with_reducible repeat first|apply bkN|apply bkD|apply bkA);exact h_):Az (g≠g'):=⟨by rw[hg];exact Nat.ne_of_lt (blk_lt (hs h.out))⟩
theorem ngt {w w':World}{g g':Nat}{o:Obj} (h:Az (w.heap[g]?= some o)) (hg:g'=w'.heap.size) (hs:w.heap[g]?= some o→w'.heap[g]?= some o:=by intro h_;(with_reducible repeat first|apply bkN|apply bkD|apply bkA);exact h_):Az (g'≠g):=⟨by rw[hg];exact Nat.ne_of_gt (blk_lt (hs h.out))⟩
theorem gwz {w W:World}{g:Nat} (hg:g=W.heap.size) (h:Below w.heap.size w W):Az (w.heap.size≤g):=⟨by rw[hg];exact bwZ h⟩
theorem bkc0 {w:World}{g:Nat}{a:Value}{l:List Value}{t:TypeId} (h:Az (w.heap[g]?= some (.cells (List.toArray (a :: l)) t (0,0)))):w.cell? ⟨g,0,none⟩=some a:=(bkC h.out 0).trans rfl
theorem bkc1 {w:World}{g:Nat}{a b:Value}{l:List Value}{t:TypeId} (h:Az (w.heap[g]?= some (.cells (List.toArray (a :: b :: l)) t (0,0)))):w.cell? ⟨g,1,none⟩=some b:=(bkC h.out 1).trans rfl
theorem bkc2 {w:World}{g:Nat}{a b c:Value}{l:List Value}{t:TypeId} (h:Az (w.heap[g]?= some (.cells (List.toArray (a :: b :: c :: l)) t (0,0)))):w.cell? ⟨g,2,none⟩=some c:=(bkC h.out 2).trans rfl
theorem rq1 {p:Prop} (h:p:=by first|rfl|(simp[eWn,eWs] <;> rfl)|(simp[*,eWn,eWs] <;> rfl)):p:=h
theorem rq2 {p:Prop} (h:p:=by first|rfl|(simp;done)|(simp[*];done)):p:=h
theorem acq {p:Prop} (h:p:=by simp only[Act.put,List.setIfInBounds_toArray,List.set_cons_zero,List.set_cons_succ,i64_w,i32_w];rfl):p:=h
section
variable {P:Program}{ops:Array Oper}{rest:List Oper}{o:Oper}{a:Act}{Q:Exit→Act→World→Prop}
theorem bx {W:World}{N:Tmp}{cs:Array Value}{t:TypeId} (h:∀g,g=W.heap.size→∀w1,w1.heap[g]?= some (.cells cs t (0,0))→Below W.heap.size W w1→wpList P ops Q rest (a.put o.dst (.pointer (some ⟨g,0,none⟩))) w1) (hgd:o.guard=none:=by rfl) (hd:o.dst=some N:=by rfl)
    (hrun:(execOp a.eval o).run P W= .ok (.value (.pointer (some ⟨W.heap.size,0,none⟩))) (W.alloc (.cells cs t (0,0))):=by first|(go_simp;done)|(go_simp;rfl)):wpList P ops Q (o :: rest) a W:=bxE hgd hd hrun h
end
theorem bkf2 {w:World}{g b i:Nat}{x:Option Nat}{t:TypeId}{cs:Array Value} (h:w.heap[g]?= some (.cells cs t (0,0))) (hp:Az (g≠b)) (u:Value):(w.setCell ⟨b,i,x⟩ u).heap[g]?= some (.cells cs t (0,0)):=bkf h hp.out u
theorem bkv {w:World}{g:Nat}{o:Obj} (h:w.heap[g]?= some o:=by
  repeat first|(with_reducible apply bkN)|(with_reducible apply bkD)|(with_reducible apply bkA)|(with_reducible exact Az.out (by with_reducible assumption))|(with_reducible apply bkf2;case hp=>with_reducible assumption)|(with_reducible apply bkp)
  all_goals rfl):w.heap[g]?= some o:=h
theorem bez {α β:Type}{x:Option α}{f:α→Option β}{r:β} (h:x.bind f=some r):∃a,Az (x=some a)∧f a=some r:=by
  obtain⟨a,h1,h2⟩:=Option.bind_eq_some_iff.mp h
  exact⟨a,⟨h1⟩,h2⟩
theorem clz {P:Program}{ops:Array Oper}{Q:Exit→Act→World→Prop}{rest:List Oper}{o:Oper}{a:Act}{w:World}{f:FuncId}{fn:Func} (hf:P.funcs[f]?= some fn) (N:Option Tmp) (args:Array Value) (h:Calls P f args w fun e w'=>∃v,e= .returned v∧wpList P ops Q rest (a.put N v) w'){az:Array Operand}{ts:Array TypeId} (hop:o.op= .call { callee:= .value (.func f),args:=az,argTypes:=ts }:=by rfl) (hd:o.dst=N:=by rfl) (hg:o.guard=none:=by rfl) (hname:(fn.name== "runtime.NumGoroutine")=false:=by kernel_rfl) (hb:fn.body.isSome=true:=by rfl) (hargs:az.map a.eval=args:=by(try simp only[List.map_toArray,List.map_cons,List.map_nil]);first|done|rfl|(simp only[List.length_drop,List.length_take];rfl)):wpList P ops Q (o :: rest) a w:=goesL_ N hd hg hf hname hb args hop hargs h
theorem bq3 {w:World}{g:Nat}{a b c:Value}{t:TypeId} (h:Az (w.heap[g]?= some (.cells #[a,b,c] t (0,0)))):w.cell? ⟨g,0,none⟩=some a∧w.cell? ⟨g,1,none⟩=some b∧w.cell? ⟨g,2,none⟩=some c∧w.frozen? ⟨g,0,none⟩=false∧w.frozen? ⟨g,1,none⟩=false∧w.frozen? ⟨g,2,none⟩=false:=⟨bkc0 h,bkc1 h,bkc2 h,bkF h.out 0,bkF h.out 1,bkF h.out 2⟩
theorem kR {q p:Prop} (h:q) (hs:q→p:=by intro h_;(with_reducible repeat(first|apply Kd.R_alloc|apply Kd.R_drewN|apply Kd.R_drew));exact h_):p:=hs h
theorem kS {q p:Prop} (h:q) (hs:q→p:=by intro h_;(with_reducible repeat(first|apply Kd.S_alloc|apply Kd.S_drewN|apply Kd.S_drew));exact h_):p:=hs h
theorem kQ {q p:Prop} (h:q) (hs:q→p:=by intro h_;(with_reducible repeat(first|apply Kd.Q_alloc|apply Kd.Q_drewN|apply Kd.Q_drew));exact h_):p:=hs h
theorem kC {q p:Prop} (h:q) (hs:q→p:=by intro h_;repeat(first|exact h_|(with_reducible refine Kd.C_alloc ?_ _)|(with_reducible refine Kd.C_drewN ?_ _)|(with_reducible refine Kd.C_drew ?_))):p:=hs h
theorem kB {q p:Prop} (h:q) (hs:q→p:=by intro h_;repeat(first|(with_reducible first|exact h_|apply bwA|apply pbN|apply bwD)|exact h_)):p:=hs h
theorem kG {q r p:Prop} (h:q) (g:r) (hs:q→r→p:=by intro h_ g_;repeat(first|(with_reducible first|exact h_|apply bwA|apply pbN|apply bwD|refine bwS ?_ g_)|exact h_)):p:=hs h g
theorem kK {q p:Prop} (h:q) (hs:q→p:=by intro h_;repeat(first|(with_reducible first|exact h_|apply KeepBut.set_|apply keep_drewN|apply keep_drew|apply keep_alloc)|exact h_)):p:=hs h
theorem kc {w W:World}{a:Addr}{v:Value}{p:Prop} (h:Az (Below w.heap.size w W)) (e:w.cell? a=some v) (hs:W.cell? a=some v→p:=by exact fun h_=>h_):p:=hs ((h.out.cell (World.block_lt_of_cell? w _ e)).trans e)
theorem am {p:Prop} (h:p:=by first|(with_reducible assumption)|assumption):p:=h
theorem ff:¬(false=true):=by decide
theorem rh {p:Prop} (h:p:=by first|(rw[hy];with_reducible exact H)|(have H2_:=(Option.bind_some _ _).symm.trans H;rw[hy];with_reducible exact H2_)|(have H2_:=(Option.bind_some _ _).symm.trans H;with_reducible exact H2_)|with_reducible exact H|(rw[hy];exact H)|exact H):p:=h
theorem kd {p:Prop} (h:p:=by repeat(first|exact Drawn0.refl _|apply Drawn0.step)):p:=h
end Go.Proofs.YtemeiocmgbgikaaW.PrintMore
namespace Go.Proofs.YtemeiocmgbgikaaW.PrintWords
theorem om {p:Prop} (h:p:=by omega):p:=h
theorem sk (k:Nat) (h:0<k:=by omega):∃m,k=m+1:=⟨k - 1,by omega⟩
theorem od {p:Prop} [Decidable p] (h:decide p=true:=by first|(with_reducible assumption)|assumption):p:=of_decide_eq_true h
theorem ode {p:Prop} [Decidable p] (h:p):decide p=true:=decide_eq_true h
theorem ets {p:Prop} (h:p):p=True:=eq_true h
theorem ip {c:Prop}{h:Decidable c} (hc:c){α:Sort _}{t e:α}:ite c t e=t:=if_pos hc
theorem ig {c:Prop}{h:Decidable c} (hc:¬c){α:Sort _}{t e:α}:ite c t e=e:=if_neg hc
end Go.Proofs.YtemeiocmgbgikaaW.PrintWords

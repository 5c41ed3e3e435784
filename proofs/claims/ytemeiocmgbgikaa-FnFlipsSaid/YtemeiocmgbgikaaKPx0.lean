-- The walks, cut and laid together by this session's tools (prune.py, sq2.py, min.py: shorter names, no needless spaces). Not trusted: Lean checks it.
import Derived.Test.YtemeiocmgbgikaaKWZip
import Derived.Test.YtemeiocmgbgikaaProg
import Derived.Below
import Derived.Deep.Draws
import Derived.Deep.AppendLies
import Derived.Maps.AppendAt
import Derived.OwnWalk
import Derived.Laws.BytesArg
import Derived.Laws.MakeOwn
import Derived.Laws.OwnMore
import Derived.Deep.OwnRows
import Derived.Tactics
import Derived.Lib.ConvBytes
import Derived.Laws.Slices
import Derived.WalkKit
import Derived.KernelRfl
import Derived.RowKit3
import Derived.Deep.LoopGhost
import Derived.Deep.QuietTactic
import Derived.BigQuiet
import Derived.WideLaws
import Derived.Deep.DeepCutAuto
import Derived.Deep.CutBlock
import Derived.Deep.RegionHeld3
import Derived.Laws.Rows
import Derived.Lib.AppendStr
import Derived.ArgAppend
import Derived.Laws.IdiomCopy
import Derived.OrdersHeld
import Derived.Laws.BitsLemmas
import Derived.RowKit
import Derived.Maps.OwnOps
import Derived.Maps.Views
import Derived.Laws.CopyOwn
import Derived.Maps.OwnSet
import Derived.DeepKeys4
import Derived.MapViews
import Derived.Test.YtemeiocmgbgikaaKWWords
import Derived.Test.YtemeiocmgbgikaaKWLast
import Derived.Test.YtemeiocmgbgikaaKWTab
import Derived.Test.YtemeiocmgbgikaaKWFour
import Derived.Test.YtemeiocmgbgikaaKWQPut
import Derived.Test.YtemeiocmgbgikaaKWApart
import Derived.Test.YtemeiocmgbgikaaKWArr
import Derived.Test.YtemeiocmgbgikaaKWZeros
import Derived.Test.YtemeiocmgbgikaaKWFoot
import Derived.Test.YtemeiocmgbgikaaKWKept
import Derived.Test.YtemeiocmgbgikaaKWShare
import Derived.Test.YtemeiocmgbgikaaKWN
import Derived.Test.YtemeiocmgbgikaaKWFootNe
import Derived.Test.YtemeiocmgbgikaaKWAt
import Derived.Test.YtemeiocmgbgikaaKWEqStruct
import Derived.Test.YtemeiocmgbgikaaKWRepsOne
import Derived.Test.YtemeiocmgbgikaaKWInv
import Derived.Test.YtemeiocmgbgikaaKWInvWords
import Derived.Test.YtemeiocmgbgikaaKWGuard
import Derived.Test.YtemeiocmgbgikaaKWNEv
import Derived.Test.YtemeiocmgbgikaaKWMore
namespace Go.Proofs.Ytemeiocmgbgikaa.P
open Go.RowKit Go.Proofs.YtemeiocmgbgikaaW.PrintWords Go.Proofs.YtemeiocmgbgikaaW.PrintLast Go.Proofs.YtemeiocmgbgikaaW.PrintMore
attribute [local go_sem] max2_int min2_int max_two min_two max_three min_three max_four min_four   -- for this text's walks alone
set_option linter.unusedVariables false
set_option linter.unusedSimpArgs false
set_option maxHeartbeats 8000000
set_option maxRecDepth 100000
open Option renaming bind_eq_some_iff → be
def errW:Option Int→Value
 |none=> .nilIface
 |some c=> .iface 0 (.int .i64 c)
theorem eWn:errW none= .nilIface:=rfl
theorem eWs (c:Int):errW (some c)= .iface 0 (.int .i64 c):=rfl
theorem info3:(Try.prog.info? 3).map (fun i=>(i.zero,i.size,i.bytes))=some (some (.int .i64 0),1,8):=by kernel_rfl
theorem info4:(Try.prog.info? 4).map (fun i=>(i.zero,i.size,i.bytes))=some (some (.bool false),1,1):=by kernel_rfl
theorem info9:(Try.prog.info? 9).map (fun i=>(i.zero,i.size,i.bytes))=some (some (.string ⟨#[]⟩),1,16):=by kernel_rfl
theorem info25:(Try.prog.info? 25).map (fun i=>(i.zero,i.size,i.bytes))=some (some (.slice none 0 0),1,24):=by kernel_rfl
-- the values' own types
def rd_L1 (xs:List (List Int)) (i:Int):(List Int):=xs.getD i.toNat ([]:List Int)
theorem at_L1 {w:World}{A:Option Addr}{n:Nat}{xs:List (List Int)} (h:Kd.C (Kd.slice 3 (Kd.int .i64)) w A n xs) (i:Int) (h0:0≤i) (h1:i<n):∃ad A0 c0,A=some ad∧w.cell? (ad.add i.toNat)=some (.slice A0 (rd_L1 xs i).length c0)∧(rd_L1 xs i).length≤c0∧(Kd.int .i64).C w A0 (rd_L1 xs i).length (rd_L1 xs i):=by
 obtain⟨ad,c,e,_,hK,Aa⟩:=Kd.C_get h ([]:List Int) i h0 h1
 have hc:∀j u,c[j]?= some u→w.cell? (ad.add (i.toNat*1+j))=some u:=Aa
 obtain⟨A0,c0,rfl,l0,g0⟩:=hK
 exact⟨ad,A0,c0,e,by have hq:=hc 0 _ rfl;rwa [Nat.mul_one,Nat.add_zero]at hq,l0,g0⟩
theorem eqA45 (d:Nat) (w:World) (x0 y0:Int) (x1 y1:Int) (x2 y2:Int):
  (Op.equalIn (d+2) 45 (.agg #[.int .i64 x0, .int .i64 x1, .int .i64 x2]) (.agg #[.int .i64 y0, .int .i64 y1, .int .i64 y2])).run Try.prog w= .ok (x0== y0 && (x1== y1 && (x2== y2))) w:=by
 refine eqA_of Try.underlying45 (by kernel_rfl) ?_
 refine eqf_cons (by rfl) (by go_simp;rfl) (by go_simp;rfl) (by go_simp) ?_
 refine eqf_cons (by rfl) (by go_simp;rfl) (by go_simp;rfl) (by go_simp) ?_
 exact eqf_last (by rfl) (by go_simp;rfl) (by go_simp;rfl) (by go_simp)
theorem bw_2 {n:Nat}{v v':World} (h:Below n v v':=by repeat(first|(with_reducible first|exact HB.out|apply bwA|apply pbN|apply bwD|refine bwS ?_ GE102.out|refine bwS ?_ GE103.out)|exact HB.out)):Below n v v':=h
def jW.f (l0:List Int):Option (Bool):=some (decide ((l0.length:Int)>1048576))
theorem jW.calls (A0:Option Addr) (c0:Nat) (l0:List Int) (r:Bool) (w:World) (Aa:Kd.C (Kd.int .u8) w A0 l0.length l0) (Ab:l0.length≤c0) (h:jW.f l0=some r):
  Calls Try.prog 4 #[.slice A0 l0.length c0] w fun e w'=>e= .returned (.bool r)∧Drawn0 w w':=by
 have Ac:=Az.mk Aa
 have Ad:=Az.mk Ab
 clear Aa Ab
 have H:=h
 unfold jW.f at H
 clear h
 obtain rfl:=Option.some.inj H
 go_enter Try.func4,Try.ntmps4
 go_wp2
 go_ret
 exact⟨rq2,kd⟩
def gJ.f (a0:Bool):Option (Int):=if a0=true then(some 1) else(some 0)
theorem gJ.calls (a0:Bool) (r:Int) (w:World) (h:gJ.f a0=some r):
  Calls Try.prog 55 #[.bool a0] w fun e w'=>e= .returned (.int .i64 r)∧Drawn0 w w':=by
 have H:=h
 unfold gJ.f at H
 clear h
 by_cases c2:a0=true
 ·subst c2
  rw[ip rfl]at H
  obtain rfl:=Option.some.inj H
  go_enter Try.func55,Try.ntmps55
  go_wp2
  go_ret
  exact⟨rq2,kd⟩
 replace c2:=Bool.eq_false_iff.mpr c2
 subst c2
 rw[ig ff]at H
 obtain rfl:=Option.some.inj H
 go_enter Try.func55,Try.ntmps55
 go_wp2
 go_ret
 exact⟨rq2,kd⟩
/-- A state of type 76 at block g of W; what its slices lead to came in by w0. -/
def IsS76 (w0 W:World) (g:Nat) (f0:List Int) (f1:Int) (f2:Int):Prop:=∃A0 c0,W.heap[g]?= some (.cells #[.slice A0 f0.length c0, .int .i64 f1, .int .i64 f2] 76 (0,0))∧w0.heap.size≤g∧Kd.C (Kd.int .u8) w0 A0 f0.length f0
theorem IsS76.grown {w0 W:World}{g:Nat}{f0:List Int}{f1:Int}{f2:Int}{W1:World}{row:Option Nat} (h:IsS76 w0 W g f0 f1 f2) (hw:W.grownBy W1 row) (hne:some g≠row):IsS76 w0 W1 g f0 f1 f2:=by
 obtain⟨A0,c0,hb,hg,Aa⟩:=h
 exact⟨A0,c0,blk_grown hb hw hne,hg,Aa⟩
theorem IsS76.kept {w0 W:World}{g:Nat}{f0:List Int}{f1:Int}{f2:Int}{W1:World}{S:Nat→Prop} (h:IsS76 w0 W g f0 f1 f2) (hk:Kept W W1 S) (hne:¬S g):IsS76 w0 W1 g f0 f1 f2:=by
 obtain⟨A0,c0,hb,hg,Aa⟩:=h
 exact⟨A0,c0,blk_kept hb hk hne,hg,Aa⟩
theorem IsS76.below {w0 W:World}{g:Nat}{f0:List Int}{f1:Int}{f2:Int}{W1:World} (h:IsS76 w0 W g f0 f1 f2) (hw:Below W.heap.size W W1):IsS76 w0 W1 g f0 f1 f2:=h.grown (grown_of_below hw none) (by simp)
theorem IsS76.alloc {w0 W:World}{g:Nat}{f0:List Int}{f1:Int}{f2:Int} (h:IsS76 w0 W g f0 f1 f2) (o:Obj):IsS76 w0 (W.alloc o) g f0 f1 f2:=h.below (bwA (Below.refl _ _) o)
theorem IsS76.drewN {w0 W:World}{g:Nat}{f0:List Int}{f1:Int}{f2:Int} (h:IsS76 w0 W g f0 f1 f2) (m:Nat):IsS76 w0 (W.drewN m) g f0 f1 f2:=h
theorem IsS76.drew {w0 W:World}{g:Nat}{f0:List Int}{f1:Int}{f2:Int} (h:IsS76 w0 W g f0 f1 f2):IsS76 w0 W.drew g f0 f1 f2:=h
theorem IsS76.at_ {w0 W:World}{g:Nat}{f0:List Int}{f1:Int}{f2:Int}{w':World}{m:Nat} (hq:W.drewN m=w') (h:IsS76 w0 W g f0 f1 f2):IsS76 w0 w' g f0 f1 f2:=by subst hq;exact IsS76.drewN h m
theorem IsS76.apart {w0 W:World}{g:Nat}{f0:List Int}{f1:Int}{f2:Int}{α:Type}{d:Kd α}{e:Nat}{base:Nat}{ok:Nat→Prop}{v:Value}{xs:List α} (h:IsS76 w0 W g f0 f1 f2) (ho:d.R e W base ok v xs) (ht:∀q,q∈e :: d.E→q≠76):d.R e W base (fun k=>ok k∧k≠g) v xs:=by
 obtain⟨A0,c0,hb,hg,Aa⟩:=h
 exact Kd.R_types ho hb ht
theorem IsS76.own_ne {w0 W:World}{g:Nat}{f0:List Int}{f1:Int}{f2:Int}{α:Type}{d:Kd α}{e:Nat}{base:Nat}{ok:Nat→Prop}{v:Value}{xs:List α} (h:IsS76 w0 W g f0 f1 f2) (ho:d.R e W base ok v xs) (ht:e≠76):some g≠v.ownBlock:=by
 obtain⟨A0,c0,hb,hg,Aa⟩:=h
 exact Kd.R_ne ho hb ht
theorem IsS76.apartQ {w0 W:World}{g:Nat}{f0:List Int}{f1:Int}{f2:Int}{α:Type}{d:Kd α}{e:Nat}{base:Nat}{ok:Nat→Prop}{v:Value}{xs:List α} (h:IsS76 w0 W g f0 f1 f2) (ho:d.Q e W base ok v xs) (ht:∀q,q∈e :: d.E→q≠76):d.Q e W base (fun k=>ok k∧k≠g) v xs:=by
 obtain⟨A0,c0,hb,hg,Aa⟩:=h
 exact Kd.Q_types ho hb ht
theorem IsS76.own_neQ {w0 W:World}{g:Nat}{f0:List Int}{f1:Int}{f2:Int}{α:Type}{d:Kd α}{e:Nat}{base:Nat}{ok:Nat→Prop}{v:Value}{xs:List α} (h:IsS76 w0 W g f0 f1 f2) (ho:d.Q e W base ok v xs) (ht:e≠76):some g≠v.ownBlock:=by
 obtain⟨A0,c0,hb,hg,Aa⟩:=h
 exact Kd.Q_ne ho hb ht
theorem IsS76.apartS {w0 W:World}{g:Nat}{f0:List Int}{f1:Int}{f2:Int}{α:Type}{d:Kd α}{e:Nat}{base:Nat}{ok:Nat→Prop}{v:Value}{xs:List α} (h:IsS76 w0 W g f0 f1 f2) (ho:d.S e W base ok v xs) (ht:∀q,q∈e :: d.E→q≠76):d.S e W base (fun k=>ok k∧k≠g) v xs:=by
 obtain⟨A0,c0,hb,hg,Aa⟩:=h
 exact Kd.S_types ho hb ht
theorem IsS76.own_neS {w0 W:World}{g:Nat}{f0:List Int}{f1:Int}{f2:Int}{α:Type}{d:Kd α}{e:Nat}{base:Nat}{ok:Nat→Prop}{v:Value}{xs:List α} (h:IsS76 w0 W g f0 f1 f2) (ho:d.S e W base ok v xs) (ht:e≠76):some g≠v.ownBlock:=by
 obtain⟨A0,c0,hb,hg,Aa⟩:=h
 exact Kd.S_ne ho hb ht
theorem IsS76.ge {w0 W:World}{g:Nat}{f0:List Int}{f1:Int}{f2:Int} (h:IsS76 w0 W g f0 f1 f2):w0.heap.size≤g:=by
 obtain⟨A0,c0,hb,hg,Aa⟩:=h
 exact hg
theorem IsS76.far {w0 W:World}{g:Nat}{f0:List Int}{f1:Int}{f2:Int}{p:Addr} (h:IsS76 w0 W g f0 f1 f2) (hne:g≠p.block) (u:Value):IsS76 w0 (W.setCell p u) g f0 f1 f2:=by
 obtain⟨A0,c0,hb,hg,Aa⟩:=h
 exact⟨A0,c0,bkf hb hne u,hg,Aa⟩
theorem cellS76_0 {W:World}{g:Nat}{A0:Option Addr}{c0:Nat}{f0:List Int}{f1:Int}{f2:Int} (h:W.heap[g]?= some (.cells #[.slice A0 f0.length c0, .int .i64 f1, .int .i64 f2] 76 (0,0))):W.cell? ⟨g,0,none⟩=some (.slice A0 f0.length c0):=(bkC h 0).trans rfl
theorem cellS76_1 {W:World}{g:Nat}{A0:Option Addr}{c0:Nat}{f0:List Int}{f1:Int}{f2:Int} (h:W.heap[g]?= some (.cells #[.slice A0 f0.length c0, .int .i64 f1, .int .i64 f2] 76 (0,0))):W.cell? ⟨g,1,none⟩=some (.int .i64 f1):=(bkC h 1).trans rfl
theorem IsS76.set_1 {w0 W:World}{g:Nat}{f0:List Int}{f1:Int}{f2:Int} (h:IsS76 w0 W g f0 f1 f2) (x:Int):IsS76 w0 (W.setCell ⟨g,1,none⟩ (.int .i64 x)) g f0 x f2:=by
 obtain⟨A0,c0,hb,hg,Aa⟩:=h
 exact⟨A0,c0,by simpa using blk_set hb 1 (.int .i64 x),hg,Aa⟩
theorem cellS76_2 {W:World}{g:Nat}{A0:Option Addr}{c0:Nat}{f0:List Int}{f1:Int}{f2:Int} (h:W.heap[g]?= some (.cells #[.slice A0 f0.length c0, .int .i64 f1, .int .i64 f2] 76 (0,0))):W.cell? ⟨g,2,none⟩=some (.int .i64 f2):=(bkC h 2).trans rfl
theorem IsS76.set_2 {w0 W:World}{g:Nat}{f0:List Int}{f1:Int}{f2:Int} (h:IsS76 w0 W g f0 f1 f2) (x:Int):IsS76 w0 (W.setCell ⟨g,2,none⟩ (.int .i64 x)) g f0 f1 x:=by
 obtain⟨A0,c0,hb,hg,Aa⟩:=h
 exact⟨A0,c0,by simpa using blk_set hb 2 (.int .i64 x),hg,Aa⟩
theorem IsS76.new (w0 W:World) (A0:Option Addr) (c0:Nat) (f0:List Int) (f1:Int) (f2:Int) (hB:Below w0.heap.size w0 W) (Aa:Kd.C (Kd.int .u8) w0 A0 f0.length f0):IsS76 w0 (W.alloc (.cells #[.slice A0 f0.length c0, .int .i64 f1, .int .i64 f2] 76)) W.heap.size f0 f1 f2:=⟨A0,c0,by simpa using heap_alloc_new W _,hB.size,Aa⟩
theorem kI {q p:Prop} (h:q) (hs:q→p:=by intro h_;repeat(first|(with_reducible first|exact h_|apply IsS76.alloc|apply IsS76.drewN|apply IsS76.drew|apply IsS76.set_1|apply IsS76.set_2)|exact h_)):p:=hs h
def jG.l0:Nat→List Int→Int→Int→Option (List Int × Int × Int)
 |0,_,_,_=>none
 |k+1,x0,x3,x4=>if x4<(x0.length:Int) then(if x4<4000 then(if 0≤x4 then(jG.l0 k x0 (Go.bits .and .i64 (wrap64 ((wrap64 ((wrap64 (x3*131))+(wrap64 (rd x0 x4))))+7)) 1073741823) (wrap64 (x4+1))) else(none)) else(some (x0,0,x3))) else(some (x0,0,x3))
def jG.f (k:Nat) (l0:List Int):Option (List Int × Int × Int):=jG.l0 k l0 (wrap64 (26583+(l0.length:Int))) 0
theorem jG.calls (k:Nat) (A0:Option Addr) (c0:Nat) (l0:List Int) (r1:List Int) (r2:Int) (r3:Int) (w0 w:World) (hB:Below w0.heap.size w0 w) (As:Kd.C (Kd.int .u8) w0 A0 l0.length l0) (Au:l0.length≤c0) (h:jG.f k l0=some (r1,r2,r3)):
  Calls Try.prog 60 #[.slice A0 l0.length c0] w fun e w'=>∃g_:Nat,e= .returned (.pointer (some ⟨g_,0,none⟩))∧IsS76 w0 w' g_ r1 r2 r3∧Below w0.heap.size w0 w'∧Below w.heap.size w w':=by
 have hu76:=Try.underlying76
 have Al:=Az.mk As
 have Ay:=Az.mk Au
 clear As Au
 have HBW:=Az.mk (Below.refl w.heap.size w)
 have HW0:=Az.mk hB.size
 have HB:=Az.mk hB
 clear hB
 have H:=h
 unfold jG.f at H
 clear h
 have H':=Az.mk H
 clear H
 go_enter Try.func60,Try.ntmps60
 go_wp2
 go_loopg [3,4] k (fun kq v3 v4 w'=>∃(Ab:Int) (Aa:Int),v3= .int .i64 Ab∧v4= .int .i64 Aa∧Az (jG.l0 kq l0 Ab Aa=some (r1,r2,r3))∧Az (kq≤k)∧Az (Below w0.heap.size w0 w')∧Az (Below w.heap.size w w'))
 case atStart=>exact⟨(wrap64 (26583+(l0.length:Int))),(0),rq2,rq2,H',⟨Nat.le_refl _⟩,⟨bw_2⟩,⟨by repeat(first|(with_reducible first|exact HBW.out|apply bwA|apply pbN|apply bwD)|exact HBW.out)⟩⟩
 clear H'
 obtain⟨Ab,Aa,rfl,rfl,HA,HK1,HB,HBW⟩:=hrel
 cases gk with
 |zero=>exact absurd HA.out (by simp[jG.l0])
 |succ k1=>
  have H:=HA.out
  clear HA
  simp only[jG.l0]at H
  by_cases c2:Aa<(l0.length:Int)
  rotate_left
  ·rw[ig c2]at H
   have Am:=decide_eq_false c2
   clear c2
   simp only[Option.some.injEq,Prod.mk.injEq]at H
   obtain⟨rfl,rfl,rfl⟩:=H
   go_wp2_with (first|((with_reducible refine gtD (N:=31) rfl ?_);refine bx (N:=31) (cs:= #[.slice A0 l0.length c0, .int .i64 0, .int .i64 Ab]) (t:=76) ?_;intro Ac hg w6 hbox hb;replace HB:=Az.mk (bwT bw_2 hb);have Ah:=Az.mk (hbox);have Ai:=Az.mk ((by rw[hg];exact(bwZ (by repeat(first|(with_reducible first|exact HBW.out|apply bwA|apply pbN|apply bwD)|exact HBW.out))):w.heap.size≤Ac));have GE103:=Az.mk ((Nat.le_trans HW0.out (by rw[hg];exact(bwZ (by repeat(first|(with_reducible first|exact HBW.out|apply bwA|apply pbN|apply bwD)|exact HBW.out))):w.heap.size≤Ac):w0.heap.size≤Ac));replace HBW:=Az.mk (bwT HBW.out hb);clear hb hbox hg))
   go_ret
   exact⟨_,rfl,(show IsS76 w0 _ Ac l0 0 Ab from⟨_,_,by(with_reducible repeat first|apply bkN|apply bkD|apply bkA);exact Ah.out,GE103.out,Al.out⟩),by repeat(first|(with_reducible first|exact HB.out|apply bwA|apply pbN|apply bwD|refine bwS ?_ GE103.out)|exact HB.out),by repeat(first|(with_reducible first|exact HBW.out|apply bwA|apply pbN|apply bwD|refine bwS ?_ Ai.out)|exact HBW.out)⟩
  rw[ip c2]at H
  have Am:=ode c2
  clear c2
  by_cases c3:Aa<4000
  rotate_left
  ·rw[ig c3]at H
   have Ap:=decide_eq_false c3
   clear c3
   simp only[Option.some.injEq,Prod.mk.injEq]at H
   obtain⟨rfl,rfl,rfl⟩:=H
   go_wp2_with (first|((with_reducible refine gtD (N:=31) rfl ?_);refine bx (N:=31) (cs:= #[.slice A0 l0.length c0, .int .i64 0, .int .i64 Ab]) (t:=76) ?_;intro Ad hg w5 hbox hb;replace HB:=Az.mk (bwT bw_2 hb);have Aj:=Az.mk (hbox);have Ak:=Az.mk ((by rw[hg];exact(bwZ (by repeat(first|(with_reducible first|exact HBW.out|apply bwA|apply pbN|apply bwD)|exact HBW.out))):w.heap.size≤Ad));have GE102:=Az.mk ((Nat.le_trans HW0.out (by rw[hg];exact(bwZ (by repeat(first|(with_reducible first|exact HBW.out|apply bwA|apply pbN|apply bwD)|exact HBW.out))):w.heap.size≤Ad):w0.heap.size≤Ad));replace HBW:=Az.mk (bwT HBW.out hb);clear hb hbox hg))
   go_ret
   exact⟨_,rfl,(show IsS76 w0 _ Ad l0 0 Ab from⟨_,_,by(with_reducible repeat first|apply bkN|apply bkD|apply bkA);exact Aj.out,GE102.out,Al.out⟩),by repeat(first|(with_reducible first|exact HB.out|apply bwA|apply pbN|apply bwD|refine bwS ?_ GE102.out)|exact HB.out),by repeat(first|(with_reducible first|exact HBW.out|apply bwA|apply pbN|apply bwD|refine bwS ?_ Ak.out)|exact HBW.out)⟩
  rw[ip c3]at H
  have Ap:=ode c3
  clear c3
  by_cases c4:0≤Aa
  rotate_left
  ·rw[ig c4]at H
   exact absurd H (by simp)
  rw[ip c4]at H
  have Ax:=ode c4
  clear c4
  have H':=Az.mk H
  clear H
  have Af:0≤(Aa:Int):=od
  have Ag:Aa<(l0.length:Int):=od
  obtain⟨Av,Aq,Ae⟩:=Kd.at_int Al.out Aa Af Ag
  cases Aq
  replace Ae:=pw_cell_below HB.out Ae
  replace Af:=ets Af
  replace Ag:=ets Ag
  go_wp2
  go_roundg k1
  case measure=>have:=HK1.out;omega
  case rel=>exact⟨(Go.bits .and .i64 (wrap64 ((wrap64 ((wrap64 (Ab*131))+(wrap64 (rd l0 Aa))))+7)) 1073741823),(wrap64 (Aa+1)),rq2,rq2,H',⟨by have:=HK1.out;omega⟩,⟨bw_2⟩,⟨by repeat(first|(with_reducible first|exact HBW.out|apply bwA|apply pbN|apply bwD)|exact HBW.out)⟩⟩
def gV.f (a0:Int) (a1:Int) (a2:Int):Option (Bool):=if a0 ≥ a1 then(some (decide (a0≤a2))) else(some false)
theorem gV.calls (a0:Int) (a1:Int) (a2:Int) (r:Bool) (w:World) (h:gV.f a0 a1 a2=some r):
  Calls Try.prog 52 #[.int .i64 a0, .int .i64 a1, .int .i64 a2] w fun e w'=>e= .returned (.bool r)∧Drawn0 w w':=by
 have H:=h
 unfold gV.f at H
 clear h
 by_cases c4:a0 ≥ a1
 ·rw[ip c4]at H
  have Aa:decide (a1≤a0)=true:=ode c4
  clear c4
  obtain rfl:=Option.some.inj H
  go_enter Try.func52,Try.ntmps52
  go_wp2
  go_ret
  exact⟨rq2,kd⟩
 rw[ig c4]at H
 have Aa:decide (a1≤a0)=false:=decide_eq_false c4
 clear c4
 obtain rfl:=Option.some.inj H
 go_enter Try.func52,Try.ntmps52
 go_wp2
 go_ret
 exact⟨rq2,kd⟩
theorem bw_3 {n:Nat}{v v':World} (h:Below n v v':=by repeat(first|(with_reducible first|exact HB.out|apply bwA|apply pbN|apply bwD)|exact HB.out)):Below n v v':=h
mutual
def fB.j0:Nat→List (List Int)→Int→Bool→Option (Bool)
 |0,_,_,_=>none
 |k+1,x0,x3,x20=>if x20=true then(some false) else(if 0≤(wrap64 ((wrap64 (2*x3))+1)) then(if(wrap64 ((wrap64 (2*x3))+1):Int).toNat≤281474976710656 then(fB.l0 k x0 x3 (List.replicate (wrap64 ((wrap64 (2*x3))+1):Int).toNat false) 0) else(none)) else(none))
def fB.l0:Nat→List (List Int)→Int→List Bool→Int→Option (Bool)
 |0,_,_,_,_=>none
 |k+1,x0,x3,x4,x5=>if x5<(x0.length:Int) then(if 0≤x5 then(if((rd_L1 x0 x5).length:Int)=3 then(fB.l1 k x0 x3 x4 x5 0) else(some false)) else(none)) else(some true)
def fB.l1:Nat→List (List Int)→Int→List Bool→Int→Int→Option (Bool)
 |0,_,_,_,_,_=>none
 |k+1,x0,x3,x4,x5,x6=>if x6<3 then(if 0≤x5 then(if x5<(x0.length:Int) then(if 0≤x6 then(if x6<((rd_L1 x0 x5).length:Int) then(if(rd (rd_L1 x0 x5) x6)=0 then(some false) else((gV.f (rd (rd_L1 x0 x5) x6) (wrap64 (-x3)) x3).bind fun t111=>(if t111=true then(if 0≤(wrap64 (x3+(rd (rd_L1 x0 x5) x6))) then(if(wrap64 (x3+(rd (rd_L1 x0 x5) x6)))<(x4.length:Int) then(if rdOf false x4 (wrap64 (x3+(rd (rd_L1 x0 x5) x6)))=true then(some false) else(fB.l1 k x0 x3 (x4.set ((wrap64 (x3+(rd (rd_L1 x0 x5) x6))):Int).toNat true) x5 (wrap64 (x6+1)))) else(none)) else(none)) else(some false)))) else(none)) else(none)) else(none)) else(none)) else(fB.l0 k x0 x3 x4 (wrap64 (x5+1)))
end
def fB.f (k:Nat) (l0:List (List Int)):Option (Bool):=if((l0.length:Int) % 2)=0 then((gV.f (wrap64 (Int.tdiv (wrap64 (3*(l0.length:Int))) 2)) 3 9).bind fun t104=>(fB.j0 k l0 (wrap64 (Int.tdiv (wrap64 (3*(l0.length:Int))) 2)) (!t104))) else(fB.j0 k l0 (wrap64 (Int.tdiv (wrap64 (3*(l0.length:Int))) 2)) true)
theorem fB.calls (k:Nat) (A0:Option Addr) (c0:Nat) (l0:List (List Int)) (r:Bool) (w:World) (Ea:Kd.C (Kd.slice 3 (Kd.int .i64)) w A0 l0.length l0) (Eb:l0.length≤c0) (h:fB.f k l0=some r):
  Calls Try.prog 28 #[.slice A0 l0.length c0] w fun e w'=>e= .returned (.bool r)∧Below w.heap.size w w':=by
 have Ck:=Az.mk Ea
 have Er:=Az.mk Eb
 clear Ea Eb
 have HB:=Az.mk (Below.refl w.heap.size w)
 have H:=h
 unfold fB.f at H
 clear h
 have Do:=Az.mk H
 clear H
 go_enter Try.func28,Try.ntmps28
 go_upto_region 2 with (fail)
 go_cut [20] (fun Ei wc=>∃(kq:Nat) (Bo:Bool),Ei= .bool Bo∧Az (fB.j0 kq l0 (wrap64 (Int.tdiv (wrap64 (3*(l0.length:Int))) 2)) Bo=some r)∧Az (kq≤k)∧Az (Below w.heap.size w wc))
 case first=>
  have H:=Do.out
  clear Do
  by_cases c3:((l0.length:Int) % 2)=0
  rotate_left
  ·rw[ig c3]at H
   have Ba:=beq_eq_false_iff_ne.mpr c3
   have Br:=bne_iff_ne.mpr c3
   (first|rw[Ba]|(simp only[i64_w,i32_w];rw[Ba])|skip)
   have H':=Az.mk H
   clear H
   go_wp2
   go_meet
   case rel=>exact⟨_,(true),rq2,H',⟨by first|omega|exact Nat.le_refl _⟩,⟨bw_3⟩⟩
  rw[ip c3]at H
  have Ba:=beq_iff_eq.mpr c3
  have Br:=bne_eq_false_iff_eq.mpr c3
  clear c3
  (first|rw[Ba]|(simp only[i64_w,i32_w];rw[Ba])|skip)
  replace H:=bez H
  obtain⟨Cn,A4,H⟩:=H
  try dsimp only at H
  have H':=Az.mk H
  clear H
  go_wp2_with (first|(go_at_call 52;(with_reducible refine(gV.calls (wrap64 (Int.tdiv (wrap64 (3*(l0.length:Int))) 2)) 3 9 Cn _ A4.out).mono ?_);rintro e w' ⟨rfl,⟨nd,rfl⟩⟩))
  go_meet
  case rel=>exact⟨_,(!Cn),rq2,H',⟨by first|omega|exact Nat.le_refl _⟩,⟨bw_3⟩⟩
 clear Do
 try clear c3
 try clear Ba
 try clear Br
 obtain⟨kq,Bo,rfl,HA,De,HB⟩:=hcut
 cases kq with
 |zero=>exact absurd HA.out (by simp[fB.j0])
 |succ Dp=>
  have H:=HA.out
  clear HA
  simp only[fB.j0]at H
  by_cases c5:Bo=true
  ·subst c5
   rw[ip rfl]at H
   obtain rfl:=Option.some.inj H
   go_wp2
   go_ret
   exact⟨rq1,bw_3⟩
  replace c5:=Bool.eq_false_iff.mpr c5
  subst c5
  rw[ig ff]at H
  obtain⟨Cl,Bb⟩:∃j_:Int,(wrap64 ((wrap64 (2*(wrap64 (Int.tdiv (wrap64 (3*(l0.length:Int))) 2))))+1))=j_:=⟨_,rfl⟩
  first|rw[Bb]at H|simp only[Bb]at H
  have hji6w:(IntKind.i64.wrap ((wrap64 (2*(wrap64 (Int.tdiv (wrap64 (3*(l0.length:Int))) 2))))+1))=Cl:=(i64_w _).trans Bb
  by_cases c7:0≤(Cl)
  rotate_left
  ·rw[ig c7]at H
   exact absurd H (by simp)
  rw[ip c7]at H
  have Co:=ets c7
  have Cp:=ode c7
  clear c7
  by_cases c8:(Cl:Int).toNat≤281474976710656
  rotate_left
  ·rw[ig c8]at H
   exact absurd H (by simp)
  rw[ip c8]at H
  have Cq:=ets c8
  have Cr:=ode c8
  clear c8
  obtain⟨Cs,hy⟩:∃y_:List Bool,y_=(List.replicate (Cl:Int).toNat false):=⟨_,rfl⟩
  replace H:(fB.l0 Dp l0 (wrap64 (Int.tdiv (wrap64 (3*(l0.length:Int))) 2)) Cs 0)=some r:=rh
  have Bv:=Az.mk hy
  clear hy
  have H':=Az.mk H
  clear H
  go_wp2_with (first|((with_reducible refine gtD (N:=24) rfl ?_);refine Kd.R_make Kd.bool _ 4 rfl (N:=24) rfl 62 _ _ rfl Cl rfl rfl Try.underlying62 (.bool false) 1 info4 rfl (by decide) (by omega) false (ok:=fun _=>True) (okp:=fun _=>True) rfl (fun _ hk=>hk) trivial (od) (Nat.le_trans (Nat.mul_le_mul_right _ (od:Cl.toNat≤281474976710656)) (by omega)) (Below.refl _ _) (Nat.le_refl _) ?_;intro Ca w9 Bp hb hg_ hnew_;clear hg_ hnew_;(first|rw[←Bv.out]at Bp|(simp only[Int.reduceToNat]at Bp;rw[←Bv.out]at Bp));have Ct:=Az.mk (Kd.R_lower Bp (bwZ bw_3));replace HB:=Az.mk (bwT bw_3 hb);clear hb Bp))
  go_loopg [5] Dp (fun kq v5 w'=>∃(Bs:List Bool) (Aa:Int),v5= .int .i64 Aa∧Az (fB.l0 kq l0 (wrap64 (Int.tdiv (wrap64 (3*(l0.length:Int))) 2)) Bs Aa=some r)∧Az (kq≤Dp)∧Az (Kd.R Kd.bool 4 w' w.heap.size (fun _=>True) Ca Bs)∧Az (Below w.heap.size w w'))
  case atStart=>exact⟨(Cs),(0),rq2,H',⟨Nat.le_refl _⟩,⟨kR Ct.out⟩,⟨bw_3⟩⟩
  clear H'
  try clear c3
  try clear Ba
  try clear Br
  try clear c5
  try clear c7
  try clear Co
  try clear Cp
  try clear c8
  try clear Cq
  try clear Cr
  obtain⟨Bs,Aa,rfl,HA,HK2,Aj,HB⟩:=hrel
  cases gk with
  |zero=>exact absurd HA.out (by simp[fB.l0])
  |succ k2=>
   have H:=HA.out
   clear HA
   simp only[fB.l0]at H
   by_cases Cb:Aa<(l0.length:Int)
   rotate_left
   ·rw[ig Cb]at H
    have Bw:=decide_eq_false Cb
    clear Cb
    obtain rfl:=Option.some.inj H
    go_wp2
    go_ret
    exact⟨by first|rfl|(simp[eWn,eWs] <;> rfl)|(simp only[←Bb];first|rfl|(simp[eWn,eWs] <;> rfl))|(simp[*,eWn,eWs] <;> rfl),bw_3⟩
   rw[ip Cb]at H
   have Bw:=ode Cb
   clear Cb
   by_cases Cu:0≤Aa
   rotate_left
   ·rw[ig Cu]at H
    exact absurd H (by simp)
   rw[ip Cu]at H
   have Cv:=ode Cu
   clear Cu
   by_cases Bx:((rd_L1 l0 Aa).length:Int)=3
   rotate_left
   ·rw[ig Bx]at H
    have By:=beq_eq_false_iff_ne.mpr Bx
    have Bz:=bne_iff_ne.mpr Bx
    obtain rfl:=Option.some.inj H
    have Bc:0≤(Aa:Int):=od
    have Bd:Aa<(l0.length:Int):=od
    obtain⟨Bf,Cc,Cd,Ce,Ai,Aq,As⟩:=at_L1 Ck.out Aa Bc Bd
    cases Ce
    replace Ai:=kc HB Ai
    have Bt:=Az.mk As
    have Bu:=Az.mk Aq
    clear As Aq
    replace Bc:=ets Bc
    replace Bd:=ets Bd
    go_wp2
    go_ret
    exact⟨by first|rfl|(simp[eWn,eWs] <;> rfl)|(simp only[←Bb];first|rfl|(simp[eWn,eWs] <;> rfl))|(simp[*,eWn,eWs] <;> rfl),bw_3⟩
   rw[ip Bx]at H
   have By:=beq_iff_eq.mpr Bx
   have Bz:=bne_eq_false_iff_eq.mpr Bx
   clear Bx
   have H':=Az.mk H
   clear H
   have Bc:0≤(Aa:Int):=od
   have Bd:Aa<(l0.length:Int):=od
   obtain⟨Bf,Cc,Cd,Ce,Ai,Aq,As⟩:=at_L1 Ck.out Aa Bc Bd
   cases Ce
   replace Ai:=kc HB Ai
   have Bt:=Az.mk As
   have Bu:=Az.mk Aq
   clear As Aq
   replace Bc:=ets Bc
   replace Bd:=ets Bd
   go_wp2
   go_loopg [6] k2 (fun kq v6 w'=>∃(Au:List Bool) (Af:Int),v6= .int .i64 Af∧Az (fB.l1 kq l0 (wrap64 (Int.tdiv (wrap64 (3*(l0.length:Int))) 2)) Au Aa Af=some r)∧Az (kq≤k2)∧Az (Kd.R Kd.bool 4 w' w.heap.size (fun _=>True) Ca Au)∧Az (Below w.heap.size w w'))
   case atStart=>exact⟨(Bs),(0),rq2,H',⟨Nat.le_refl _⟩,⟨kR Aj.out⟩,⟨bw_3⟩⟩
   clear H'
   try clear c3
   try clear Ba
   try clear Br
   try clear c5
   try clear c7
   try clear Co
   try clear Cp
   try clear c8
   try clear Cq
   try clear Cr
   try clear Cb
   try clear Bw
   try clear Cu
   try clear Cv
   try clear Bx
   try clear By
   try clear Bz
   try clear Ai
   try clear Bc
   try clear Bd
   obtain⟨Au,Af,rfl,HA,HK3,Aj,HB⟩:=hrel
   cases gk with
   |zero=>exact absurd HA.out (by simp[fB.l1])
   |succ k3=>
    have H:=HA.out
    clear HA
    simp only[fB.l1]at H
    by_cases Cm:Af<3
    rotate_left
    ·rw[ig Cm]at H
     have Cw:=decide_eq_false Cm
     clear Cm
     have H':=Az.mk H
     clear H
     go_wp2
     go_roundg k3
     case measure=>have:=De.out;have:=HK2.out;have:=HK3.out;omega
     case rel=>exact⟨(Au),(wrap64 (Aa+1)),rq2,H',⟨by have:=De.out;have:=HK2.out;have:=HK3.out;omega⟩,⟨kR Aj.out⟩,⟨bw_3⟩⟩
    rw[ip Cm]at H
    have Cw:=ode Cm
    clear Cm
    by_cases Df:0≤Aa
    rotate_left
    ·rw[ig Df]at H
     exact absurd H (by simp)
    rw[ip Df]at H
    have Ec:=ode Df
    clear Df
    by_cases Dg:Aa<(l0.length:Int)
    rotate_left
    ·rw[ig Dg]at H
     exact absurd H (by simp)
    rw[ip Dg]at H
    have Ed:=ode Dg
    clear Dg
    by_cases Dh:0≤Af
    rotate_left
    ·rw[ig Dh]at H
     exact absurd H (by simp)
    rw[ip Dh]at H
    have Ee:=ode Dh
    clear Dh
    by_cases Di:Af<((rd_L1 l0 Aa).length:Int)
    rotate_left
    ·rw[ig Di]at H
     exact absurd H (by simp)
    rw[ip Di]at H
    have Ef:=ode Di
    clear Di
    by_cases Cf:(rd (rd_L1 l0 Aa) Af)=0
    ·rw[ip Cf]at H
     have Cy:=beq_iff_eq.mpr Cf
     have Cz:=bne_eq_false_iff_eq.mpr Cf
     clear Cf
     obtain rfl:=Option.some.inj H
     have Ak:0≤(Aa:Int):=od
     have Al:Aa<(l0.length:Int):=od
     obtain⟨Ax,Bi,Bj,Bk,Ab,Ac,Ad⟩:=at_L1 Ck.out Aa Ak Al
     obtain rfl:Bf=Ax:=(by injection Bk)
     replace Ab:=kc HB Ab
     have Ag:=Az.mk Ad
     have Ay:=Az.mk Ac
     clear Ad Ac
     replace Ak:=ets Ak
     replace Al:=ets Al
     have Am:0≤(Af:Int):=od
     have Ap:Af<((rd_L1 l0 Aa).length:Int):=od
     obtain⟨Bq,Bl,Ae⟩:=Kd.at_int Ag.out Af Am Ap
     cases Bl
     replace Ae:=kc HB Ae
     replace Am:=ets Am
     replace Ap:=ets Ap
     go_wp2
     go_ret
     exact⟨by first|rfl|(simp[eWn,eWs] <;> rfl)|(simp only[←Bb];first|rfl|(simp[eWn,eWs] <;> rfl))|(simp[*,eWn,eWs] <;> rfl),bw_3⟩
    rw[ig Cf]at H
    have Cy:=beq_eq_false_iff_ne.mpr Cf
    have Cz:=bne_iff_ne.mpr Cf
    replace H:=bez H
    obtain⟨Dq,Dj,H⟩:=H
    try dsimp only at H
    by_cases Dk:Dq=true
    rotate_left
    ·replace Dk:=Bool.eq_false_iff.mpr Dk
     subst Dk
     rw[ig ff]at H
     obtain rfl:=Option.some.inj H
     have Ak:0≤(Aa:Int):=od
     have Al:Aa<(l0.length:Int):=od
     obtain⟨Ax,Bi,Bj,Bk,Ab,Ac,Ad⟩:=at_L1 Ck.out Aa Ak Al
     obtain rfl:Bf=Ax:=(by injection Bk)
     replace Ab:=kc HB Ab
     have Ag:=Az.mk Ad
     have Ay:=Az.mk Ac
     clear Ad Ac
     replace Ak:=ets Ak
     replace Al:=ets Al
     have Am:0≤(Af:Int):=od
     have Ap:Af<((rd_L1 l0 Aa).length:Int):=od
     obtain⟨Bq,Bl,Ae⟩:=Kd.at_int Ag.out Af Am Ap
     cases Bl
     replace Ae:=kc HB Ae
     replace Am:=ets Am
     replace Ap:=ets Ap
     go_wp2_with (first|(go_at_call 52;(with_reducible refine(gV.calls (rd (rd_L1 l0 Aa) Af) (wrap64 (-(wrap64 (Int.tdiv (wrap64 (3*(l0.length:Int))) 2)))) (wrap64 (Int.tdiv (wrap64 (3*(l0.length:Int))) 2)) false _ Dj.out).mono ?_);rintro e w' ⟨rfl,⟨nd,rfl⟩⟩))
     go_ret
     exact⟨by first|rfl|(simp[eWn,eWs] <;> rfl)|(simp only[←Bb];first|rfl|(simp[eWn,eWs] <;> rfl))|(simp[*,eWn,eWs] <;> rfl),bw_3⟩
    subst Dk
    rw[ip rfl]at H
    obtain⟨Ah,Bh⟩:∃j_:Int,(wrap64 ((wrap64 (Int.tdiv (wrap64 (3*(l0.length:Int))) 2))+(rd (rd_L1 l0 Aa) Af)))=j_:=⟨_,rfl⟩
    first|rw[Bh]at H|simp only[Bh]at H
    (try rw[Bh]at Dj)
    have hji22w:(IntKind.i64.wrap ((wrap64 (Int.tdiv (wrap64 (3*(l0.length:Int))) 2))+(rd (rd_L1 l0 Aa) Af)))=Ah:=(i64_w _).trans Bh
    by_cases Dl:0≤(Ah)
    rotate_left
    ·rw[ig Dl]at H
     exact absurd H (by simp)
    rw[ip Dl]at H
    have Eg:=ode Dl
    clear Dl
    by_cases Dm:(Ah)<(Au.length:Int)
    rotate_left
    ·rw[ig Dm]at H
     exact absurd H (by simp)
    rw[ip Dm]at H
    have Eh:=ode Dm
    clear Dm
    obtain⟨bq25,hbq25⟩:∃b_:Bool,b_=(rdOf false Au (Ah)):=⟨_,rfl⟩
    replace H:(if bq25=true then(some false) else(fB.l1 k3 l0 (wrap64 (Int.tdiv (wrap64 (3*(l0.length:Int))) 2)) (Au.set ((Ah):Int).toNat true) Aa (wrap64 (Af+1))))=some r:=by rw[←hbq25]at H;exact H
    have Nbq25:=Az.mk hbq25
    clear hbq25
    by_cases Dn:bq25=true
    ·subst Dn
     rw[ip rfl]at H
     obtain rfl:=Option.some.inj H
     have Ak:0≤(Aa:Int):=od
     have Al:Aa<(l0.length:Int):=od
     obtain⟨Ax,Bi,Bj,Bk,Ab,Ac,Ad⟩:=at_L1 Ck.out Aa Ak Al
     obtain rfl:Bf=Ax:=(by injection Bk)
     replace Ab:=kc HB Ab
     have Ag:=Az.mk Ad
     have Ay:=Az.mk Ac
     clear Ad Ac
     replace Ak:=ets Ak
     replace Al:=ets Al
     have Am:0≤(Af:Int):=od
     have Ap:Af<((rd_L1 l0 Aa).length:Int):=od
     obtain⟨Bq,Bl,Ae⟩:=Kd.at_int Ag.out Af Am Ap
     cases Bl
     replace Ae:=kc HB Ae
     replace Am:=ets Am
     replace Ap:=ets Ap
     go_wp2_with (first|(go_at_call 52;(with_reducible refine(gV.calls (rd (rd_L1 l0 Aa) Af) (wrap64 (-(wrap64 (Int.tdiv (wrap64 (3*(l0.length:Int))) 2)))) (wrap64 (Int.tdiv (wrap64 (3*(l0.length:Int))) 2)) true _ Dj.out).mono ?_);rintro e w' ⟨rfl,⟨nd,rfl⟩⟩;obtain⟨Ej,Ek,Dr⟩:=Kd.R_slice Aj.out;subst Dr;have Bm:0≤((Ah):Int):=od;have Bn:(Ah)<(Au.length:Int):=od;obtain⟨Da,Cg,Av⟩:=Kd.at_bool (Kd.R_reads' Aj.out).2.2 (Ah) Bm Bn;(try rw[←Nbq25.out]at Av);cases Cg;replace Bm:=ets Bm;replace Bn:=ets Bn))
     go_ret
     exact⟨by first|rfl|(simp[eWn,eWs] <;> rfl)|(simp only[←Bb, ←Bh];first|rfl|(simp[eWn,eWs] <;> rfl))|(simp[*,eWn,eWs] <;> rfl),bw_3⟩
    replace Dn:=Bool.eq_false_iff.mpr Dn
    subst Dn
    rw[ig ff]at H
    obtain⟨Ch,hy⟩:∃y_:List Bool,y_=(Au.set ((Ah):Int).toNat true):=⟨_,rfl⟩
    replace H:(fB.l1 k3 l0 (wrap64 (Int.tdiv (wrap64 (3*(l0.length:Int))) 2)) Ch Aa (wrap64 (Af+1)))=some r:=rh
    have Db:=Az.mk hy
    clear hy
    have H':=Az.mk H
    clear H
    have Ak:0≤(Aa:Int):=od
    have Al:Aa<(l0.length:Int):=od
    obtain⟨Ax,Bi,Bj,Bk,Ab,Ac,Ad⟩:=at_L1 Ck.out Aa Ak Al
    obtain rfl:Bf=Ax:=(by injection Bk)
    replace Ab:=kc HB Ab
    have Ag:=Az.mk Ad
    have Ay:=Az.mk Ac
    clear Ad Ac
    replace Ak:=ets Ak
    replace Al:=ets Al
    have Am:0≤(Af:Int):=od
    have Ap:Af<((rd_L1 l0 Aa).length:Int):=od
    obtain⟨Bq,Bl,Ae⟩:=Kd.at_int Ag.out Af Am Ap
    cases Bl
    replace Ae:=kc HB Ae
    replace Am:=ets Am
    replace Ap:=ets Ap
    go_wp2_with (first|(go_at_call 52;(with_reducible refine(gV.calls (rd (rd_L1 l0 Aa) Af) (wrap64 (-(wrap64 (Int.tdiv (wrap64 (3*(l0.length:Int))) 2)))) (wrap64 (Int.tdiv (wrap64 (3*(l0.length:Int))) 2)) true _ Dj.out).mono ?_);rintro e w' ⟨rfl,⟨nd,rfl⟩⟩;(try(rw[drewN_self wr];generalize hq_:World.drewN wr _=wr;have n0_:Az (Kd.R Kd.bool 4 wr w.heap.size (fun _=>True) Ca Au):=⟨by rw[←hq_];exact(kR Aj.out)⟩;have n1_:Az (Below w.heap.size w wr):=⟨by rw[←hq_];exact bw_3⟩;clear Aj HB hq_;have Aj:=n0_;have HB:=n1_;clear n0_ n1_));obtain⟨El,Ds,Dt⟩:=Kd.R_slice Aj.out;subst Dt;have Bm:0≤((Ah):Int):=od;have Bn:(Ah)<(Au.length:Int):=od;obtain⟨Da,Cg,Av⟩:=Kd.at_bool (Kd.R_reads' Aj.out).2.2 (Ah) Bm Bn;(try rw[←Nbq25.out]at Av);cases Cg;replace Bm:=ets Bm;replace Bn:=ets Bn;have Du:0≤((Ah):Int):=od;have Dv:((Ah):Int)<((Au.length:Int):Int):=od;obtain⟨Ci,Em,Dc,Dd,gl28,Eo,HG28⟩:=Kd.R_form Aj.out (by omega);(first|cases Dc|(injection Dc with ea_ en_ ec_;(first|subst ea_|(injection ea_ with ea_;subst ea_));subst ec_;clear en_));have Dw:=Az.mk Dd;have Ep:=Az.mk HG28;clear Dd gl28 HG28;(first|simp only[add_plain]at Av|skip);obtain⟨Dx,Dy⟩:=Kd.R_celln false Aj.out ((Ah):Int) Du Dv;replace Du:=ets Du;replace Dv:=ets Dv;obtain⟨hy30_,hz30_⟩:=Kd.R_celln false Aj.out ((Ah):Int) (od) (od);have Cj:=Kd.R_putg Aj.out ((Ah):Int) true)|((with_reducible refine gate_store (t:=4) (p:=70) rfl ?_);refine store_event (t:=4) (p:=70) (v:=?vo_w31) (w1:=(wr.setCell ⟨Ci,((Ah):Int).toNat,none⟩ (.bool true))) ?hg ?ho ?hn ?hr ?_;(case ho=>rfl);(case hg=>rfl);(case hn=>rfl);(case hr=>first|(go_simp;done)|(go_simp;rfl));intro Dz hw;have hg:wr.grownBy Dz (some Ci):=(by rw[hw];exact Cj.2);have hp_:Kd.R Kd.bool 4 Dz w.heap.size (fun _=>True) (.slice (some ⟨Ci,0,none⟩) Au.length Ds) Ch:=(by rw[hw,Db.out];exact Cj.1);clear Cj;replace Aj:=Az.mk (hp_);replace HB:=Az.mk ((by rw[hw];exact bwS (HB.out) Dw.out:Below w.heap.size w Dz));clear hg hw hp_))
    go_roundg k3
    case measure=>have:=De.out;have:=HK2.out;have:=HK3.out;omega
    case rel=>exact⟨(Ch),(wrap64 (Af+1)),rq2,H',⟨by have:=De.out;have:=HK2.out;have:=HK3.out;omega⟩,⟨kR Aj.out⟩,⟨bw_3⟩⟩
def jQ.f (a0:Int) (a1:Int):Option (Int):=if a0>a1 then(some a0) else(some a1)
theorem jQ.calls (a0:Int) (a1:Int) (r:Int) (w:World) (h:jQ.f a0 a1=some r):
  Calls Try.prog 44 #[.int .i64 a0, .int .i64 a1] w fun e w'=>e= .returned (.int .i64 r)∧Drawn0 w w':=by
 have H:=h
 unfold jQ.f at H
 clear h
 by_cases c3:a0>a1
 ·rw[ip c3]at H
  have Aa:decide (a1<a0)=true:=ode c3
  clear c3
  obtain rfl:=Option.some.inj H
  go_enter Try.func44,Try.ntmps44
  go_wp2
  go_ret
  exact⟨rq2,kd⟩
 rw[ig c3]at H
 have Aa:decide (a1<a0)=false:=decide_eq_false c3
 clear c3
 obtain rfl:=Option.some.inj H
 go_enter Try.func44,Try.ntmps44
 go_wp2
 go_ret
 exact⟨rq2,kd⟩
def fZ.f (a0:Int):Option (Int):=(jQ.f a0 (wrap64 (-a0))).bind fun t114=>(some t114)
theorem fZ.calls (a0:Int) (r:Int) (w:World) (h:fZ.f a0=some r):
  Calls Try.prog 43 #[.int .i64 a0] w fun e w'=>e= .returned (.int .i64 r)∧Drawn0 w w':=by
 have H:=h
 unfold fZ.f at H
 clear h
 replace H:=bez H
 obtain⟨Aa,A2,H⟩:=H
 replace H:(some Aa)=some r:=H
 obtain rfl:=Option.some.inj H
 go_enter Try.func43,Try.ntmps43
 go_wp2_with (first|((with_reducible refine gtC (f:=44) rfl ?_);refine clz Try.func44 (some 6) #[.int .i64 a0, .int .i64 (wrap64 (-a0))] ?_;(with_reducible refine(jQ.calls a0 (wrap64 (-a0)) Aa _ A2.out).mono ?_);rintro e w' ⟨rfl,⟨nd,rfl⟩⟩;refine⟨_,rfl,?_⟩))
 go_ret
 exact⟨rq2,kd⟩
def gR.f (l0:List (List Int)) (l1:List Int) (a2:Int) (a3:Int):Option (Int):=if 0≤a2 then(if a2<(l0.length:Int) then(if 0≤a3 then(if a3<((rd_L1 l0 a2).length:Int) then((fZ.f (rd (rd_L1 l0 a2) a3)).bind fun t117=>(if 0≤(wrap64 (t117 - 1)) then(if(wrap64 (t117 - 1))<(l1.length:Int) then(if 0≤(Int.tmod (wrap64 (a3+1)) 3) then(if(Int.tmod (wrap64 (a3+1)) 3)<((rd_L1 l0 a2).length:Int) then((fZ.f (rd (rd_L1 l0 a2) (Int.tmod (wrap64 (a3+1)) 3))).bind fun t121=>(if 0≤(wrap64 (t121 - 1)) then(if(wrap64 (t121 - 1))<(l1.length:Int) then(if 0≤(Int.tmod (wrap64 (a3+2)) 3) then(if(Int.tmod (wrap64 (a3+2)) 3)<((rd_L1 l0 a2).length:Int) then((fZ.f (rd (rd_L1 l0 a2) (Int.tmod (wrap64 (a3+2)) 3))).bind fun t125=>(if 0≤(wrap64 (t125 - 1)) then(if(wrap64 (t125 - 1))<(l1.length:Int) then(some (wrap64 ((wrap64 ((rd l1 (wrap64 (t117 - 1)))+(rd l1 (wrap64 (t121 - 1))))) - (rd l1 (wrap64 (t125 - 1)))))) else(none)) else(none))) else(none)) else(none)) else(none)) else(none))) else(none)) else(none)) else(none)) else(none))) else(none)) else(none)) else(none)) else(none)
theorem gR.calls (A0:Option Addr) (c0:Nat) (l0:List (List Int)) (A1:Option Addr) (c1:Nat) (l1:List Int) (a2:Int) (a3:Int) (r:Int) (w:World) (Dr:Kd.C (Kd.slice 3 (Kd.int .i64)) w A0 l0.length l0) (Ds:l0.length≤c0) (Dt:Kd.C (Kd.int .i64) w A1 l1.length l1) (Du:l1.length≤c1) (h:gR.f l0 l1 a2 a3=some r):
  Calls Try.prog 56 #[.slice A0 l0.length c0, .slice A1 l1.length c1, .int .i64 a2, .int .i64 a3] w fun e w'=>e= .returned (.int .i64 r)∧Drawn0 w w':=by
 have Da:=Az.mk Dr
 have Eo:=Az.mk Ds
 clear Dr Ds
 have Db:=Az.mk Dt
 have Ep:=Az.mk Du
 clear Dt Du
 have H:=h
 unfold gR.f at H
 clear h
 by_cases c5:0≤a2
 rotate_left
 ·rw[ig c5]at H
  exact absurd H (by simp)
 rw[ip c5]at H
 have Ej:=ode c5
 clear c5
 by_cases c6:a2<(l0.length:Int)
 rotate_left
 ·rw[ig c6]at H
  exact absurd H (by simp)
 rw[ip c6]at H
 have Ek:=ode c6
 clear c6
 by_cases c7:0≤a3
 rotate_left
 ·rw[ig c7]at H
  exact absurd H (by simp)
 rw[ip c7]at H
 have El:=ode c7
 clear c7
 by_cases c8:a3<((rd_L1 l0 a2).length:Int)
 rotate_left
 ·rw[ig c8]at H
  exact absurd H (by simp)
 rw[ip c8]at H
 have Em:=ode c8
 clear c8
 replace H:=bez H
 obtain⟨Bf,A9,H⟩:=H
 try dsimp only at H
 obtain⟨Aq,Ad⟩:∃j_:Int,(wrap64 (Bf - 1))=j_:=⟨_,rfl⟩
 first|rw[Ad]at H|simp only[Ad]at H
 (try rw[Ad]at A9)
 have hji10w:(IntKind.i64.wrap (Bf - 1))=Aq:=(i64_w _).trans Ad
 by_cases Cf:0≤(Aq)
 rotate_left
 ·rw[ig Cf]at H
  exact absurd H (by simp)
 rw[ip Cf]at H
 have Dv:=ode Cf
 clear Cf
 by_cases Cg:(Aq)<(l1.length:Int)
 rotate_left
 ·rw[ig Cg]at H
  exact absurd H (by simp)
 rw[ip Cg]at H
 have Dw:=ode Cg
 clear Cg
 obtain⟨Af,Ae⟩:∃j_:Int,(Int.tmod (wrap64 (a3+1)) 3)=j_:=⟨_,rfl⟩
 first|rw[Ae]at H|simp only[Ae]at H
 (try rw[Ae]at A9)
 by_cases Ch:0≤(Af)
 rotate_left
 ·rw[ig Ch]at H
  exact absurd H (by simp)
 rw[ip Ch]at H
 have Dx:=ode Ch
 clear Ch
 by_cases Ci:(Af)<((rd_L1 l0 a2).length:Int)
 rotate_left
 ·rw[ig Ci]at H
  exact absurd H (by simp)
 rw[ip Ci]at H
 have Dy:=ode Ci
 clear Ci
 replace H:=bez H
 obtain⟨Bh,Cj,H⟩:=H
 try dsimp only at H
 obtain⟨As,Ab⟩:∃j_:Int,(wrap64 (Bh - 1))=j_:=⟨_,rfl⟩
 first|rw[Ab]at H|simp only[Ab]at H
 (try rw[Ab]at A9)
 (try rw[Ab]at Cj)
 have hji17w:(IntKind.i64.wrap (Bh - 1))=As:=(i64_w _).trans Ab
 by_cases Ck:0≤(As)
 rotate_left
 ·rw[ig Ck]at H
  exact absurd H (by simp)
 rw[ip Ck]at H
 have Dz:=ode Ck
 clear Ck
 by_cases Cl:(As)<(l1.length:Int)
 rotate_left
 ·rw[ig Cl]at H
  exact absurd H (by simp)
 rw[ip Cl]at H
 have Ea:=ode Cl
 clear Cl
 obtain⟨Ag,Ac⟩:∃j_:Int,(Int.tmod (wrap64 (a3+2)) 3)=j_:=⟨_,rfl⟩
 first|rw[Ac]at H|simp only[Ac]at H
 (try rw[Ac]at A9)
 (try rw[Ac]at Cj)
 by_cases Cm:0≤(Ag)
 rotate_left
 ·rw[ig Cm]at H
  exact absurd H (by simp)
 rw[ip Cm]at H
 have Eb:=ode Cm
 clear Cm
 by_cases Cn:(Ag)<((rd_L1 l0 a2).length:Int)
 rotate_left
 ·rw[ig Cn]at H
  exact absurd H (by simp)
 rw[ip Cn]at H
 have Ec:=ode Cn
 clear Cn
 replace H:=bez H
 obtain⟨Bi,Ed,H⟩:=H
 try dsimp only at H
 obtain⟨Au,Aa⟩:∃j_:Int,(wrap64 (Bi - 1))=j_:=⟨_,rfl⟩
 first|rw[Aa]at H|simp only[Aa]at H
 (try rw[Aa]at A9)
 (try rw[Aa]at Cj)
 (try rw[Aa]at Ed)
 have hji24w:(IntKind.i64.wrap (Bi - 1))=Au:=(i64_w _).trans Aa
 by_cases Co:0≤(Au)
 rotate_left
 ·rw[ig Co]at H
  exact absurd H (by simp)
 rw[ip Co]at H
 have Ee:=ode Co
 clear Co
 by_cases Cp:(Au)<(l1.length:Int)
 rotate_left
 ·rw[ig Cp]at H
  exact absurd H (by simp)
 rw[ip Cp]at H
 have Ef:=ode Cp
 clear Cp
 obtain rfl:=Option.some.inj H
 have Bj:0≤(a2:Int):=od
 have Bk:a2<(l0.length:Int):=od
 obtain⟨Bc,Dc,Dd,De,Ah,Ai,Aj⟩:=at_L1 Da.out a2 Bj Bk
 cases De
 have Av:=Az.mk Aj
 have Cq:=Az.mk Ai
 clear Aj Ai
 replace Bj:=ets Bj
 replace Bk:=ets Bk
 have Bl:0≤(a3:Int):=od
 have Bm:a3<((rd_L1 l0 a2).length:Int):=od
 obtain⟨Eg,Df,Cr⟩:=Kd.at_int Av.out a3 Bl Bm
 cases Df
 replace Bl:=ets Bl
 replace Bm:=ets Bm
 go_enter Try.func56,Try.ntmps56
 go_wp2_with (first|((with_reducible refine gtC (f:=43) rfl ?_);refine clz Try.func43 (some 20) #[.int .i64 (rd (rd_L1 l0 a2) a3)] ?_;(with_reducible refine(fZ.calls (rd (rd_L1 l0 a2) a3) Bf _ A9.out).mono ?_);rintro e w' ⟨rfl,⟨nd,rfl⟩⟩;refine⟨_,rfl,?_⟩;have Bn:0≤((Aq):Int):=od;have Bo:(Aq)<(l1.length:Int):=od;obtain⟨Bd,Dg,Cs⟩:=Kd.at_int Db.out (Aq) Bn Bo;cases Dg;replace Bn:=ets Bn;replace Bo:=ets Bo;have Bp:0≤(a2:Int):=od;have Bq:a2<(l0.length:Int):=od;obtain⟨Cb,Dh,Di,Dj,Ax,Ak,Al⟩:=at_L1 Da.out a2 Bp Bq;obtain rfl:Bc=Cb:=(by injection Dj);have Ay:=Az.mk Al;have Ct:=Az.mk Ak;clear Al Ak;replace Bp:=ets Bp;replace Bq:=ets Bq;have ea_:=Option.some.inj (Ah.symm.trans Ax);injection ea_ with ea_ en_ ec_;subst ea_;subst ec_;clear en_;have Br:0≤((Af):Int):=od;have Bs:(Af)<((rd_L1 l0 a2).length:Int):=od;obtain⟨Eh,Dk,Cu⟩:=Kd.at_int Ay.out (Af) Br Bs;cases Dk;replace Br:=ets Br;replace Bs:=ets Bs)|((with_reducible refine gtC (f:=43) rfl ?_);refine goesL_ (some 34) rfl rfl Try.func43 (by kernel_rfl) rfl #[.int .i64 (rd (rd_L1 l0 a2) (Af))] rfl (by(try simp only[List.map_toArray,List.map_cons,List.map_nil]);first|done|(simp only[Ae];rfl)|rfl|(simp only[List.length_drop,List.length_take];rfl)) ?_;(with_reducible refine(fZ.calls (rd (rd_L1 l0 a2) (Af)) Bh _ Cj.out).mono ?_);rintro e w' ⟨rfl,⟨nd,rfl⟩⟩;refine⟨_,rfl,?_⟩;have Bt:0≤((As):Int):=od;have Bu:(As)<(l1.length:Int):=od;obtain⟨Cc,Dl,Cv⟩:=Kd.at_int Db.out (As) Bt Bu;obtain rfl:Bd=Cc:=(by injection Dl);replace Bt:=ets Bt;replace Bu:=ets Bu;have Bv:0≤(a2:Int):=od;have Bw:a2<(l0.length:Int):=od;obtain⟨Cd,Dm,Dn,Do,Ba,Am,Ap⟩:=at_L1 Da.out a2 Bv Bw;obtain rfl:Bc=Cd:=(by injection Do);have Bb:=Az.mk Ap;have Cw:=Az.mk Am;clear Ap Am;replace Bv:=ets Bv;replace Bw:=ets Bw;have ea_:=Option.some.inj (Ah.symm.trans Ba);injection ea_ with ea_ en_ ec_;subst ea_;subst ec_;clear en_;have Bx:0≤((Ag):Int):=od;have By:(Ag)<((rd_L1 l0 a2).length:Int):=od;obtain⟨Ei,Dp,Cy⟩:=Kd.at_int Bb.out (Ag) Bx By;cases Dp;replace Bx:=ets Bx;replace By:=ets By)|((with_reducible refine gtC (f:=43) rfl ?_);refine goesL_ (some 48) rfl rfl Try.func43 (by kernel_rfl) rfl #[.int .i64 (rd (rd_L1 l0 a2) (Ag))] rfl (by(try simp only[List.map_toArray,List.map_cons,List.map_nil]);first|done|(simp only[Ac];rfl)|rfl|(simp only[List.length_drop,List.length_take];rfl)) ?_;(with_reducible refine(fZ.calls (rd (rd_L1 l0 a2) (Ag)) Bi _ Ed.out).mono ?_);rintro e w' ⟨rfl,⟨nd,rfl⟩⟩;refine⟨_,rfl,?_⟩;have Bz:0≤((Au):Int):=od;have Ca:(Au)<(l1.length:Int):=od;obtain⟨Ce,Dq,Cz⟩:=Kd.at_int Db.out (Au) Bz Ca;obtain rfl:Bd=Ce:=(by injection Dq);replace Bz:=ets Bz;replace Ca:=ets Ca))
 go_ret
 exact⟨by first|rfl|(simp;done)|(simp only[←Ad, ←Ae, ←Ab, ←Ac, ←Aa] <;> (first|rfl|simp))|(simp[*];done),kd⟩
theorem bw_5 {n:Nat}{v v':World} (h:Below n v v':=by repeat(first|(with_reducible first|exact HB.out|apply bwA|apply pbN|apply bwD)|exact HB.out)):Below n v v':=h
theorem ln_5 {P:Prop} (h:P:=by(try simp only[List.map_toArray,List.map_cons,List.map_nil]);first|done|rfl|(simp only[List.length_drop,List.length_take];rfl)):P:=h
mutual
def fI.j0:Nat→List (List Int)→List Int→Bool→Option (Bool)
 |0,_,_,_=>none
 |k+1,x0,x1,x20=>if x20=true then(some false) else(fI.l0 k x0 x1 0)
def fI.l0:Nat→List (List Int)→List Int→Int→Option (Bool)
 |0,_,_,_=>none
 |k+1,x0,x1,x5=>if x5<(x1.length:Int) then(if 0≤x5 then((gV.f (rd x1 x5) 0 200).bind fun t129=>(if t129=true then(fI.l0 k x0 x1 (wrap64 (x5+1))) else(some false))) else(none)) else(fI.l1 k x0 x1 0)
def fI.l1:Nat→List (List Int)→List Int→Int→Option (Bool)
 |0,_,_,_=>none
 |k+1,x0,x1,x6=>if x6<(x0.length:Int) then(fI.l2 k x0 x1 x6 0) else(some true)
def fI.l2:Nat→List (List Int)→List Int→Int→Int→Option (Bool)
 |0,_,_,_,_=>none
 |k+1,x0,x1,x6,x7=>if x7<3 then((gR.f x0 x1 x6 x7).bind fun t130=>(if t130<0 then(some false) else(if(Int.tmod t130 2)=0 then(fI.l2 k x0 x1 x6 (wrap64 (x7+1))) else(some false)))) else(fI.l1 k x0 x1 (wrap64 (x6+1)))
end
def fI.f (k:Nat) (l0:List (List Int)) (l1:List Int):Option (Bool):=(fB.f k l0).bind fun t127=>(if t127=true then(fI.j0 k l0 l1 ((l1.length:Int) != (wrap64 (Int.tdiv (wrap64 (3*(l0.length:Int))) 2)))) else(fI.j0 k l0 l1 true))
theorem fI.calls (k:Nat) (A0:Option Addr) (c0:Nat) (l0:List (List Int)) (A1:Option Addr) (c1:Nat) (l1:List Int) (r:Bool) (w:World) (Bs:Kd.C (Kd.slice 3 (Kd.int .i64)) w A0 l0.length l0) (Bt:l0.length≤c0) (Bu:Kd.C (Kd.int .i64) w A1 l1.length l1) (Bv:l1.length≤c1) (h:fI.f k l0 l1=some r):
  Calls Try.prog 29 #[.slice A0 l0.length c0, .slice A1 l1.length c1] w fun e w'=>e= .returned (.bool r)∧Below w.heap.size w w':=by
 have Bd:=Az.mk Bs
 have Bf:=Az.mk Bt
 clear Bs Bt
 have Bh:=Az.mk Bu
 have Bn:=Az.mk Bv
 clear Bu Bv
 have HB:=Az.mk (Below.refl w.heap.size w)
 have H:=h
 unfold fI.f at H
 clear h
 have Bo:=Az.mk H
 clear H
 go_enter Try.func29,Try.ntmps29
 go_upto_region 1 with (fail)
 go_cut [20] (fun By wc=>∃(kq:Nat) (Ak:Bool),By= .bool Ak∧Az (fI.j0 kq l0 l1 Ak=some r)∧Az (kq≤k)∧Az (Below w.heap.size w wc))
 case first=>
  have H:=Bo.out
  clear Bo
  replace H:=bez H
  obtain⟨Bp,A4,H⟩:=H
  try dsimp only at H
  by_cases c5:Bp=true
  ·subst c5
   rw[ip rfl]at H
   have H':=Az.mk H
   clear H
   go_wp2_with (first|((with_reducible refine gtC (f:=28) rfl ?_);refine clz Try.func28 (some 10) #[.slice A0 l0.length c0] ?_;(with_reducible refine(fB.calls k _ _ l0 true _ ?Ac ?Ad A4.out).mono ?_);(case Ac=>exact kC (Kd.C_below Bd.out HB.out));(case Ad=>exact Bf.out);rintro e w6 ⟨rfl,hb⟩;refine⟨_,rfl,?_⟩;replace HB:=Az.mk (bwT bw_5 hb);(try clear hb)))
   go_meet
   case rel=>exact⟨_,(((l1.length:Int) != (wrap64 (Int.tdiv (wrap64 (3*(l0.length:Int))) 2)))),rq2,H',⟨by first|omega|exact Nat.le_refl _⟩,⟨bw_5⟩⟩
  replace c5:=Bool.eq_false_iff.mpr c5
  subst c5
  rw[ig ff]at H
  have H':=Az.mk H
  clear H
  go_wp2_with (first|((with_reducible refine gtC (f:=28) rfl ?_);refine clz Try.func28 (some 10) #[.slice A0 l0.length c0] ?_;(with_reducible refine(fB.calls k _ _ l0 false _ ?Ac ?Ad A4.out).mono ?_);(case Ac=>exact kC (Kd.C_below Bd.out HB.out));(case Ad=>exact Bf.out);rintro e w7 ⟨rfl,hb⟩;refine⟨_,rfl,?_⟩;replace HB:=Az.mk (bwT bw_5 hb);(try clear hb)))
  go_meet
  case rel=>exact⟨_,(true),rq2,H',⟨by first|omega|exact Nat.le_refl _⟩,⟨bw_5⟩⟩
 clear Bo
 try clear c1
 try clear c5
 obtain⟨kq,Ak,rfl,HA,Ax,HB⟩:=hcut
 cases kq with
 |zero=>exact absurd HA.out (by simp[fI.j0])
 |succ Bw=>
  have H:=HA.out
  clear HA
  simp only[fI.j0]at H
  by_cases c8:Ak=true
  ·subst c8
   rw[ip rfl]at H
   obtain rfl:=Option.some.inj H
   go_wp2
   go_ret
   exact⟨rq1,bw_5⟩
  replace c8:=Bool.eq_false_iff.mpr c8
  subst c8
  rw[ig ff]at H
  have H':=Az.mk H
  clear H
  go_wp2
  go_loopg [5] Bw (fun kq v5 w'=>∃(Ab:Int),v5= .int .i64 Ab∧Az (fI.l0 kq l0 l1 Ab=some r)∧Az (kq≤Bw)∧Az (Below w.heap.size w w'))
  case atStart=>exact⟨(0),rq2,H',⟨Nat.le_refl _⟩,⟨bw_5⟩⟩
  clear H'
  try clear c1
  try clear c5
  try clear c8
  obtain⟨Ab,rfl,HA,HK2,HB⟩:=hrel
  cases gk with
  |zero=>exact absurd HA.out (by simp[fI.l0])
  |succ k2=>
   have H:=HA.out
   clear HA
   simp only[fI.l0]at H
   by_cases c9:Ab<(l1.length:Int)
   ·rw[ip c9]at H
    have Aq:=ode c9
    clear c9
    by_cases Ay:0≤Ab
    rotate_left
    ·rw[ig Ay]at H
     exact absurd H (by simp)
    rw[ip Ay]at H
    have Am:=ode Ay
    clear Ay
    replace H:=bez H
    obtain⟨Bq,Bx,H⟩:=H
    try dsimp only at H
    by_cases Ba:Bq=true
    rotate_left
    ·replace Ba:=Bool.eq_false_iff.mpr Ba
     subst Ba
     rw[ig ff]at H
     obtain rfl:=Option.some.inj H
     have Ag:0≤(Ab:Int):=od
     have Ah:Ab<(l1.length:Int):=od
     obtain⟨Bi,As,Aa⟩:=Kd.at_int Bh.out Ab Ag Ah
     cases As
     replace Aa:=kc HB Aa
     replace Ag:=ets Ag
     replace Ah:=ets Ah
     go_wp2_with (first|((with_reducible refine gtC (f:=52) rfl ?_);refine clz Try.func52 (some 31) #[.int .i64 (rd l1 Ab), .int .i64 0, .int .i64 200] ?_;(with_reducible refine(gV.calls (rd l1 Ab) 0 200 false _ Bx.out).mono ?_);rintro e w' ⟨rfl,⟨nd,rfl⟩⟩;refine⟨_,rfl,?_⟩))
     go_ret
     exact⟨rq1,bw_5⟩
    subst Ba
    rw[ip rfl]at H
    have H':=Az.mk H
    clear H
    have Ag:0≤(Ab:Int):=od
    have Ah:Ab<(l1.length:Int):=od
    obtain⟨Bi,As,Aa⟩:=Kd.at_int Bh.out Ab Ag Ah
    cases As
    replace Aa:=kc HB Aa
    replace Ag:=ets Ag
    replace Ah:=ets Ah
    go_wp2_with (first|((with_reducible refine gtC (f:=52) rfl ?_);refine clz Try.func52 (some 31) #[.int .i64 (rd l1 Ab), .int .i64 0, .int .i64 200] ?_;(with_reducible refine(gV.calls (rd l1 Ab) 0 200 true _ Bx.out).mono ?_);rintro e w' ⟨rfl,⟨nd,rfl⟩⟩;refine⟨_,rfl,?_⟩))
    go_roundg k2
    case measure=>have:=Ax.out;have:=HK2.out;omega
    case rel=>exact⟨(wrap64 (Ab+1)),rq2,H',⟨by have:=Ax.out;have:=HK2.out;omega⟩,⟨bw_5⟩⟩
   rw[ig c9]at H
   have Aq:=decide_eq_false c9
   clear c9
   have H':=Az.mk H
   clear H
   go_wp2
   go_loopg [6] k2 (fun kq v6 w'=>∃(Ae:Int),v6= .int .i64 Ae∧Az (fI.l1 kq l0 l1 Ae=some r)∧Az (kq≤k2)∧Az (Below w.heap.size w w'))
   case atStart=>exact⟨(0),rq2,H',⟨Nat.le_refl _⟩,⟨bw_5⟩⟩
   clear H'
   try clear c1
   try clear c5
   try clear c8
   try clear c9
   try clear Aq
   try clear Ay
   try clear Am
   try clear Ba
   try clear Aa
   try clear Ag
   try clear Ah
   obtain⟨Ae,rfl,HA,HK3,HB⟩:=hrel
   cases gk with
   |zero=>exact absurd HA.out (by simp[fI.l1])
   |succ k3=>
    have H:=HA.out
    clear HA
    simp only[fI.l1]at H
    by_cases Au:Ae<(l0.length:Int)
    rotate_left
    ·rw[ig Au]at H
     have Ap:=decide_eq_false Au
     clear Au
     obtain rfl:=Option.some.inj H
     go_wp2
     go_ret
     exact⟨rq1,bw_5⟩
    rw[ip Au]at H
    have Ap:=ode Au
    clear Au
    have H':=Az.mk H
    clear H
    go_wp2
    go_loopg [7] k3 (fun kq v7 w'=>∃(Af:Int),v7= .int .i64 Af∧Az (fI.l2 kq l0 l1 Ae Af=some r)∧Az (kq≤k3)∧Az (Below w.heap.size w w'))
    case atStart=>exact⟨(0),rq2,H',⟨Nat.le_refl _⟩,⟨bw_5⟩⟩
    clear H'
    try clear c1
    try clear c5
    try clear c8
    try clear c9
    try clear Aq
    try clear Ay
    try clear Am
    try clear Ba
    try clear Au
    try clear Ap
    try clear Aa
    try clear Ag
    try clear Ah
    obtain⟨Af,rfl,HA,HK4,HB⟩:=hrel
    cases gk with
    |zero=>exact absurd HA.out (by simp[fI.l2])
    |succ k4=>
     have H:=HA.out
     clear HA
     simp only[fI.l2]at H
     by_cases Bb:Af<3
     rotate_left
     ·rw[ig Bb]at H
      have Bj:=decide_eq_false Bb
      clear Bb
      have H':=Az.mk H
      clear H
      go_wp2
      go_roundg k4
      case measure=>have:=Ax.out;have:=HK2.out;have:=HK3.out;have:=HK4.out;omega
      case rel=>exact⟨(wrap64 (Ae+1)),rq2,H',⟨by have:=Ax.out;have:=HK2.out;have:=HK3.out;have:=HK4.out;omega⟩,⟨bw_5⟩⟩
     rw[ip Bb]at H
     have Bj:=ode Bb
     clear Bb
     replace H:=bez H
     obtain⟨Al,Br,H⟩:=H
     try dsimp only at H
     by_cases Bc:Al<0
     ·rw[ip Bc]at H
      have Bk:=ode Bc
      clear Bc
      obtain rfl:=Option.some.inj H
      go_wp2_with (first|((with_reducible refine gtC (f:=56) rfl ?_);refine clz Try.func56 (some 47) #[.slice A0 l0.length c0, .slice A1 l1.length c1, .int .i64 Ae, .int .i64 Af] ?_;(with_reducible refine(gR.calls _ _ l0 _ _ l1 Ae Af Al _ ?Ac ?Ad ?Ai ?Aj Br.out).mono ?_);(case Ac=>exact kC (Kd.C_below Bd.out HB.out));(case Ad=>exact Bf.out);(case Ai=>exact kC (Kd.C_below Bh.out HB.out));(case Aj=>exact Bn.out);rintro e w' ⟨rfl,⟨nd,rfl⟩⟩;refine⟨_,rfl,?_⟩))
      go_ret
      exact⟨rq1,bw_5⟩
     rw[ig Bc]at H
     have Bk:=decide_eq_false Bc
     clear Bc
     by_cases Av:(Int.tmod Al 2)=0
     rotate_left
     ·rw[ig Av]at H
      have Bl:=beq_eq_false_iff_ne.mpr Av
      have Bm:=bne_iff_ne.mpr Av
      obtain rfl:=Option.some.inj H
      go_wp2_with (first|((with_reducible refine gtC (f:=56) rfl ?_);refine clz Try.func56 (some 47) #[.slice A0 l0.length c0, .slice A1 l1.length c1, .int .i64 Ae, .int .i64 Af] ?_;(with_reducible refine(gR.calls _ _ l0 _ _ l1 Ae Af Al _ ?Ac ?Ad ?Ai ?Aj Br.out).mono ?_);(case Ac=>exact kC (Kd.C_below Bd.out HB.out));(case Ad=>exact Bf.out);(case Ai=>exact kC (Kd.C_below Bh.out HB.out));(case Aj=>exact Bn.out);rintro e w' ⟨rfl,⟨nd,rfl⟩⟩;refine⟨_,rfl,?_⟩))
      go_ret
      exact⟨rq1,bw_5⟩
     rw[ip Av]at H
     have Bl:=beq_iff_eq.mpr Av
     have Bm:=bne_eq_false_iff_eq.mpr Av
     clear Av
     have H':=Az.mk H
     clear H
     go_wp2_with (first|((with_reducible refine gtC (f:=56) rfl ?_);refine clz Try.func56 (some 47) #[.slice A0 l0.length c0, .slice A1 l1.length c1, .int .i64 Ae, .int .i64 Af] ?_;(with_reducible refine(gR.calls _ _ l0 _ _ l1 Ae Af Al _ ?Ac ?Ad ?Ai ?Aj Br.out).mono ?_);(case Ac=>exact kC (Kd.C_below Bd.out HB.out));(case Ad=>exact Bf.out);(case Ai=>exact kC (Kd.C_below Bh.out HB.out));(case Aj=>exact Bn.out);rintro e w' ⟨rfl,⟨nd,rfl⟩⟩;refine⟨_,rfl,?_⟩))
     go_roundg k4
     case measure=>have:=Ax.out;have:=HK2.out;have:=HK3.out;have:=HK4.out;omega
     case rel=>exact⟨(wrap64 (Af+1)),rq2,H',⟨by have:=Ax.out;have:=HK2.out;have:=HK3.out;have:=HK4.out;omega⟩,⟨bw_5⟩⟩
theorem bw_6 {n:Nat}{v v':World} (h:Below n v v':=by repeat(first|(with_reducible first|exact HB.out|apply bwA|apply pbN|apply bwD)|exact HB.out)):Below n v v':=h
theorem ln_6 {P:Prop} (h:P:=by(try simp only[List.map_toArray,List.map_cons,List.map_nil]);first|done|rfl|(simp only[List.length_drop,List.length_take];rfl)):P:=h
def fX.l0:Nat→List Int→Int→Option (Int)
 |0,_,_=>none
 |k+1,x0,x1=>if 0≤x1 then(if x1<(x0.length:Int) then(if(rd x0 x1)=x1 then(some x1) else(fX.l0 k x0 (rd x0 x1))) else(none)) else(none)
def fX.f (k:Nat) (l0:List Int) (a1:Int):Option (Int):=fX.l0 k l0 a1
theorem fX.calls (k:Nat) (A0:Option Addr) (c0:Nat) (l0:List Int) (a1:Int) (r:Int) (w:World) (Aq:Kd.C (Kd.int .i64) w A0 l0.length l0) (As:l0.length≤c0) (h:fX.f k l0 a1=some r):
  Calls Try.prog 68 #[.slice A0 l0.length c0, .int .i64 a1] w fun e w'=>e= .returned (.int .i64 r)∧Drawn0 w w':=by
 have Ak:=Az.mk Aq
 have Ax:=Az.mk As
 clear Aq As
 have H:(fX.l0 k l0 a1)=some r:=h
 clear h
 have H':=Az.mk H
 clear H
 go_enter Try.func68,Try.ntmps68
 go_wp2
 go_loopg [1] k (fun kq v1 w'=>∃(Aa:Int),v1= .int .i64 Aa∧Az (fX.l0 kq l0 Aa=some r)∧Az (kq≤k)∧Drawn0 w w')
 case atStart=>exact⟨(a1),rq2,H',⟨Nat.le_refl _⟩,kd⟩
 clear H'
 obtain⟨Aa,rfl,HA,HK1,⟨m1,rfl⟩⟩:=hrel
 cases gk with
 |zero=>exact absurd HA.out (by simp[fX.l0])
 |succ k1=>
  have H:=HA.out
  clear HA
  simp only[fX.l0]at H
  by_cases c3:0≤Aa
  rotate_left
  ·rw[ig c3]at H
   exact absurd H (by simp)
  rw[ip c3]at H
  have Au:=ode c3
  clear c3
  by_cases c4:Aa<(l0.length:Int)
  rotate_left
  ·rw[ig c4]at H
   exact absurd H (by simp)
  rw[ip c4]at H
  have Av:=ode c4
  clear c4
  by_cases c5:(rd l0 Aa)=Aa
  ·rw[ip c5]at H
   have Al:=beq_iff_eq.mpr c5
   have Am:=bne_eq_false_iff_eq.mpr c5
   clear c5
   obtain rfl:=Option.some.inj H
   have Ab:0≤(Aa:Int):=od
   have Ac:Aa<(l0.length:Int):=od
   obtain⟨Ae,Af,Ad⟩:=Kd.at_int Ak.out Aa Ab Ac
   cases Af
   replace Ab:=ets Ab
   replace Ac:=ets Ac
   go_wp2
   go_ret
   exact⟨rq2,kd⟩
  rw[ig c5]at H
  have Al:=beq_eq_false_iff_ne.mpr c5
  have Am:=bne_iff_ne.mpr c5
  have H':=Az.mk H
  clear H
  have Ab:0≤(Aa:Int):=od
  have Ac:Aa<(l0.length:Int):=od
  obtain⟨Ae,Af,Ad⟩:=Kd.at_int Ak.out Aa Ab Ac
  cases Af
  replace Ab:=ets Ab
  replace Ac:=ets Ac
  have Ag:0≤(Aa:Int):=od
  have Ah:Aa<(l0.length:Int):=od
  obtain⟨Ai,Ap,Aj⟩:=Kd.at_int Ak.out Aa Ag Ah
  obtain rfl:Ae=Ai:=(by injection Ap)
  replace Ag:=ets Ag
  replace Ah:=ets Ah
  go_wp2
  go_roundg k1
  case measure=>have:=HK1.out;omega
  case rel=>exact⟨(rd l0 Aa),rq2,H',⟨by have:=HK1.out;omega⟩,kd⟩
mutual
def fR.l0:Nat→List (List Int)→List Int→Int→Option (List Int)
 |0,_,_,_=>none
 |k+1,x0,x3,x4=>if x4≤(wrap64 ((wrap64 (3*(x0.length:Int)))+1)) then(if x3.length<17592186044416 then(fR.l0 k x0 (x3 ++ [x4]) (wrap64 (x4+1))) else(none)) else(fR.l1 k x0 x3 0)
def fR.l1:Nat→List (List Int)→List Int→Int→Option (List Int)
 |0,_,_,_=>none
 |k+1,x0,x3,x5=>if x5<(x0.length:Int) then(fR.l2 k x0 x3 x5 0) else(some x3)
def fR.l2:Nat→List (List Int)→List Int→Int→Int→Option (List Int)
 |0,_,_,_,_=>none
 |k+1,x0,x3,x5,x6=>if x6<3 then(if 0≤x5 then(if x5<(x0.length:Int) then(if 0≤x6 then(if x6<((rd_L1 x0 x5).length:Int) then(if 0≤(Int.tmod (wrap64 (x6+1)) 3) then(if(Int.tmod (wrap64 (x6+1)) 3)<((rd_L1 x0 x5).length:Int) then((fZ.f (rd (rd_L1 x0 x5) x6)).bind fun t143=>((gJ.f (decide ((rd (rd_L1 x0 x5) x6)>0))).bind fun t144=>((fX.f k x3 (wrap64 ((wrap64 (2*t143))+t144))).bind fun t145=>((fZ.f (rd (rd_L1 x0 x5) (Int.tmod (wrap64 (x6+1)) 3))).bind fun t146=>((gJ.f (decide ((rd (rd_L1 x0 x5) (Int.tmod (wrap64 (x6+1)) 3))<0))).bind fun t147=>((fX.f k x3 (wrap64 ((wrap64 (2*t146))+t147))).bind fun t148=>(if 0≤t145 then(if t145<(x3.length:Int) then(fR.l2 k x0 (x3.set (t145:Int).toNat t148) x5 (wrap64 (x6+1))) else(none)) else(none)))))))) else(none)) else(none)) else(none)) else(none)) else(none)) else(none)) else(fR.l1 k x0 x3 (wrap64 (x5+1)))
end
def fR.f (k:Nat) (l0:List (List Int)):Option (List Int):=fR.l0 k l0 (([]:List Int)) 0
theorem fR.calls (k:Nat) (A0:Option Addr) (c0:Nat) (l0:List (List Int)) (r:List Int) (w:World) (Dj:Kd.C (Kd.slice 3 (Kd.int .i64)) w A0 l0.length l0) (Dk:l0.length≤c0) (h:fR.f k l0=some r):
  Calls Try.prog 54 #[.slice A0 l0.length c0] w fun e w'=>∃v0_:Value,e= .returned (v0_)∧Kd.R (Kd.int .i64) 3 w' w.heap.size (fun _=>True) v0_ r∧Below w.heap.size w w':=by
 have Dl:=Az.mk Dj
 have Eh:=Az.mk Dk
 clear Dj Dk
 have HB:=Az.mk (Below.refl w.heap.size w)
 have H:=h
 unfold fR.f at H
 clear h
 obtain⟨Bx,hy⟩:∃y_:List Int,y_=(([]:List Int)):=⟨_,rfl⟩
 replace H:(fR.l0 k l0 Bx 0)=some r:=rh
 have Bf:=Az.mk hy
 clear hy
 have H':=Az.mk H
 clear H
 go_enter Try.func54,Try.ntmps54
 go_wp2_with (first|((with_reducible refine gtD (N:=11) rfl ?_);refine Kd.R_lit (Kd.int .i64) _ 3 ?hg (N:=11) ?hd (xs:=([]:List Int)) (inner:=[]) (ok:=fun _=>True) (okp:=fun _=>True) ?hr ?hp (fun _ hk=>hk) trivial (Below.refl _ _) (Nat.le_refl _) (by simp) ?_;(case hd=>rfl);(case hg=>rfl);(case hr=>first|(go_simp;done)|(go_simp;rfl));(case hp=>exact(Reps.none _ _));intro Dv w2 By hb hg_ hnew_;clear hg_ hnew_;(first|rw[←Bf.out]at By|(simp only[Int.reduceToNat]at By;rw[←Bf.out]at By));have Bz:=Az.mk (Kd.R_lower By (bwZ bw_6));replace HB:=Az.mk (bwT bw_6 hb);clear hb By))
 go_loopg [3,4] k (fun kq v3 v4 w'=>∃(Ai:List Int) (Ae:Int),v4= .int .i64 Ae∧Az (fR.l0 kq l0 Ai Ae=some r)∧Az (kq≤k)∧Az (Kd.R (Kd.int .i64) 3 w' w.heap.size (fun _=>True) v3 Ai)∧Az (Below w.heap.size w w'))
 case atStart=>exact⟨(Bx),(0),rq2,H',⟨Nat.le_refl _⟩,⟨kR Bz.out⟩,⟨bw_6⟩⟩
 clear H'
 obtain⟨Ai,Ae,rfl,HA,HK1,HO_3,HB⟩:=hrel
 cases gk with
 |zero=>exact absurd HA.out (by simp[fR.l0])
 |succ k1=>
  have H:=HA.out
  clear HA
  simp only[fR.l0]at H
  by_cases c4:Ae≤(wrap64 ((wrap64 (3*(l0.length:Int)))+1))
  ·rw[ip c4]at H
   have Bh:=ode c4
   clear c4
   by_cases c5:Ai.length<17592186044416
   rotate_left
   ·rw[ig c5]at H
    exact absurd H (by simp)
   rw[ip c5]at H
   have LMc5:=Az.mk c5
   clear c5
   obtain⟨Ca,hy⟩:∃y_:List Int,y_=(Ai ++ [Ae]):=⟨_,rfl⟩
   replace H:(fR.l0 k1 l0 Ca (wrap64 (Ae+1)))=some r:=rh
   have Cb:=Az.mk hy
   clear hy
   have H':=Az.mk H
   clear H
   go_wp2_with (first|((with_reducible refine gate_builtin (b:= .append) (xs:= #[.tmp 20, .tmp 22]) rfl ?_);at_builtin;refine Kd.R_append (Kd.int .i64) (w0:=w) w.heap.size rfl (.tmp 20) (.tmp 22) 25 3 (.int .i64 0) 8 rfl Try.underlying25 info3 rfl (by decide) (by omega) u3 Ai Ae [.int .i64 Ae] (fun _=>True) (fun _=>False) rfl rfl ?aP (fun _ hk=>hk.elim) ?aF ?aO ?aB ?aS ?aL ?_;(case aP=>exact rfl);(case aB=>exact bw_6);(case aF=>exact(fun _ _=>trivial));(case aO=>exact(kR HO_3.out));(case aS=>exact(bwZ bw_6));(case aL=>have:=LMc5.out;omega);intro Dw w6 ho hb hg hat;rw[←Cb.out]at ho;have n0_:=Az.mk (hb);have n1_:=Az.mk (ho);clear HB;clear HO_3;have HB:=n0_;have Cc:=n1_;clear n0_ n1_;clear ho hb hg hat))
   go_roundg k1
   case measure=>have:=HK1.out;omega
   case rel=>exact⟨(Ca),(wrap64 (Ae+1)),rq2,H',⟨by have:=HK1.out;omega⟩,⟨kR Cc.out⟩,⟨bw_6⟩⟩
  rw[ig c4]at H
  have Bh:=decide_eq_false c4
  clear c4
  have H':=Az.mk H
  clear H
  go_wp2
  go_loopg [5] k1 (fun kq v5 w'=>∃(Ba:List Int) (Aa:Int),v5= .int .i64 Aa∧Az (fR.l1 kq l0 Ba Aa=some r)∧Az (kq≤k1)∧Az (Kd.R (Kd.int .i64) 3 w' w.heap.size (fun _=>True) u3 Ba)∧Az (Below w.heap.size w w'))
  case atStart=>exact⟨(Ai),(0),rq2,H',⟨Nat.le_refl _⟩,⟨kR HO_3.out⟩,⟨bw_6⟩⟩
  clear H'
  try clear c4
  try clear Bh
  try clear c5
  obtain⟨Ba,Aa,rfl,HA,HK2,HO_3,HB⟩:=hrel
  cases gk with
  |zero=>exact absurd HA.out (by simp[fR.l1])
  |succ k2=>
   have H:=HA.out
   clear HA
   simp only[fR.l1]at H
   by_cases c7:Aa<(l0.length:Int)
   rotate_left
   ·rw[ig c7]at H
    have Cd:=decide_eq_false c7
    clear c7
    obtain rfl:=Option.some.inj H
    go_wp2
    go_ret
    exact⟨_,rq1,kR HO_3.out,bw_6⟩
   rw[ip c7]at H
   have Cd:=ode c7
   clear c7
   have H':=Az.mk H
   clear H
   go_wp2
   go_loopg [6] k2 (fun kq v6 w'=>∃(Ab:List Int) (Ac:Int),v6= .int .i64 Ac∧Az (fR.l2 kq l0 Ab Aa Ac=some r)∧Az (kq≤k2)∧Az (Kd.R (Kd.int .i64) 3 w' w.heap.size (fun _=>True) u3 Ab)∧Az (Below w.heap.size w w'))
   case atStart=>exact⟨(Ba),(0),rq2,H',⟨Nat.le_refl _⟩,⟨kR HO_3.out⟩,⟨bw_6⟩⟩
   clear H'
   try clear c4
   try clear Bh
   try clear c5
   try clear c7
   try clear Cd
   obtain⟨Ab,Ac,rfl,HA,HK3,HO_3,HB⟩:=hrel
   cases gk with
   |zero=>exact absurd HA.out (by simp[fR.l2])
   |succ k3=>
    have H:=HA.out
    clear HA
    simp only[fR.l2]at H
    by_cases c8:Ac<3
    rotate_left
    ·rw[ig c8]at H
     have Cs:=decide_eq_false c8
     clear c8
     have H':=Az.mk H
     clear H
     go_wp2
     go_roundg k3
     case measure=>have:=HK1.out;have:=HK2.out;have:=HK3.out;omega
     case rel=>exact⟨(Ab),(wrap64 (Aa+1)),rq2,H',⟨by have:=HK1.out;have:=HK2.out;have:=HK3.out;omega⟩,⟨kR HO_3.out⟩,⟨bw_6⟩⟩
    rw[ip c8]at H
    have Cs:=ode c8
    clear c8
    by_cases c9:0≤Aa
    rotate_left
    ·rw[ig c9]at H
     exact absurd H (by simp)
    rw[ip c9]at H
    have Dx:=ode c9
    clear c9
    by_cases Cj:Aa<(l0.length:Int)
    rotate_left
    ·rw[ig Cj]at H
     exact absurd H (by simp)
    rw[ip Cj]at H
    have Dm:=ode Cj
    clear Cj
    by_cases Ck:0≤Ac
    rotate_left
    ·rw[ig Ck]at H
     exact absurd H (by simp)
    rw[ip Ck]at H
    have Dn:=ode Ck
    clear Ck
    by_cases Cl:Ac<((rd_L1 l0 Aa).length:Int)
    rotate_left
    ·rw[ig Cl]at H
     exact absurd H (by simp)
    rw[ip Cl]at H
    have Do:=ode Cl
    clear Cl
    obtain⟨Af,Ak⟩:∃j_:Int,(Int.tmod (wrap64 (Ac+1)) 3)=j_:=⟨_,rfl⟩
    first|rw[Ak]at H|simp only[Ak]at H
    by_cases Cm:0≤(Af)
    rotate_left
    ·rw[ig Cm]at H
     exact absurd H (by simp)
    rw[ip Cm]at H
    have Dp:=ode Cm
    clear Cm
    by_cases Cn:(Af)<((rd_L1 l0 Aa).length:Int)
    rotate_left
    ·rw[ig Cn]at H
     exact absurd H (by simp)
    rw[ip Cn]at H
    have Dq:=ode Cn
    clear Cn
    replace H:=bez H
    obtain⟨Bi,Dy,H⟩:=H
    try dsimp only at H
    replace H:=bez H
    obtain⟨Bj,Dz,H⟩:=H
    try dsimp only at H
    replace H:=bez H
    obtain⟨Ad,Ea,H⟩:=H
    try dsimp only at H
    replace H:=bez H
    obtain⟨Bk,Eb,H⟩:=H
    try dsimp only at H
    replace H:=bez H
    obtain⟨Bl,Ec,H⟩:=H
    try dsimp only at H
    replace H:=bez H
    obtain⟨Bb,Ed,H⟩:=H
    try dsimp only at H
    by_cases Co:0≤Ad
    rotate_left
    ·rw[ig Co]at H
     exact absurd H (by simp)
    rw[ip Co]at H
    have Dr:=ode Co
    clear Co
    by_cases Cp:Ad<(Ab.length:Int)
    rotate_left
    ·rw[ig Cp]at H
     exact absurd H (by simp)
    rw[ip Cp]at H
    have Ds:=ode Cp
    clear Cp
    obtain⟨Bm,hy⟩:∃y_:List Int,y_=(Ab.set (Ad:Int).toNat Bb):=⟨_,rfl⟩
    replace H:(fR.l2 k3 l0 Bm Aa (wrap64 (Ac+1)))=some r:=rh
    have Ce:=Az.mk hy
    clear hy
    have H':=Az.mk H
    clear H
    have Bn:0≤(Aa:Int):=od
    have Bo:Aa<(l0.length:Int):=od
    obtain⟨Cf,Ct,Cu,Cv,Ag,Al,Am⟩:=at_L1 Dl.out Aa Bn Bo
    cases Cv
    replace Ag:=kc HB Ag
    have Bc:=Az.mk Am
    have Cq:=Az.mk Al
    clear Am Al
    replace Bn:=ets Bn
    replace Bo:=ets Bo
    have Bp:0≤(Ac:Int):=od
    have Bq:Ac<((rd_L1 l0 Aa).length:Int):=od
    obtain⟨Dt,Cw,Ap⟩:=Kd.at_int Bc.out Ac Bp Bq
    cases Cw
    replace Ap:=kc HB Ap
    replace Bp:=ets Bp
    replace Bq:=ets Bq
    have Br:0≤(Aa:Int):=od
    have Bs:Aa<(l0.length:Int):=od
    obtain⟨Cg,Cy,Cz,Da,Ah,Aq,As⟩:=at_L1 Dl.out Aa Br Bs
    obtain rfl:Cf=Cg:=(by injection Da)
    replace Ah:=kc HB Ah
    have Bd:=Az.mk As
    have Cr:=Az.mk Aq
    clear As Aq
    replace Br:=ets Br
    replace Bs:=ets Bs
    have ea_:=Option.some.inj (Ag.symm.trans Ah)
    injection ea_ with ea_ en_ ec_
    subst ea_
    subst ec_
    clear en_
    have Bt:0≤((Af):Int):=od
    have Bu:(Af)<((rd_L1 l0 Aa).length:Int):=od
    obtain⟨Du,Db,Au⟩:=Kd.at_int Bd.out (Af) Bt Bu
    cases Db
    replace Au:=kc HB Au
    replace Bt:=ets Bt
    replace Bu:=ets Bu
    go_wp2_with (first|((with_reducible refine gtC (f:=43) rfl ?_);refine clz Try.func43 (some 52) #[.int .i64 (rd (rd_L1 l0 Aa) Ac)] ?_;(with_reducible refine(fZ.calls (rd (rd_L1 l0 Aa) Ac) Bi _ Dy.out).mono ?_);rintro e w' ⟨rfl,⟨nd,rfl⟩⟩;refine⟨_,rfl,?_⟩;(try(rw[drewN_self wr];generalize hq_:World.drewN wr _=wr;have n0_:Az (Kd.R (Kd.int .i64) 3 wr w.heap.size (fun _=>True) u3 Ab):=⟨by rw[←hq_];exact(kR HO_3.out)⟩;have n1_:Az (Below w.heap.size w wr):=⟨by rw[←hq_];exact bw_6⟩;clear HO_3 HB hq_;have HO_3:=n0_;have HB:=n1_;clear n0_ n1_)))|((with_reducible refine gtC (f:=55) rfl ?_);refine clz Try.func55 (some 56) #[.bool (decide ((rd (rd_L1 l0 Aa) Ac)>0))] ?_;(with_reducible refine(gJ.calls (decide ((rd (rd_L1 l0 Aa) Ac)>0)) Bj _ Dz.out).mono ?_);rintro e w' ⟨rfl,⟨nd,rfl⟩⟩;refine⟨_,rfl,?_⟩;(try(rw[drewN_self wr];generalize hq_:World.drewN wr _=wr;have n0_:Az (Kd.R (Kd.int .i64) 3 wr w.heap.size (fun _=>True) u3 Ab):=⟨by rw[←hq_];exact(kR HO_3.out)⟩;have n1_:Az (Below w.heap.size w wr):=⟨by rw[←hq_];exact bw_6⟩;clear HO_3 HB hq_;have HO_3:=n0_;have HB:=n1_;clear n0_ n1_));obtain⟨Av,Aj,Dc⟩:=Kd.R_slice HO_3.out;subst Dc)|((with_reducible refine gtC (f:=68) rfl ?_);refine clz Try.func68 (some 58) #[.slice Av Ab.length Aj, .int .i64 (wrap64 ((wrap64 (2*Bi))+Bj))] ?_;(with_reducible refine(fX.calls k3 _ _ Ab (wrap64 ((wrap64 (2*Bi))+Bj)) Ad _ ?Ax ?Ay Ea.out).mono ?_);(case Ax=>exact kC (Kd.R_reads' HO_3.out).2.2);(case Ay=>exact(Kd.R_reads' HO_3.out).2.1);rintro e w' ⟨rfl,⟨nd,rfl⟩⟩;refine⟨_,rfl,?_⟩;(try(rw[drewN_self wr];generalize hq_:World.drewN wr _=wr;have n0_:Az (Kd.R (Kd.int .i64) 3 wr w.heap.size (fun _=>True) (.slice Av Ab.length Aj) Ab):=⟨by rw[←hq_];exact(kR HO_3.out)⟩;have n1_:Az (Below w.heap.size w wr):=⟨by rw[←hq_];exact bw_6⟩;clear HO_3 HB hq_;have HO_3:=n0_;have HB:=n1_;clear n0_ n1_)))|((with_reducible refine gtC (f:=43) rfl ?_);refine goesL_ (some 61) rfl rfl Try.func43 (by kernel_rfl) rfl #[.int .i64 (rd (rd_L1 l0 Aa) (Af))] rfl (by(try simp only[List.map_toArray,List.map_cons,List.map_nil]);first|done|(simp only[Ak];rfl)|rfl|(simp only[List.length_drop,List.length_take];rfl)) ?_;(with_reducible refine(fZ.calls (rd (rd_L1 l0 Aa) (Af)) Bk _ Eb.out).mono ?_);rintro e w' ⟨rfl,⟨nd,rfl⟩⟩;refine⟨_,rfl,?_⟩;(try(rw[drewN_self wr];generalize hq_:World.drewN wr _=wr;have n0_:Az (Kd.R (Kd.int .i64) 3 wr w.heap.size (fun _=>True) (.slice Av Ab.length Aj) Ab):=⟨by rw[←hq_];exact(kR HO_3.out)⟩;have n1_:Az (Below w.heap.size w wr):=⟨by rw[←hq_];exact bw_6⟩;clear HO_3 HB hq_;have HO_3:=n0_;have HB:=n1_;clear n0_ n1_)))|((with_reducible refine gtC (f:=55) rfl ?_);refine goesL_ (some 65) rfl rfl Try.func55 (by kernel_rfl) rfl #[.bool (decide ((rd (rd_L1 l0 Aa) (Af))<0))] rfl (by(try simp only[List.map_toArray,List.map_cons,List.map_nil]);first|done|(simp only[Ak];rfl)|rfl|(simp only[List.length_drop,List.length_take];rfl)) ?_;(with_reducible refine(gJ.calls (decide ((rd (rd_L1 l0 Aa) (Af))<0)) Bl _ Ec.out).mono ?_);rintro e w' ⟨rfl,⟨nd,rfl⟩⟩;refine⟨_,rfl,?_⟩;(try(rw[drewN_self wr];generalize hq_:World.drewN wr _=wr;have n0_:Az (Kd.R (Kd.int .i64) 3 wr w.heap.size (fun _=>True) (.slice Av Ab.length Aj) Ab):=⟨by rw[←hq_];exact(kR HO_3.out)⟩;have n1_:Az (Below w.heap.size w wr):=⟨by rw[←hq_];exact bw_6⟩;clear HO_3 HB hq_;have HO_3:=n0_;have HB:=n1_;clear n0_ n1_)))|((with_reducible refine gtC (f:=68) rfl ?_);refine clz Try.func68 (some 67) #[.slice Av Ab.length Aj, .int .i64 (wrap64 ((wrap64 (2*Bk))+Bl))] ?_;(with_reducible refine(fX.calls k3 _ _ Ab (wrap64 ((wrap64 (2*Bk))+Bl)) Bb _ ?Ax ?Ay Ed.out).mono ?_);(case Ax=>exact kC (Kd.R_reads' HO_3.out).2.2);(case Ay=>exact(Kd.R_reads' HO_3.out).2.1);rintro e w' ⟨rfl,⟨nd,rfl⟩⟩;refine⟨_,rfl,?_⟩;(try(rw[drewN_self wr];generalize hq_:World.drewN wr _=wr;have n0_:Az (Kd.R (Kd.int .i64) 3 wr w.heap.size (fun _=>True) (.slice Av Ab.length Aj) Ab):=⟨by rw[←hq_];exact(kR HO_3.out)⟩;have n1_:Az (Below w.heap.size w wr):=⟨by rw[←hq_];exact bw_6⟩;clear HO_3 HB hq_;have HO_3:=n0_;have HB:=n1_;clear n0_ n1_));have Dd:0≤(Ad:Int):=od;have De:(Ad:Int)<((Ab.length:Int):Int):=od;obtain⟨Bv,Ee,Ch,Ci,gl24,Ef,HG24⟩:=Kd.R_form HO_3.out (by omega);(first|cases Ch|(injection Ch with ea_ en_ ec_;(first|subst ea_|(injection ea_ with ea_;subst ea_));subst ec_;clear en_));have Df:=Az.mk Ci;have Eg:=Az.mk HG24;clear Ci gl24 HG24;obtain⟨Dg,Dh⟩:=Kd.R_celln 0 HO_3.out (Ad:Int) Dd De;replace Dd:=ets Dd;replace De:=ets De;obtain⟨hy26_,hz26_⟩:=Kd.R_celln 0 HO_3.out (Ad:Int) (od) (od);have Bw:=Kd.R_putg HO_3.out (Ad:Int) Bb)|((with_reducible refine gate_store (t:=3) (p:=71) rfl ?_);refine store_event (t:=3) (p:=71) (v:=?vo_w27) (w1:=(wr.setCell ⟨Bv,(Ad:Int).toNat,none⟩ (.int .i64 Bb))) ?hg ?ho ?hn ?hr ?_;(case ho=>rfl);(case hg=>rfl);(case hn=>rfl);(case hr=>first|(go_simp;done)|(go_simp;rfl));intro Di hw;have hg:wr.grownBy Di (some Bv):=(by rw[hw];exact Bw.2);have hp_:Kd.R (Kd.int .i64) 3 Di w.heap.size (fun _=>True) (.slice (some ⟨Bv,0,none⟩) Ab.length Aj) Bm:=(by rw[hw,Ce.out];exact Bw.1);clear Bw;replace HO_3:=Az.mk (hp_);replace HB:=Az.mk ((by rw[hw];exact bwS (HB.out) Df.out:Below w.heap.size w Di));clear hg hw hp_))
    go_roundg k3
    case measure=>have:=HK1.out;have:=HK2.out;have:=HK3.out;omega
    case rel=>exact⟨(Bm),(wrap64 (Ac+1)),rq2,H',⟨by have:=HK1.out;have:=HK2.out;have:=HK3.out;omega⟩,⟨kR HO_3.out⟩,⟨bw_6⟩⟩
theorem bw_7 {n:Nat}{v v':World} (h:Below n v v':=by repeat(first|(with_reducible first|exact HB.out|apply bwA|apply pbN|apply bwD)|exact HB.out)):Below n v v':=h
theorem ln_7 {P:Prop} (h:P:=by(try simp only[List.map_toArray,List.map_cons,List.map_nil]);first|done|rfl|(simp only[List.length_drop,List.length_take];rfl)):P:=h
def gL.l0:Nat→List (List Int)→List Int→Int→List Int→Int→Option (List Int)
 |0,_,_,_,_,_=>none
 |k+1,x0,x7,x9,x10,x11=>if x11≤(wrap64 (Int.tdiv (wrap64 (3*(x0.length:Int))) 2)) then((fX.f k x7 (wrap64 (2*x11))).bind fun t161=>((gJ.f (t161== x9)).bind fun t162=>((fX.f k x7 (wrap64 ((wrap64 (2*x11))+1))).bind fun t163=>((gJ.f (t163== x9)).bind fun t164=>(if x10.length<17592186044416 then(gL.l0 k x0 x7 x9 (x10 ++ [wrap64 (t162+t164)]) (wrap64 (x11+1))) else(none)))))) else(some x10)
def gL.f (k:Nat) (l0:List (List Int)) (a1:Int) (a2:Int):Option (List Int):=(fR.f k l0).bind fun t150=>(if 0≤a1 then(if a1<(l0.length:Int) then(if 0≤a2 then(if a2<((rd_L1 l0 a1).length:Int) then((fZ.f (rd (rd_L1 l0 a1) a2)).bind fun t155=>((gJ.f (decide ((rd (rd_L1 l0 a1) a2)>0))).bind fun t156=>((fX.f k t150 (wrap64 ((wrap64 (2*t155))+t156))).bind fun t157=>(gL.l0 k l0 t150 t157 (([]:List Int)) 1)))) else(none)) else(none)) else(none)) else(none))
theorem gL.calls (k:Nat) (A0:Option Addr) (c0:Nat) (l0:List (List Int)) (a1:Int) (a2:Int) (r:List Int) (w:World) (Cc:Kd.C (Kd.slice 3 (Kd.int .i64)) w A0 l0.length l0) (Cd:l0.length≤c0) (h:gL.f k l0 a1 a2=some r):
  Calls Try.prog 59 #[.slice A0 l0.length c0, .int .i64 a1, .int .i64 a2] w fun e w'=>∃v0_:Value,e= .returned (v0_)∧Kd.R (Kd.int .i64) 3 w' w.heap.size (fun _=>True) v0_ r∧Below w.heap.size w w':=by
 have Ce:=Az.mk Cc
 have Cj:=Az.mk Cd
 clear Cc Cd
 have HB:=Az.mk (Below.refl w.heap.size w)
 have H:=h
 unfold gL.f at H
 clear h
 replace H:=bez H
 obtain⟨Ab,A4,H⟩:=H
 try dsimp only at H
 by_cases c5:0≤a1
 rotate_left
 ·rw[ig c5]at H
  exact absurd H (by simp)
 rw[ip c5]at H
 have Bt:=ode c5
 clear c5
 by_cases c6:a1<(l0.length:Int)
 rotate_left
 ·rw[ig c6]at H
  exact absurd H (by simp)
 rw[ip c6]at H
 have Bu:=ode c6
 clear c6
 by_cases c7:0≤a2
 rotate_left
 ·rw[ig c7]at H
  exact absurd H (by simp)
 rw[ip c7]at H
 have Bv:=ode c7
 clear c7
 by_cases c8:a2<((rd_L1 l0 a1).length:Int)
 rotate_left
 ·rw[ig c8]at H
  exact absurd H (by simp)
 rw[ip c8]at H
 have Bw:=ode c8
 clear c8
 replace H:=bez H
 obtain⟨Bf,A9,H⟩:=H
 try dsimp only at H
 replace H:=bez H
 obtain⟨Bh,Ck,H⟩:=H
 try dsimp only at H
 replace H:=bez H
 obtain⟨Aj,Cl,H⟩:=H
 try dsimp only at H
 obtain⟨Bl,hy⟩:∃y_:List Int,y_=(([]:List Int)):=⟨_,rfl⟩
 replace H:(gL.l0 k l0 Ab Aj Bl 1)=some r:=rh
 have Bd:=Az.mk hy
 clear hy
 have H':=Az.mk H
 clear H
 go_enter Try.func59,Try.ntmps59
 go_wp2_with (first|((with_reducible refine gtC (f:=54) rfl ?_);refine clz Try.func54 (some 13) #[.slice A0 l0.length c0] ?_;(with_reducible refine(fR.calls k _ _ l0 Ab _ ?Ac ?Ad A4.out).mono ?_);(case Ac=>exact kC Ce.out);(case Ad=>exact Cj.out);rintro e w12 ⟨Cm,rfl,Cf,hb⟩;refine⟨_,rfl,?_⟩;have Ae:=Az.mk (Kd.R_lower Cf (bwZ bw_7));replace HB:=Az.mk (bwT bw_7 hb);(try clear hb);(try clear Cf);have Au:0≤(a1:Int):=od;have Av:a1<(l0.length:Int):=od;obtain⟨Cg,Bx,By,Bz,Ag,Ak,Al⟩:=at_L1 Ce.out a1 Au Av;cases Bz;replace Ag:=kc HB Ag;have Ax:=Az.mk Al;have Br:=Az.mk Ak;clear Al Ak;replace Au:=ets Au;replace Av:=ets Av;have Ay:0≤(a2:Int):=od;have Ba:a2<((rd_L1 l0 a1).length:Int):=od;obtain⟨Ch,Ca,Ah⟩:=Kd.at_int Ax.out a2 Ay Ba;cases Ca;replace Ah:=kc HB Ah;replace Ay:=ets Ay;replace Ba:=ets Ba)|((with_reducible refine gtC (f:=43) rfl ?_);refine clz Try.func43 (some 23) #[.int .i64 (rd (rd_L1 l0 a1) a2)] ?_;(with_reducible refine(fZ.calls (rd (rd_L1 l0 a1) a2) Bf _ A9.out).mono ?_);rintro e w' ⟨rfl,⟨nd,rfl⟩⟩;refine⟨_,rfl,?_⟩)|((with_reducible refine gtC (f:=55) rfl ?_);refine clz Try.func55 (some 27) #[.bool (decide ((rd (rd_L1 l0 a1) a2)>0))] ?_;(with_reducible refine(gJ.calls (decide ((rd (rd_L1 l0 a1) a2)>0)) Bh _ Ck.out).mono ?_);rintro e w' ⟨rfl,⟨nd,rfl⟩⟩;refine⟨_,rfl,?_⟩;obtain⟨Am,Ap,Cb⟩:=Kd.R_slice Ae.out;subst Cb)|((with_reducible refine gtC (f:=68) rfl ?_);refine clz Try.func68 (some 29) #[.slice Am Ab.length Ap, .int .i64 (wrap64 ((wrap64 (2*Bf))+Bh))] ?_;(with_reducible refine(fX.calls k _ _ Ab (wrap64 ((wrap64 (2*Bf))+Bh)) Aj _ ?Ac ?Ad Cl.out).mono ?_);(case Ac=>exact kC (Kd.R_reads' Ae.out).2.2);(case Ad=>exact(Kd.R_reads' Ae.out).2.1);rintro e w' ⟨rfl,⟨nd,rfl⟩⟩;refine⟨_,rfl,?_⟩)|((with_reducible refine gtD (N:=30) rfl ?_);refine Kd.R_lit (Kd.int .i64) _ 3 ?hg (N:=30) ?hd (xs:=([]:List Int)) (inner:=[]) (ok:=fun _=>True) (okp:=fun _=>True) ?hr ?hp (fun _ hk=>hk) trivial (Below.refl _ _) (Nat.le_refl _) (by simp) ?_;(case hd=>rfl);(case hg=>rfl);(case hr=>first|(go_simp;done)|(go_simp;rfl));(case hp=>exact(Reps.none _ _));intro Cn Cu Aq hb hg_ hnew_;clear hg_ hnew_;(first|rw[←Bd.out]at Aq|(simp only[Int.reduceToNat]at Aq;rw[←Bd.out]at Aq));have Bm:=Az.mk (Kd.R_lower (Kd.R_new' Aq (Kd.R_lt (kR Ae.out))) (bwZ bw_7));replace Ae:=Az.mk (Kd.R_elder' (kR Ae.out) (Kd.R_base Aq) hb);replace HB:=Az.mk (bwT bw_7 hb);clear hb Aq))
 go_loopg [10,11] k (fun kq Ci Co w'=>∃(Af:List Int) (Aa:Int),Co= .int .i64 Aa∧Az (gL.l0 kq l0 Ab Aj Af Aa=some r)∧Az (kq≤k)∧Az (Kd.R (Kd.int .i64) 3 w' w.heap.size (fun k_=>some k_≠(Ci:Value).ownBlock) (.slice Am Ab.length Ap) Ab)∧Az (Kd.R (Kd.int .i64) 3 w' w.heap.size (fun k_=>some k_≠((.slice Am Ab.length Ap):Value).ownBlock) Ci Af)∧Az (Below w.heap.size w w'))
 case atStart=>exact⟨(Bl),(1),rq2,H',⟨Nat.le_refl _⟩,⟨by(with_reducible repeat(first|apply Kd.R_alloc|apply Kd.R_drewN|apply Kd.R_drew));exact Kd.R_mono Ae.out (fun _ hk=>hk.2)⟩,⟨by(with_reducible repeat(first|apply Kd.R_alloc|apply Kd.R_drewN|apply Kd.R_drew));exact Kd.R_mono Bm.out (fun _ hk=>hk.2)⟩,⟨bw_7⟩⟩
 clear H'
 try clear c5
 try clear Bt
 try clear c6
 try clear Bu
 try clear c7
 try clear Bv
 try clear c8
 try clear Bw
 try clear Ag
 try clear Ah
 try clear Au
 try clear Ay
 try clear Av
 try clear Ba
 obtain⟨Af,Aa,rfl,HA,HK1,Ai,As,HB⟩:=hrel
 cases gk with
 |zero=>exact absurd HA.out (by simp[gL.l0])
 |succ k1=>
  have H:=HA.out
  clear HA
  simp only[gL.l0]at H
  by_cases Bk:Aa≤(wrap64 (Int.tdiv (wrap64 (3*(l0.length:Int))) 2))
  rotate_left
  ·rw[ig Bk]at H
   have Bn:=decide_eq_false Bk
   clear Bk
   obtain rfl:=Option.some.inj H
   go_wp2
   go_ret
   exact⟨_,rq1,by(with_reducible repeat(first|apply Kd.R_alloc|apply Kd.R_drewN|apply Kd.R_drew));exact Kd.R_mono As.out (fun _ hk=>trivial),bw_7⟩
  rw[ip Bk]at H
  have Bn:=ode Bk
  clear Bk
  replace H:=bez H
  obtain⟨Bi,Cp,H⟩:=H
  try dsimp only at H
  replace H:=bez H
  obtain⟨Bb,Cq,H⟩:=H
  try dsimp only at H
  replace H:=bez H
  obtain⟨Bj,Cr,H⟩:=H
  try dsimp only at H
  replace H:=bez H
  obtain⟨Bc,Cs,H⟩:=H
  try dsimp only at H
  by_cases Bs:Af.length<17592186044416
  rotate_left
  ·rw[ig Bs]at H
   exact absurd H (by simp)
  rw[ip Bs]at H
  have LMc21:=Az.mk Bs
  clear Bs
  obtain⟨Bo,hy⟩:∃y_:List Int,y_=(Af ++ [wrap64 (Bb+Bc)]):=⟨_,rfl⟩
  replace H:(gL.l0 k1 l0 Ab Aj Bo (wrap64 (Aa+1)))=some r:=rh
  have Bp:=Az.mk hy
  clear hy
  have H':=Az.mk H
  clear H
  go_wp2_with (first|((with_reducible refine gtC (f:=68) rfl ?_);refine clz Try.func68 (some 43) #[.slice Am Ab.length Ap, .int .i64 (wrap64 (2*Aa))] ?_;(with_reducible refine(fX.calls k1 _ _ Ab (wrap64 (2*Aa)) Bi _ ?Ac ?Ad Cp.out).mono ?_);(case Ac=>exact kC (Kd.R_reads' Ai.out).2.2);(case Ad=>exact(Kd.R_reads' Ai.out).2.1);rintro e w' ⟨rfl,⟨nd,rfl⟩⟩;refine⟨_,rfl,?_⟩)|((with_reducible refine gtC (f:=55) rfl ?_);refine clz Try.func55 (some 46) #[.bool (Bi== Aj)] ?_;(with_reducible refine(gJ.calls (Bi== Aj) Bb _ Cq.out).mono ?_);rintro e w' ⟨rfl,⟨nd,rfl⟩⟩;refine⟨_,rfl,?_⟩)|((with_reducible refine gtC (f:=68) rfl ?_);refine clz Try.func68 (some 51) #[.slice Am Ab.length Ap, .int .i64 (wrap64 ((wrap64 (2*Aa))+1))] ?_;(with_reducible refine(fX.calls k1 _ _ Ab (wrap64 ((wrap64 (2*Aa))+1)) Bj _ ?Ac ?Ad Cr.out).mono ?_);(case Ac=>exact kC (Kd.R_reads' Ai.out).2.2);(case Ad=>exact(Kd.R_reads' Ai.out).2.1);rintro e w' ⟨rfl,⟨nd,rfl⟩⟩;refine⟨_,rfl,?_⟩)|((with_reducible refine gtC (f:=55) rfl ?_);refine clz Try.func55 (some 54) #[.bool (Bj== Aj)] ?_;(with_reducible refine(gJ.calls (Bj== Aj) Bc _ Cs.out).mono ?_);rintro e w' ⟨rfl,⟨nd,rfl⟩⟩;refine⟨_,rfl,?_⟩)|((with_reducible refine gate_builtin (b:= .append) (xs:= #[.tmp 39, .tmp 56]) rfl ?_);at_builtin;refine Kd.R_append (Kd.int .i64) (w0:=w) w.heap.size rfl (.tmp 39) (.tmp 56) 25 3 (.int .i64 0) 8 rfl Try.underlying25 info3 rfl (by decide) (by omega) u10 Af (wrap64 (Bb+Bc)) [.int .i64 (wrap64 (Bb+Bc))] (fun k_=>some k_≠(.slice Am Ab.length Ap:Value).ownBlock) (fun _=>False) rfl rfl ?aP (fun _ hk=>hk.elim) ?aF ?aO ?aB ?aS ?aL ?_;(case aP=>exact rfl);(case aB=>exact bw_7);(case aF=>exact(fun k_ hk=>Kd.fresh' (Kd.R_lt (kR Ai.out)) k_ hk));(case aO=>exact(kR As.out));(case aS=>exact(bwZ bw_7));(case aL=>have:=LMc21.out;omega);intro Ct Cv ho hb hg hat;rw[←Bp.out]at ho;have n0_:=Az.mk (Kd.R_after (ok:=(fun _=>True)) (by(with_reducible repeat(first|apply Kd.R_alloc|apply Kd.R_drewN|apply Kd.R_drew));exact Kd.R_mono Ai.out (fun _ hk=>⟨trivial,hk⟩)) hg hat);have n1_:=Az.mk (hb);have n2_:=Az.mk (ho);clear Ai;clear HB;clear As;have Ai:=n0_;have HB:=n1_;have Bq:=n2_;clear n0_ n1_ n2_;clear ho hb hg hat))
  go_roundg k1
  case measure=>have:=HK1.out;omega
  case rel=>exact⟨(Bo),(wrap64 (Aa+1)),rq2,H',⟨by have:=HK1.out;omega⟩,⟨by(with_reducible repeat(first|apply Kd.R_alloc|apply Kd.R_drewN|apply Kd.R_drew));exact Kd.R_mono Ai.out (fun _ hk=>hk.2)⟩,⟨kR Bq.out⟩,⟨bw_7⟩⟩
def jF.f (s0_0:List Int) (s0_1:Int) (s0_2:Int):Option (Int × Int × Int):=if s0_1<(s0_0.length:Int) then(if 0≤s0_1 then(some (Go.bits .and .i64 (wrap64 ((Go.bits .and .i64 (Go.bits .xor .i64 ((wrap64 ((wrap64 (s0_2*6364136223846793005))+1442695040888963407)) / 8589934592) ((wrap64 ((wrap64 (s0_2*6364136223846793005))+1442695040888963407)) / 35184372088832)) 255)+(wrap64 (rd s0_0 s0_1)))) 255,wrap64 (s0_1+1),wrap64 ((wrap64 (s0_2*6364136223846793005))+1442695040888963407))) else(none)) else(some (Go.bits .and .i64 (Go.bits .xor .i64 ((wrap64 ((wrap64 (s0_2*6364136223846793005))+1442695040888963407)) / 8589934592) ((wrap64 ((wrap64 (s0_2*6364136223846793005))+1442695040888963407)) / 35184372088832)) 255,s0_1,wrap64 ((wrap64 (s0_2*6364136223846793005))+1442695040888963407)))
theorem jF.calls (g:Nat) (Ac:List Int) (Ab:Int) (Ad:Int) (r1:Int) (r2:Int) (r3:Int) (w0 w:World) (hI:IsS76 w0 w g Ac Ab Ad) (hB:Below w0.heap.size w0 w) (h:jF.f Ac Ab Ad=some (r1,r2,r3)):
  Calls Try.prog 74 #[.pointer (some ⟨g,0,none⟩)] w fun e w'=>e= .returned (.int .i64 r1)∧IsS76 w0 w' g Ac r2 r3∧Below w0.heap.size w0 w'∧KeepBut w w' g none:=by
 have HI0:=Az.mk hI
 have HK:=Az.mk (KeepBut.refl w g none)
 have HL:=Az.mk hB.size
 clear hI
 have HW0:=Az.mk hB.size
 have HB:=Az.mk hB
 clear hB
 have H:=h
 unfold jF.f at H
 clear h
 by_cases c2:Ab<(Ac.length:Int)
 rotate_left
 ·rw[ig c2]at H
  have Ah:=decide_eq_false c2
  clear c2
  simp only[Option.some.injEq,Prod.mk.injEq]at H
  obtain⟨rfl,rfl,rfl⟩:=H
  obtain⟨ASz5_0,cSz5_0,HGz5,hgz5,HSz5_0⟩:=HI0.out
  have Ai:=cellS76_0 HGz5
  have Aj:=cellS76_1 HGz5
  have Ak:=cellS76_2 HGz5
  have Al:=bkF HGz5 1
  have Am:=bkF HGz5 2
  clear HGz5 hgz5
  go_enter Try.func74,Try.ntmps74
  go_wp2
  repeat(go_quiet (fail);try go_wp2)
  go_ret
  exact⟨rq1,kI HI0.out,kG HB.out (IsS76.ge HI0.out),kK HK.out⟩
 rw[ip c2]at H
 have Ah:=ode c2
 clear c2
 by_cases c3:0≤Ab
 rotate_left
 ·rw[ig c3]at H
  exact absurd H (by simp)
 rw[ip c3]at H
 have Ay:=ode c3
 clear c3
 simp only[Option.some.injEq,Prod.mk.injEq]at H
 obtain⟨rfl,rfl,rfl⟩:=H
 obtain⟨ASz4_0,cSz4_0,HGz4,hgz4,HSz4_0⟩:=HI0.out
 have Ap:=cellS76_0 HGz4
 have Aq:=cellS76_1 HGz4
 have As:=cellS76_2 HGz4
 have Au:=bkF HGz4 1
 have Av:=bkF HGz4 2
 clear HGz4 hgz4
 have Ae:0≤(Ab:Int):=od
 have Af:Ab<(Ac.length:Int):=od
 obtain⟨Ag,Ax,Aa⟩:=Kd.at_int HSz4_0 Ab Ae Af
 cases Ax
 have hn168_0:Ag.block≠g:=Nat.ne_of_lt (Nat.lt_of_lt_of_le (by have:=World.block_lt_of_cell? _ _ Aa;first|rwa [add_block]at this|exact this) (IsS76.ge HI0.out))
 replace Aa:=pw_cell_below HB.out Aa
 replace Aa:=(cell_far (p:=⟨g,2,none⟩) (by first|(rw[add_block];exact hn168_0)|(show(Addr.add _ _).block≠_;rw[add_block];exact hn168_0)|exact hn168_0) (.int .i64 (wrap64 ((wrap64 (Ad*6364136223846793005))+1442695040888963407)))).trans Aa
 (try have hy168_0:=fun (n_:Nat)=>(show(((w.drewN n_).setCell ⟨g,2,none⟩ (.int .i64 (wrap64 ((wrap64 (Ad*6364136223846793005))+1442695040888963407))))).cell? _=some _ from Aa))
 clear hn168_0
 replace Ae:=ets Ae
 replace Af:=ets Af
 go_enter Try.func74,Try.ntmps74
 go_wp2
 repeat(go_quiet (fail);try go_wp2)
 go_ret
 exact⟨rq1,kI HI0.out,kG HB.out (IsS76.ge HI0.out),kK HK.out⟩
def fO.f (s0_0:List Int) (s0_1:Int) (s0_2:Int) (a1:Int):Option (Int × Int × Int):=if a1≤0 then(some (0,s0_1,s0_2)) else(if a1≤256 then((jF.f s0_0 s0_1 s0_2).bind fun bt169=>(if a1=0 then(none) else(some (Int.tmod bt169.1 a1,bt169.2.1,bt169.2.2)))) else((jF.f s0_0 s0_1 s0_2).bind fun bt172=>((jF.f s0_0 bt172.2.1 bt172.2.2).bind fun bt175=>((jF.f s0_0 bt175.2.1 bt175.2.2).bind fun bt178=>((jF.f s0_0 bt178.2.1 bt178.2.2).bind fun bt181=>(if a1=0 then(none) else(some (Int.tmod (wrap64 ((wrap64 ((wrap64 ((wrap64 (bt172.1*16777216))+(wrap64 (bt175.1*65536))))+(wrap64 (bt178.1*256))))+bt181.1)) a1,bt181.2.1,bt181.2.2))))))))
theorem fO.calls (g:Nat) (Ac:List Int) (Ad:Int) (Ae:Int) (a1:Int) (r1:Int) (r2:Int) (r3:Int) (w0 w:World) (hI:IsS76 w0 w g Ac Ad Ae) (hB:Below w0.heap.size w0 w) (h:fO.f Ac Ad Ae a1=some (r1,r2,r3)):
  Calls Try.prog 62 #[.pointer (some ⟨g,0,none⟩), .int .i64 a1] w fun e w'=>e= .returned (.int .i64 r1)∧IsS76 w0 w' g Ac r2 r3∧Below w0.heap.size w0 w'∧KeepBut w w' g none:=by
 have HI0:=Az.mk hI
 have HK:=Az.mk (KeepBut.refl w g none)
 have HL:=Az.mk hB.size
 clear hI
 have HW0:=Az.mk hB.size
 have HB:=Az.mk hB
 clear hB
 have H:=h
 unfold fO.f at H
 clear h
 by_cases c3:a1≤0
 ·rw[ip c3]at H
  have Am:=ode c3
  clear c3
  simp only[Option.some.injEq,Prod.mk.injEq]at H
  obtain⟨rfl,rfl,rfl⟩:=H
  go_enter Try.func62,Try.ntmps62
  go_wp2
  go_ret
  exact⟨rq1,kI HI0.out,kG HB.out (IsS76.ge HI0.out),kK HK.out⟩
 rw[ig c3]at H
 have Am:=decide_eq_false c3
 clear c3
 by_cases c4:a1≤256
 ·rw[ip c4]at H
  have Ap:=ode c4
  clear c4
  replace H:=bez H
  obtain⟨⟨Aq,As,Au⟩,A5,H⟩:=H
  try dsimp only at H
  by_cases c6:a1=0
  ·rw[ip c6]at H
   exact absurd H (by simp)
  rw[ig c6]at H
  have Bh:=beq_eq_false_iff_ne.mpr c6
  have Bi:=bne_iff_ne.mpr c6
  simp only[Option.some.injEq,Prod.mk.injEq]at H
  obtain⟨rfl,rfl,rfl⟩:=H
  go_enter Try.func62,Try.ntmps62
  go_wp2_with (first|((with_reducible refine gtC (f:=74) rfl ?_);refine clz Try.func74 (some 14) #[.pointer (some ⟨g,0,none⟩)] ?_;(with_reducible refine(jF.calls g Ac Ad Ae Aq As Au w0 _ ?Aa ?Ab A5.out).mono ?_);(case Aa=>exact(kI HI0.out));(case Ab=>exact kG HB.out (IsS76.ge HI0.out));rintro e w7 ⟨rfl,hi,hb,hk⟩;refine⟨_,rfl,?_⟩;replace HK:=Az.mk (KeepBut.trans (kK HK.out) hk (.inl rfl));replace HB:=Az.mk (hb);replace HI0:=Az.mk (hi);(try clear hb);(try clear hk);(try clear hi)))
  go_ret
  exact⟨rq1,kI HI0.out,kG HB.out (IsS76.ge HI0.out),kK HK.out⟩
 rw[ig c4]at H
 have Ap:=decide_eq_false c4
 clear c4
 replace H:=bez H
 obtain⟨⟨Av,Af,Ag⟩,A8,H⟩:=H
 try dsimp only at H
 replace H:=bez H
 obtain⟨⟨Ax,Ah,Ai⟩,A9,H⟩:=H
 try dsimp only at H
 replace H:=bez H
 obtain⟨⟨Ay,Aj,Ak⟩,Bj,H⟩:=H
 try dsimp only at H
 replace H:=bez H
 obtain⟨⟨Ba,Bb,Bc⟩,Bk,H⟩:=H
 try dsimp only at H
 by_cases Al:a1=0
 ·rw[ip Al]at H
  exact absurd H (by simp)
 rw[ig Al]at H
 have Bd:=beq_eq_false_iff_ne.mpr Al
 have Bf:=bne_iff_ne.mpr Al
 simp only[Option.some.injEq,Prod.mk.injEq]at H
 obtain⟨rfl,rfl,rfl⟩:=H
 go_enter Try.func62,Try.ntmps62
 go_wp2_with (first|((with_reducible refine gtC (f:=74) rfl ?_);refine clz Try.func74 (some 18) #[.pointer (some ⟨g,0,none⟩)] ?_;(with_reducible refine(jF.calls g Ac Ad Ae Av Af Ag w0 _ ?Aa ?Ab A8.out).mono ?_);(case Aa=>exact(kI HI0.out));(case Ab=>exact kG HB.out (IsS76.ge HI0.out));rintro e Bl ⟨rfl,hi,hb,hk⟩;refine⟨_,rfl,?_⟩;replace HK:=Az.mk (KeepBut.trans (kK HK.out) hk (.inl rfl));replace HB:=Az.mk (hb);replace HI0:=Az.mk (hi);(try clear hb);(try clear hk);(try clear hi))|((with_reducible refine gtC (f:=74) rfl ?_);refine clz Try.func74 (some 20) #[.pointer (some ⟨g,0,none⟩)] ?_;(with_reducible refine(jF.calls g Ac Af Ag Ax Ah Ai w0 _ ?Aa ?Ab A9.out).mono ?_);(case Aa=>exact(kI HI0.out));(case Ab=>exact kG HB.out (IsS76.ge HI0.out));rintro e Bm ⟨rfl,hi,hb,hk⟩;refine⟨_,rfl,?_⟩;replace HK:=Az.mk (KeepBut.trans (kK HK.out) hk (.inl rfl));replace HB:=Az.mk (hb);replace HI0:=Az.mk (hi);(try clear hb);(try clear hk);(try clear hi))|((with_reducible refine gtC (f:=74) rfl ?_);refine clz Try.func74 (some 22) #[.pointer (some ⟨g,0,none⟩)] ?_;(with_reducible refine(jF.calls g Ac Ah Ai Ay Aj Ak w0 _ ?Aa ?Ab Bj.out).mono ?_);(case Aa=>exact(kI HI0.out));(case Ab=>exact kG HB.out (IsS76.ge HI0.out));rintro e Bn ⟨rfl,hi,hb,hk⟩;refine⟨_,rfl,?_⟩;replace HK:=Az.mk (KeepBut.trans (kK HK.out) hk (.inl rfl));replace HB:=Az.mk (hb);replace HI0:=Az.mk (hi);(try clear hb);(try clear hk);(try clear hi))|((with_reducible refine gtC (f:=74) rfl ?_);refine clz Try.func74 (some 24) #[.pointer (some ⟨g,0,none⟩)] ?_;(with_reducible refine(jF.calls g Ac Aj Ak Ba Bb Bc w0 _ ?Aa ?Ab Bk.out).mono ?_);(case Aa=>exact(kI HI0.out));(case Ab=>exact kG HB.out (IsS76.ge HI0.out));rintro e Bo ⟨rfl,hi,hb,hk⟩;refine⟨_,rfl,?_⟩;replace HK:=Az.mk (KeepBut.trans (kK HK.out) hk (.inl rfl));replace HB:=Az.mk (hb);replace HI0:=Az.mk (hi);(try clear hb);(try clear hk);(try clear hi)))
 go_ret
 exact⟨rq1,kI HI0.out,kG HB.out (IsS76.ge HI0.out),kK HK.out⟩
theorem bw_8 {n:Nat}{v v':World} (h:Below n v v':=by repeat(first|(with_reducible first|exact HB.out|apply bwA|apply pbN|apply bwD)|exact HB.out)):Below n v v':=h
def gH.l0:Nat→ByteArray→Int→List ByteArray→Int→Int→Option (List ByteArray)
 |0,_,_,_,_,_=>none
 |k+1,x0,x1,x5,x6,x7=>if x7≤(x0.size:Int) then(if x7=(x0.size:Int) then(if 0≤x6 then(if x6≤x7 then(if x5.length<8796093022208 then(gH.l0 k x0 x1 (x5 ++ [x0.extract (x6:Int).toNat (x7:Int).toNat]) (wrap64 (x7+1)) (wrap64 (x7+1))) else(none)) else(none)) else(none)) else(if 0≤x7 then(if x7<(x0.size:Int) then(if(bt x0 x7)=x1 then(if 0≤x6 then(if x6≤x7 then(if x5.length<8796093022208 then(gH.l0 k x0 x1 (x5 ++ [x0.extract (x6:Int).toNat (x7:Int).toNat]) (wrap64 (x7+1)) (wrap64 (x7+1))) else(none)) else(none)) else(none)) else(gH.l0 k x0 x1 x5 x6 (wrap64 (x7+1)))) else(none)) else(none))) else(some x5)
def gH.f (k:Nat) (a0:ByteArray) (a1:Int):Option (List ByteArray):=gH.l0 k a0 a1 (([]:List ByteArray)) 0 0
theorem gH.calls (k:Nat) (a0:ByteArray) (a1:Int) (r:List ByteArray) (w:World) (h:gH.f k a0 a1=some r):
  Calls Try.prog 78 #[.string a0, .int .u8 a1] w fun e w'=>∃v0_:Value,e= .returned (v0_)∧Kd.R Kd.string 9 w' w.heap.size (fun _=>True) v0_ r∧Below w.heap.size w w':=by
 have HB:=Az.mk (Below.refl w.heap.size w)
 have H:=h
 unfold gH.f at H
 clear h
 obtain⟨Ag,hy⟩:∃y_:List ByteArray,y_=(([]:List ByteArray)):=⟨_,rfl⟩
 replace H:(gH.l0 k a0 a1 Ag 0 0)=some r:=rh
 have Ae:=Az.mk hy
 clear hy
 have H':=Az.mk H
 clear H
 go_enter Try.func78,Try.ntmps78
 go_wp2_with (first|((with_reducible refine gtD (N:=8) rfl ?_);refine Kd.R_lit Kd.string _ 9 ?hg (N:=8) ?hd (xs:=([]:List ByteArray)) (inner:=[]) (ok:=fun _=>True) (okp:=fun _=>True) ?hr ?hp (fun _ hk=>hk) trivial (Below.refl _ _) (Nat.le_refl _) (by simp) ?_;(case hd=>rfl);(case hg=>rfl);(case hr=>first|(go_simp;done)|(go_simp;rfl));(case hp=>exact(Reps.none _ _));intro Bs w3 Ah hb hg_ hnew_;clear hg_ hnew_;(first|rw[←Ae.out]at Ah|(simp only[Int.reduceToNat]at Ah;rw[←Ae.out]at Ah));have Ai:=Az.mk (Kd.R_lower Ah (bwZ bw_8));replace HB:=Az.mk (bwT bw_8 hb);clear hb Ah))
 go_loopg [5,6,7] k (fun kq v5 v6 v7 w'=>∃(Ac:List ByteArray) (Ab:Int) (Aa:Int),v6= .int .i64 Ab∧v7= .int .i64 Aa∧Az (gH.l0 kq a0 a1 Ac Ab Aa=some r)∧Az (kq≤k)∧Az (Kd.R Kd.string 9 w' w.heap.size (fun _=>True) v5 Ac)∧Az (Below w.heap.size w w'))
 case atStart=>exact⟨(Ag),(0),(0),rq2,rq2,H',⟨Nat.le_refl _⟩,⟨kR Ai.out⟩,⟨bw_8⟩⟩
 clear H'
 obtain⟨Ac,Ab,Aa,rfl,rfl,HA,HK1,Ad,HB⟩:=hrel
 cases gk with
 |zero=>exact absurd HA.out (by simp[gH.l0])
 |succ k1=>
  have H:=HA.out
  clear HA
  simp only[gH.l0]at H
  by_cases c5:Aa≤(a0.size:Int)
  rotate_left
  ·rw[ig c5]at H
   have Bh:=decide_eq_false c5
   clear c5
   obtain rfl:=Option.some.inj H
   go_wp2
   go_ret
   exact⟨_,rq1,kR Ad.out,bw_8⟩
  rw[ip c5]at H
  have Bh:=ode c5
  clear c5
  by_cases c6:Aa=(a0.size:Int)
  ·rw[ip c6]at H
   have Bi:=beq_iff_eq.mpr c6
   have Bj:=bne_eq_false_iff_eq.mpr c6
   clear c6
   by_cases c7:0≤Ab
   rotate_left
   ·rw[ig c7]at H
    exact absurd H (by simp)
   rw[ip c7]at H
   have Bt:=ets c7
   have Bu:=ode c7
   clear c7
   by_cases c8:Ab≤Aa
   rotate_left
   ·rw[ig c8]at H
    exact absurd H (by simp)
   rw[ip c8]at H
   have Bv:=ets c8
   have Bw:=ode c8
   clear c8
   have Bx:=ets (od:Aa≤(a0.size:Int))
   by_cases Bb:Ac.length<8796093022208
   rotate_left
   ·rw[ig Bb]at H
    exact absurd H (by simp)
   rw[ip Bb]at H
   have LMc10:=Az.mk Bb
   clear Bb
   obtain⟨Aj,hy⟩:∃y_:List ByteArray,y_=(Ac ++ [a0.extract (Ab:Int).toNat (Aa:Int).toNat]):=⟨_,rfl⟩
   replace H:(gH.l0 k1 a0 a1 Aj (wrap64 (Aa+1)) (wrap64 (Aa+1)))=some r:=rh
   have Ak:=Az.mk hy
   clear hy
   have H':=Az.mk H
   clear H
   go_wp2_with (first|((with_reducible refine gate_builtin (b:= .append) (xs:= #[.tmp 26, .tmp 31]) rfl ?_);at_builtin;refine Kd.R_append Kd.string (w0:=w) w.heap.size rfl (.tmp 26) (.tmp 31) 84 9 (.string ⟨#[]⟩) 16 rfl Try.underlying84 info9 rfl (by decide) (by omega) u5 Ac (a0.extract (Ab:Int).toNat (Aa:Int).toNat) [.string (a0.extract (Ab:Int).toNat (Aa:Int).toNat)] (fun _=>True) (fun _=>False) rfl rfl ?aP (fun _ hk=>hk.elim) ?aF ?aO ?aB ?aS ?aL ?_;(case aP=>exact rfl);(case aB=>exact bw_8);(case aF=>exact(fun _ _=>trivial));(case aO=>exact(kR Ad.out));(case aS=>exact(bwZ bw_8));(case aL=>have:=LMc10.out;omega);intro By Ca ho hb hg hat;rw[←Ak.out]at ho;have n0_:=Az.mk (hb);have n1_:=Az.mk (ho);clear HB;clear Ad;have HB:=n0_;have Al:=n1_;clear n0_ n1_;clear ho hb hg hat))
   go_roundg k1
   case measure=>have:=HK1.out;omega
   case rel=>exact⟨(Aj),(wrap64 (Aa+1)),(wrap64 (Aa+1)),rq2,rq2,H',⟨by have:=HK1.out;omega⟩,⟨kR Al.out⟩,⟨bw_8⟩⟩
  rw[ig c6]at H
  have Bi:=beq_eq_false_iff_ne.mpr c6
  have Bj:=bne_iff_ne.mpr c6
  by_cases Bc:0≤Aa
  rotate_left
  ·rw[ig Bc]at H
   exact absurd H (by simp)
  rw[ip Bc]at H
  have Bl:=ode Bc
  clear Bc
  by_cases Bd:Aa<(a0.size:Int)
  rotate_left
  ·rw[ig Bd]at H
   exact absurd H (by simp)
  rw[ip Bd]at H
  have Bm:=ode Bd
  clear Bd
  by_cases Af:(bt a0 Aa)=a1
  rotate_left
  ·rw[ig Af]at H
   have Am:=beq_eq_false_iff_ne.mpr Af
   have Ap:=bne_iff_ne.mpr Af
   have H':=Az.mk H
   clear H
   have Aq:0≤(Aa:Int):=od
   have As:Aa<(a0.size:Int):=od
   have Bk:=bt_at a0 Aa
   replace Aq:=ets Aq
   replace As:=ets As
   go_wp2
   go_roundg k1
   case measure=>have:=HK1.out;omega
   case rel=>exact⟨(Ac),(Ab),(wrap64 (Aa+1)),rq2,rq2,H',⟨by have:=HK1.out;omega⟩,⟨kR Ad.out⟩,⟨bw_8⟩⟩
  rw[ip Af]at H
  have Am:=beq_iff_eq.mpr Af
  have Ap:=bne_eq_false_iff_eq.mpr Af
  clear Af
  by_cases Au:0≤Ab
  rotate_left
  ·rw[ig Au]at H
   exact absurd H (by simp)
  rw[ip Au]at H
  have Bn:=ets Au
  have Bo:=ode Au
  clear Au
  by_cases Av:Ab≤Aa
  rotate_left
  ·rw[ig Av]at H
   exact absurd H (by simp)
  rw[ip Av]at H
  have Bp:=ets Av
  have Bq:=ode Av
  clear Av
  have Br:=ets (od:Aa≤(a0.size:Int))
  by_cases Bf:Ac.length<8796093022208
  rotate_left
  ·rw[ig Bf]at H
   exact absurd H (by simp)
  rw[ip Bf]at H
  have LMc19:=Az.mk Bf
  clear Bf
  obtain⟨Ax,hy⟩:∃y_:List ByteArray,y_=(Ac ++ [a0.extract (Ab:Int).toNat (Aa:Int).toNat]):=⟨_,rfl⟩
  replace H:(gH.l0 k1 a0 a1 Ax (wrap64 (Aa+1)) (wrap64 (Aa+1)))=some r:=rh
  have Ay:=Az.mk hy
  clear hy
  have H':=Az.mk H
  clear H
  have Aq:0≤(Aa:Int):=od
  have As:Aa<(a0.size:Int):=od
  have Bk:=bt_at a0 Aa
  replace Aq:=ets Aq
  replace As:=ets As
  go_wp2_with (first|((with_reducible refine gate_builtin (b:= .append) (xs:= #[.tmp 26, .tmp 31]) rfl ?_);at_builtin;refine Kd.R_append Kd.string (w0:=w) w.heap.size rfl (.tmp 26) (.tmp 31) 84 9 (.string ⟨#[]⟩) 16 rfl Try.underlying84 info9 rfl (by decide) (by omega) u5 Ac (a0.extract (Ab:Int).toNat (Aa:Int).toNat) [.string (a0.extract (Ab:Int).toNat (Aa:Int).toNat)] (fun _=>True) (fun _=>False) rfl rfl ?aP (fun _ hk=>hk.elim) ?aF ?aO ?aB ?aS ?aL ?_;(case aP=>exact rfl);(case aB=>exact bw_8);(case aF=>exact(fun _ _=>trivial));(case aO=>exact(kR Ad.out));(case aS=>exact(bwZ bw_8));(case aL=>have:=LMc19.out;omega);intro Bz Cb ho hb hg hat;rw[←Ay.out]at ho;have n0_:=Az.mk (hb);have n1_:=Az.mk (ho);clear HB;clear Ad;have HB:=n0_;have Ba:=n1_;clear n0_ n1_;clear ho hb hg hat))
  go_roundg k1
  case measure=>have:=HK1.out;omega
  case rel=>exact⟨(Ax),(wrap64 (Aa+1)),(wrap64 (Aa+1)),rq2,rq2,H',⟨by have:=HK1.out;omega⟩,⟨kR Ba.out⟩,⟨bw_8⟩⟩
end Go.Proofs.Ytemeiocmgbgikaa.P

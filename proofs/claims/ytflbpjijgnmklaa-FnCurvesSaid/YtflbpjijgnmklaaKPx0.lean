-- The walks, cut and laid together by this session's tools (prune.py, sq2.py, min.py: shorter names, no needless spaces). Not trusted: Lean checks it.
import Derived.Test.YtflbpjijgnmklaaKWZip
import Derived.Test.YtflbpjijgnmklaaProg
import Derived.Below
import Derived.Deep.Draws
import Derived.Deep.AppendLies
import Derived.Maps.AppendAt
import Derived.OwnWalk
import Derived.Laws.BytesArg
import Derived.Laws.MakeOwn
import Derived.Laws.OwnMore
import Derived.Deep.OwnRows
import Derived.Tactics
import Derived.Lib.ConvBytes
import Derived.Laws.Slices
import Derived.WalkKit
import Derived.KernelRfl
import Derived.RowKit3
import Derived.Deep.LoopGhost
import Derived.Deep.QuietTactic
import Derived.BigQuiet
import Derived.WideLaws
import Derived.Deep.DeepCutAuto
import Derived.Deep.CutBlock
import Derived.Deep.RegionHeld3
import Derived.Laws.Rows
import Derived.Lib.AppendStr
import Derived.ArgAppend
import Derived.Laws.IdiomCopy
import Derived.OrdersHeld
import Derived.Laws.BitsLemmas
import Derived.RowKit
import Derived.Maps.OwnOps
import Derived.Maps.Views
import Derived.Shelf.Strings.OnBuilder
import Derived.Laws.CopyOwn
import Derived.Maps.OwnSet
import Derived.DeepKeys4
import Derived.MapViews
import Derived.Test.YtflbpjijgnmklaaKWWords
import Derived.Test.YtflbpjijgnmklaaKWLast
import Derived.Test.YtflbpjijgnmklaaKWTab
import Derived.Test.YtflbpjijgnmklaaKWFour
import Derived.Test.YtflbpjijgnmklaaKWQPut
import Derived.Test.YtflbpjijgnmklaaKWApart
import Derived.Test.YtflbpjijgnmklaaKWArr
import Derived.Test.YtflbpjijgnmklaaKWZeros
import Derived.Test.YtflbpjijgnmklaaKWFoot
import Derived.Test.YtflbpjijgnmklaaKWKept
import Derived.Test.YtflbpjijgnmklaaKWShare
import Derived.Test.YtflbpjijgnmklaaKWN
import Derived.Test.YtflbpjijgnmklaaKWFootNe
import Derived.Test.YtflbpjijgnmklaaKWAt
import Derived.Test.YtflbpjijgnmklaaKWEqStruct
import Derived.Test.YtflbpjijgnmklaaKWRepsOne
import Derived.Test.YtflbpjijgnmklaaKWInv
import Derived.Test.YtflbpjijgnmklaaKWInvWords
import Derived.Test.YtflbpjijgnmklaaKWGuard
import Derived.Test.YtflbpjijgnmklaaKWNEv
import Derived.Test.YtflbpjijgnmklaaKWMore
namespace Go.Proofs.Ytflbpjijgnmklaa.P
open Go.RowKit Go.Proofs.YtflbpjijgnmklaaW.PrintWords Go.Proofs.YtflbpjijgnmklaaW.PrintLast Go.Proofs.YtflbpjijgnmklaaW.PrintMore
attribute [local go_sem] max2_int min2_int max_two min_two max_three min_three max_four min_four   -- for this text's walks alone
set_option linter.unusedVariables false
set_option linter.unusedSimpArgs false
set_option maxHeartbeats 8000000
set_option maxRecDepth 100000
open Option renaming bind_eq_some_iff → be
def errW:Option Int→Value
 |none=> .nilIface
 |some c=> .iface 0 (.int .i64 c)
theorem eWn:errW none= .nilIface:=rfl
theorem eWs (c:Int):errW (some c)= .iface 0 (.int .i64 c):=rfl
theorem info3:(Try.prog.info? 3).map (fun i=>(i.zero,i.size,i.bytes))=some (some (.int .i64 0),1,8):=by kernel_rfl
theorem info4:(Try.prog.info? 4).map (fun i=>(i.zero,i.size,i.bytes))=some (some (.bool false),1,1):=by kernel_rfl
theorem info5:(Try.prog.info? 5).map (fun i=>(i.zero,i.size,i.bytes))=some (some (.int .u8 0),1,1):=by kernel_rfl
theorem info9:(Try.prog.info? 9).map (fun i=>(i.zero,i.size,i.bytes))=some (some (.string ⟨#[]⟩),1,16):=by kernel_rfl
theorem info25:(Try.prog.info? 25).map (fun i=>(i.zero,i.size,i.bytes))=some (some (.slice none 0 0),1,24):=by kernel_rfl
-- the values' own types
def rd_L1 (xs:List (List Int)) (i:Int):(List Int):=xs.getD i.toNat ([]:List Int)
theorem at_L1 {w:World}{A:Option Addr}{n:Nat}{xs:List (List Int)} (h:Kd.C (Kd.slice 3 (Kd.int .i64)) w A n xs) (i:Int) (h0:0≤i) (h1:i<n):∃ad A0 c0,A=some ad∧w.cell? (ad.add i.toNat)=some (.slice A0 (rd_L1 xs i).length c0)∧(rd_L1 xs i).length≤c0∧(Kd.int .i64).C w A0 (rd_L1 xs i).length (rd_L1 xs i):=by
 obtain⟨ad,c,e,_,hK,Aa⟩:=Kd.C_get h ([]:List Int) i h0 h1
 have hc:∀j u,c[j]?= some u→w.cell? (ad.add (i.toNat*1+j))=some u:=Aa
 obtain⟨A0,c0,rfl,l0,g0⟩:=hK
 exact⟨ad,A0,c0,e,by have hq:=hc 0 _ rfl;rwa [Nat.mul_one,Nat.add_zero]at hq,l0,g0⟩
/-! #### struct type 42 -/
structure S42 where
 f0:Int
 f1:Int
 f2:Int
theorem eqA42 (d:Nat) (w:World) (x0 y0:Int) (x1 y1:Int) (x2 y2:Int):
  (Op.equalIn (d+2) 42 (.agg #[.int .i64 x0, .int .i64 x1, .int .i64 x2]) (.agg #[.int .i64 y0, .int .i64 y1, .int .i64 y2])).run Try.prog w= .ok (x0== y0 && (x1== y1 && (x2== y2))) w:=by
 refine eqA_of Try.underlying42 (by kernel_rfl) ?_
 refine eqf_cons (by rfl) (by go_simp;rfl) (by go_simp;rfl) (by go_simp) ?_
 refine eqf_cons (by rfl) (by go_simp;rfl) (by go_simp;rfl) (by go_simp) ?_
 exact eqf_last (by rfl) (by go_simp;rfl) (by go_simp;rfl) (by go_simp)
def jY.f (l0:List Int):Option (Bool):=some (decide ((l0.length:Int)>1048576))
theorem jY.calls (A0:Option Addr) (c0:Nat) (l0:List Int) (r:Bool) (w:World) (Aa:Kd.C (Kd.int .u8) w A0 l0.length l0) (Ab:l0.length≤c0) (h:jY.f l0=some r):
  Calls Try.prog 4 #[.slice A0 l0.length c0] w fun e w'=>e= .returned (.bool r)∧Drawn0 w w':=by
 have Ac:=Az.mk Aa
 have Ad:=Az.mk Ab
 clear Aa Ab
 have H:(some (decide ((l0.length:Int)>1048576)))=some r:=h
 clear h
 obtain rfl:=Option.some.inj H
 go_enter Try.func4,Try.ntmps4
 go_wp2
 go_ret
 exact⟨rq2,kd⟩
def fW.f (a0:Int) (a1:Int) (a2:Int):Option (Bool):=if a0 ≥ a1 then(some (decide (a0≤a2))) else(some false)
theorem fW.calls (a0:Int) (a1:Int) (a2:Int) (r:Bool) (w:World) (h:fW.f a0 a1 a2=some r):
  Calls Try.prog 49 #[.int .i64 a0, .int .i64 a1, .int .i64 a2] w fun e w'=>e= .returned (.bool r)∧Drawn0 w w':=by
 have H:(if a0 ≥ a1 then(some (decide (a0≤a2))) else(some false))=some r:=h
 clear h
 by_cases c4:a0 ≥ a1
 ·rw[ip c4]at H
  have Aa:decide (a1≤a0)=true:=ode c4
  clear c4
  obtain rfl:=Option.some.inj H
  go_enter Try.func49,Try.ntmps49
  go_wp2
  go_ret
  exact⟨rq2,kd⟩
 rw[ig c4]at H
 have Aa:decide (a1≤a0)=false:=decide_eq_false c4
 clear c4
 obtain rfl:=Option.some.inj H
 go_enter Try.func49,Try.ntmps49
 go_wp2
 go_ret
 exact⟨rq2,kd⟩
section
open Bool renaming true → T, false → F
theorem z3_0 {p:Prop} (h:p:=by kernel_rfl):p:=h
theorem bw_3 {n:Nat}{v v':World} (h:Below n v v':=by repeat(first|(with_reducible first|exact HB.out|apply bwA|apply pbN|apply bwD)|exact HB.out)):Below n v v':=h
theorem ln_3 {P:Prop} (h:P:=by(try simp only[List.map_toArray,List.map_cons,List.map_nil]);first|done|rfl|(simp only[List.length_drop,List.length_take];rfl)):P:=h
def fG.l0:Nat→List Int→List Int→List Int→Int→Option (List Int × Bool)
 |0,_,_,_,_=>none
 |k+1,x0,x1,x6,x7=>if x7<(x0.length:Int) then(if 0≤x7 then((fW.f (rd x0 x7) 0 200).bind fun t108=>(if t108=true then(if x7<(x1.length:Int) then((fW.f (rd x1 x7) 0 200).bind fun t110=>(if t110=true then(if(wrap64 ((rd x0 x7)+(rd x1 x7)))>200 then(some ((([]:List Int)),false)) else(if x6.length<17592186044416 then(fG.l0 k x0 x1 (x6 ++ [wrap64 ((rd x0 x7)+(rd x1 x7))]) (wrap64 (x7+1))) else(none))) else(some ((([]:List Int)),false)))) else(none)) else(some ((([]:List Int)),false)))) else(none)) else(some (x6,true))
def fG.f (k:Nat) (l0:List Int) (l1:List Int):Option (List Int × Bool):=if(l0.length:Int)=(l1.length:Int) then(fG.l0 k l0 l1 (([]:List Int)) 0) else(some ((([]:List Int)),false))
def fG.T7:Bool × List (List Nat × List Nat):=(true,[([],[]),([],[]),([0,1],[0,1]),([2],[2]),([3],[3]),([4],[4]),([5,4],[5]),([6],[6]),([6],[6]),([7,8,6],[6,7,8]),([9,6],[6,9]),([10,6,6],[6,10]),([11,6],[6,11]),([6,12],[6,12]),([13,11],[13]),([14],[14]),([14],[14]),([15,16,14],[14,15,16]),([17,14],[14,17]),([14],[14]),([14],[14]),([19,20,14],[14,19,20]),([21,14],[14,21]),([18,22,14],[14,18,22]),([23,14],[14,23]),([14,24],[14,24])])
def fG.B7:List Nat:=[0,0,3,7,15,31,63,127,127,511,1023,2047,4095,8191,16383,32767,32767,131071,262143,32767,32767,1605631,3702783,8388607,16777215,33554431]
theorem fG.tab7:rtab .any (opsOf Try.f16 7)=fG.T7:=by kernel_rfl
theorem fG.bits7:waitsOk fG.T7.2 fG.B7=true:=by kernel_rfl
def fG.T9:Bool × List (List Nat × List Nat):=(true,[([],[]),([],[]),([],[]),([1,2],[1,2]),([3],[3]),([],[]),([],[]),([5,6],[5,6]),([7],[7]),([4,8],[4,8]),([9],[9]),([0,10],[0,10]),([11,11,0,1,2,3,4,5,6,7,8,9,10,11],[0,11])])
def fG.B9:List Nat:=[0,0,0,6,14,0,0,96,224,510,1022,2047,4095]
theorem fG.tab9:rtab .any (opsOf Try.f16 9)=fG.T9:=by kernel_rfl
theorem fG.bits9:waitsOk fG.T9.2 fG.B9=true:=by kernel_rfl
theorem fG.calls (k:Nat) (A0:Option Addr) (c0:Nat) (l0:List Int) (A1:Option Addr) (c1:Nat) (l1:List Int) (r1:List Int) (r2:Bool) (w:World) (Dj:Kd.C (Kd.int .i64) w A0 l0.length l0) (Dk:l0.length≤c0) (Dl:Kd.C (Kd.int .i64) w A1 l1.length l1) (Dm:l1.length≤c1) (h:fG.f k l0 l1=some (r1,r2)):
  Calls Try.prog 16 #[.slice A0 l0.length c0, .slice A1 l1.length c1] w fun e w'=>∃v0_:Value,e= .returned (.tuple #[v0_, .bool r2])∧Kd.R (Kd.int .i64) 3 w' w.heap.size (fun _=>True) v0_ r1∧Below w.heap.size w w':=by
 have Bs:=Az.mk Dj
 have Dv:=Az.mk Dk
 clear Dj Dk
 have HR1:=Az.mk Dl
 have Dw:=Az.mk Dm
 clear Dl Dm
 have HB:=Az.mk (Below.refl w.heap.size w)
 have H:(if(l0.length:Int)=(l1.length:Int) then(fG.l0 k l0 l1 (([]:List Int)) 0) else(some ((([]:List Int)),false)))=some (r1,r2):=h
 clear h
 by_cases c3:(l0.length:Int)=(l1.length:Int)
 rotate_left
 ·rw[ig c3]at H
  have Cc:=beq_eq_false_iff_ne.mpr c3
  have Cd:=bne_iff_ne.mpr c3
  have Ce:(l0.length== l1.length)=false:=by first|simpa using c3|(simp at c3 ⊢;omega)
  obtain⟨Cw,hy⟩:∃y_:List Int,y_=(([]:List Int)):=⟨_,rfl⟩
  replace H:(some (Cw,false))=some (r1,r2):=rh
  have Bn:=Az.mk hy
  clear hy
  simp only[Option.some.injEq,Prod.mk.injEq]at H
  obtain⟨rfl,rfl⟩:=H
  go_enter Try.func16,Try.ntmps16
  go_wp2_with (first|((with_reducible refine gtD (N:=13) rfl ?_);refine Kd.R_lit (Kd.int .i64) _ 3 ?hg (N:=13) ?hd (xs:=([]:List Int)) (inner:=[]) (ok:=fun _=>True) (okp:=fun _=>True) ?hr ?hp (fun _ hk=>hk) trivial (Below.refl _ _) (Nat.le_refl _) (by simp) ?_;(case hd=>rfl);(case hg=>rfl);(case hr=>first|(go_simp;done)|(go_simp;rfl));(case hp=>exact(Reps.none _ _));intro Do Dx Bj hb hg_ hnew_;clear hg_ hnew_;(first|rw[←Bn.out]at Bj|(simp only[Int.reduceToNat]at Bj;rw[←Bn.out]at Bj));have Cf:=Az.mk (Kd.R_lower Bj (bwZ bw_3));replace HB:=Az.mk (bwT bw_3 hb);clear hb Bj))
  go_ret2
  exact⟨_,rq1,kR Cf.out,bw_3⟩
 rw[ip c3]at H
 have Cc:=beq_iff_eq.mpr c3
 have Cd:=bne_eq_false_iff_eq.mpr c3
 have Ce:(l0.length== l1.length)=true:=by first|simpa using c3|(simp at c3 ⊢;omega)
 clear c3
 obtain⟨Cg,hy⟩:∃y_:List Int,y_=(([]:List Int)):=⟨_,rfl⟩
 replace H:(fG.l0 k l0 l1 Cg 0)=some (r1,r2):=rh
 have Bo:=Az.mk hy
 clear hy
 have H':=Az.mk H
 clear H
 go_enter Try.func16,Try.ntmps16
 go_wp2_with (first|((with_reducible refine gtD (N:=14) rfl ?_);refine Kd.R_lit (Kd.int .i64) _ 3 ?hg (N:=14) ?hd (xs:=([]:List Int)) (inner:=[]) (ok:=fun _=>True) (okp:=fun _=>True) ?hr ?hp (fun _ hk=>hk) trivial (Below.refl _ _) (Nat.le_refl _) (by simp) ?_;(case hd=>rfl);(case hg=>rfl);(case hr=>first|(go_simp;done)|(go_simp;rfl));(case hp=>exact(Reps.none _ _));intro Dp w4 Ch hb hg_ hnew_;clear hg_ hnew_;(first|rw[←Bo.out]at Ch|(simp only[Int.reduceToNat]at Ch;rw[←Bo.out]at Ch));have Ci:=Az.mk (Kd.R_lower Ch (bwZ bw_3));replace HB:=Az.mk (bwT bw_3 hb);clear hb Ch))
 go_loopg [6,7] k (fun kq v6 v7 w'=>∃(Ax:List Int) (Aa:Int),v7= .int .i64 Aa∧Az (fG.l0 kq l0 l1 Ax Aa=some (r1,r2))∧Az (kq≤k)∧Az (Kd.R (Kd.int .i64) 3 w' w.heap.size (fun _=>True) v6 Ax)∧Az (Below w.heap.size w w'))
 case atStart=>exact⟨(Cg),(0),rq2,H',⟨Nat.le_refl _⟩,⟨kR Ci.out⟩,⟨bw_3⟩⟩
 clear H'
 try clear c1
 try clear c3
 try clear Cc
 try clear Cd
 try clear Ce
 obtain⟨Ax,Aa,rfl,HA,HK1,Ae,HB⟩:=hrel
 cases gk with
 |zero=>exact absurd HA.out (by simp[fG.l0])
 |succ k1=>
  have H:=HA.out
  clear HA
  simp only[fG.l0]at H
  by_cases c6:Aa<(l0.length:Int)
  rotate_left
  ·rw[ig c6]at H
   have Da:=decide_eq_false c6
   clear c6
   simp only[Option.some.injEq,Prod.mk.injEq]at H
   obtain⟨rfl,rfl⟩:=H
   go_wp2
   go_ret2
   exact⟨_,rq1,kR Ae.out,bw_3⟩
  rw[ip c6]at H
  have Da:=ode c6
  clear c6
  by_cases c7:0≤Aa
  rotate_left
  ·rw[ig c7]at H
   exact absurd H (by simp)
  rw[ip c7]at H
  have Dq:=ode c7
  clear c7
  replace H:=bez H
  obtain⟨Db,A8,H⟩:=H
  try dsimp only at H
  by_cases c9:Db=true
  rotate_left
  ·replace c9:=Bool.eq_false_iff.mpr c9
   subst c9
   rw[ig ff]at H
   obtain⟨Dc,hy⟩:∃y_:List Int,y_=(([]:List Int)):=⟨_,rfl⟩
   replace H:(some (Dc,false))=some (r1,r2):=rh
   have Bp:=Az.mk hy
   clear hy
   simp only[Option.some.injEq,Prod.mk.injEq]at H
   obtain⟨rfl,rfl⟩:=H
   try go_wp2
   replace Ae:=Az.mk (Kd.R_drew Ae.out);replace HB:=Az.mk (bwD HB.out)
   have Am:0≤(Aa:Int):=od
   have Ao:Aa<(l0.length:Int):=od
   obtain⟨Ai,Ay,Ab⟩:=Kd.at_int Bs.out Aa Am Ao
   have Ac:=Ab
   cases Ay
   replace Ab:=kc HB Ab
   replace Am:=ets Am
   replace Ao:=ets Ao
   refine start_ (n:=26) (S:=fun w'=>w'.cell? (Ai.add (Aa).toNat)=some (.int .i64 (rd l0 Aa))) (ds:=[]) #[F,F,F,F,F,F,F,F,F,F,F,F,F,F,F,F,F,F,F,F,F,F,F,F,F,F] z3_0 rfl rfl ((kc HB Ac)) (fun hHeld=>?_);refine with_tabW fG.tab7 fG.bits7 (fun HT_ HW_=>?_)
   generalize wr.drew=Dy at Ae HB Ab hHeld ⊢
   refine pu (i:=0) (N:=some 21) #[T,F,F,F,F,F,F,F,F,F,F,F,F,F,F,F,F,F,F,F,F,F,F,F,F,F] (any_of HT_.out z3_0) ?_
   refine pu (i:=1) (N:=some 22) #[T,T,F,F,F,F,F,F,F,F,F,F,F,F,F,F,F,F,F,F,F,F,F,F,F,F] (any_of HT_.out z3_0) ?_
   refine pu (i:=2) (N:=some 23) #[T,T,T,F,F,F,F,F,F,F,F,F,F,F,F,F,F,F,F,F,F,F,F,F,F,F] (any_of HT_.out z3_0) ?_
   refine take_ (i:=3) (N:=some 24) (v:=?_) (a':=?_) #[T,T,T,T,F,F,F,F,F,F,F,F,F,F,F,F,F,F,F,F,F,F,F,F,F,F] rfl rfl (take_ofW HT_.out HW_.out z3_0) (fun _ _ _ h=>h) (Or.inl ⟨by rfl,?_⟩) hHeld ?_ ?_
   rotate_left
   ·intro w' s0
    go_simp
    with_reducible rfl
   rotate_left
   ·exact acq
   refine one_ (i:=4) (N:=some 25) #[T,T,T,T,T,F,F,F,F,F,F,F,F,F,F,F,F,F,F,F,F,F,F,F,F,F] rfl rfl (one_of HT_.out z3_0) (by decide) (fun K hK=>?_)
   refine goes_ Try.func49 z3_0 rfl #[.int .i64 (rd l0 Aa), .int .i64 0, .int .i64 200] (by rfl) rfl rfl ln_3 ?_
   with_reducible refine(fW.calls (rd l0 Aa) 0 200 false _ A8.out).mono ?_
   rintro e w' ⟨rfl,⟨nd,rfl⟩⟩
   refine⟨_,rfl,?_⟩
   refine hK.out _ _ ((kc HB Ac)) (fun hHeld=>?_)
   clear hK K
   refine norm_ (a':=?_) ?_ ?_
   rotate_left
   ·show Act.put _ (some 25) _=_
    exact acq
   refine pu (i:=5) (N:=some 26) #[T,T,T,T,T,T,F,F,F,F,F,F,F,F,F,F,F,F,F,F,F,F,F,F,F,F] (any_of HT_.out z3_0) ?_
   refine pu (i:=6) (N:=some 27) #[T,T,T,T,T,T,T,F,F,F,F,F,F,F,F,F,F,F,F,F,F,F,F,F,F,F] (any_of HT_.out z3_0) ?_
   refine pure_ (i:=7) (N:=some 28) (v:=undef) (a':=?_) #[T,T,T,T,T,T,T,T,F,F,F,F,F,F,F,F,F,F,F,F,F,F,F,F,F,F] rfl rfl (any_of HT_.out z3_0) (fun _ _ _ h=>h) (Or.inr ⟨by rfl,rfl⟩) ?_ ?_
   rotate_left
   ·exact acq
   refine pure_ (i:=8) (N:=some 29) (v:=undef) (a':=?_) #[T,T,T,T,T,T,T,T,T,F,F,F,F,F,F,F,F,F,F,F,F,F,F,F,F,F] rfl rfl (any_of HT_.out z3_0) (fun _ _ _ h=>h) (Or.inr ⟨by rfl,rfl⟩) ?_ ?_
   rotate_left
   ·exact acq
   refine pure_ (i:=9) (N:=some 30) (v:=undef) (a':=?_) #[T,T,T,T,T,T,T,T,T,T,F,F,F,F,F,F,F,F,F,F,F,F,F,F,F,F] rfl rfl (any_of HT_.out z3_0) (fun _ _ _ h=>h) (Or.inr ⟨by rfl,rfl⟩) ?_ ?_
   rotate_left
   ·exact acq
   refine pure_ (i:=10) (N:=some 31) (v:=undef) (a':=?_) #[T,T,T,T,T,T,T,T,T,T,T,F,F,F,F,F,F,F,F,F,F,F,F,F,F,F] rfl rfl (any_of HT_.out z3_0) (fun _ _ _ h=>h) (Or.inr ⟨by rfl,rfl⟩) ?_ ?_
   rotate_left
   ·exact acq
   refine pure_ (i:=11) (N:=some 32) (v:=undef) (a':=?_) #[T,T,T,T,T,T,T,T,T,T,T,T,F,F,F,F,F,F,F,F,F,F,F,F,F,F] rfl rfl (any_of HT_.out z3_0) (fun _ _ _ h=>h) (Or.inr ⟨by rfl,rfl⟩) ?_ ?_
   rotate_left
   ·exact acq
   refine pure_ (i:=12) (N:=some 33) (v:=undef) (a':=?_) #[T,T,T,T,T,T,T,T,T,T,T,T,T,F,F,F,F,F,F,F,F,F,F,F,F,F] rfl rfl (any_of HT_.out z3_0) (fun _ _ _ h=>h) (Or.inr ⟨by rfl,rfl⟩) ?_ ?_
   rotate_left
   ·exact acq
   refine pu (i:=13) (N:=some 34) #[T,T,T,T,T,T,T,T,T,T,T,T,T,T,F,F,F,F,F,F,F,F,F,F,F,F] (any_of HT_.out z3_0) ?_
   refine pu (i:=14) (N:=some 35) #[T,T,T,T,T,T,T,T,T,T,T,T,T,T,T,F,F,F,F,F,F,F,F,F,F,F] (any_of HT_.out z3_0) ?_
   refine pure_ (i:=15) (N:=some 36) (v:=undef) (a':=?_) #[T,T,T,T,T,T,T,T,T,T,T,T,T,T,T,T,F,F,F,F,F,F,F,F,F,F] rfl rfl (any_of HT_.out z3_0) (fun _ _ _ h=>h) (Or.inr ⟨by rfl,rfl⟩) ?_ ?_
   rotate_left
   ·exact acq
   refine pure_ (i:=16) (N:=some 37) (v:=undef) (a':=?_) #[T,T,T,T,T,T,T,T,T,T,T,T,T,T,T,T,T,F,F,F,F,F,F,F,F,F] rfl rfl (any_of HT_.out z3_0) (fun _ _ _ h=>h) (Or.inr ⟨by rfl,rfl⟩) ?_ ?_
   rotate_left
   ·exact acq
   refine pure_ (i:=17) (N:=some 38) (v:=undef) (a':=?_) #[T,T,T,T,T,T,T,T,T,T,T,T,T,T,T,T,T,T,F,F,F,F,F,F,F,F] rfl rfl (any_of HT_.out z3_0) (fun _ _ _ h=>h) (Or.inr ⟨by rfl,rfl⟩) ?_ ?_
   rotate_left
   ·exact acq
   refine pure_ (i:=18) (N:=some 39) (v:=undef) (a':=?_) #[T,T,T,T,T,T,T,T,T,T,T,T,T,T,T,T,T,T,T,F,F,F,F,F,F,F] rfl rfl (any_of HT_.out z3_0) (fun _ _ _ h=>h) (Or.inr ⟨by rfl,rfl⟩) ?_ ?_
   rotate_left
   ·exact acq
   refine pure_ (i:=19) (N:=some 40) (v:=undef) (a':=?_) #[T,T,T,T,T,T,T,T,T,T,T,T,T,T,T,T,T,T,T,T,F,F,F,F,F,F] rfl rfl (any_of HT_.out z3_0) (fun _ _ _ h=>h) (Or.inr ⟨by rfl,rfl⟩) ?_ ?_
   rotate_left
   ·exact acq
   refine pure_ (i:=20) (N:=some 41) (v:=undef) (a':=?_) #[T,T,T,T,T,T,T,T,T,T,T,T,T,T,T,T,T,T,T,T,T,F,F,F,F,F] rfl rfl (any_of HT_.out z3_0) (fun _ _ _ h=>h) (Or.inr ⟨by rfl,rfl⟩) ?_ ?_
   rotate_left
   ·exact acq
   refine pure_ (i:=21) (N:=some 42) (v:=undef) (a':=?_) #[T,T,T,T,T,T,T,T,T,T,T,T,T,T,T,T,T,T,T,T,T,T,F,F,F,F] rfl rfl (any_of HT_.out z3_0) (fun _ _ _ h=>h) (Or.inr ⟨by rfl,rfl⟩) ?_ ?_
   rotate_left
   ·exact acq
   refine pure_ (i:=22) (N:=some 43) (v:=undef) (a':=?_) #[T,T,T,T,T,T,T,T,T,T,T,T,T,T,T,T,T,T,T,T,T,T,T,F,F,F] rfl rfl (any_of HT_.out z3_0) (fun _ _ _ h=>h) (Or.inr ⟨by rfl,rfl⟩) ?_ ?_
   rotate_left
   ·exact acq
   refine pure_ (i:=23) (N:=some 44) (v:=undef) (a':=?_) #[T,T,T,T,T,T,T,T,T,T,T,T,T,T,T,T,T,T,T,T,T,T,T,T,F,F] rfl rfl (any_of HT_.out z3_0) (fun _ _ _ h=>h) (Or.inr ⟨by rfl,rfl⟩) ?_ ?_
   rotate_left
   ·exact acq
   refine pure_ (i:=24) (N:=some 45) (v:=undef) (a':=?_) #[T,T,T,T,T,T,T,T,T,T,T,T,T,T,T,T,T,T,T,T,T,T,T,T,T,F] rfl rfl (any_of HT_.out z3_0) (fun _ _ _ h=>h) (Or.inr ⟨by rfl,rfl⟩) ?_ ?_
   rotate_left
   ·exact acq
   refine pu (i:=25) (N:=some 46) #[T,T,T,T,T,T,T,T,T,T,T,T,T,T,T,T,T,T,T,T,T,T,T,T,T,T] (any_of HT_.out z3_0) ?_
   refine done_ (done_of HT_.out z3_0) ?_
   try go_wp2_with (first|((with_reducible refine gtD (N:=47) rfl ?_);refine Kd.R_lit (Kd.int .i64) _ 3 ?hg (N:=47) ?hd (xs:=([]:List Int)) (inner:=[]) (ok:=fun _=>True) (okp:=fun _=>True) ?hr ?hp (fun _ hk=>hk) trivial (Below.refl _ _) (Nat.le_refl _) (by simp) ?_;(case hd=>rfl);(case hg=>rfl);(case hr=>first|(go_simp;done)|(go_simp;rfl));(case hp=>exact(Reps.none _ _));intro Dr Dz Bf hb hg_ hnew_;clear hg_ hnew_;(first|rw[←Bp.out]at Bf|(simp only[Int.reduceToNat]at Bf;rw[←Bp.out]at Bf));have Cj:=Az.mk (Kd.R_lower (Kd.R_new' Bf (Kd.R_lt (kR Ae.out))) (bwZ bw_3));replace Ae:=Az.mk (Kd.R_elder' (kR Ae.out) (Kd.R_base Bf) hb);replace HB:=Az.mk (bwT bw_3 hb);clear hb Bf))
   go_ret2
   exact⟨_,rq1,by(with_reducible repeat(first|apply Kd.R_alloc|apply Kd.R_drewN|apply Kd.R_drew));exact Kd.R_mono Cj.out (fun _ hk=>trivial),bw_3⟩
  subst c9
  rw[ip rfl]at H
  by_cases Ct:Aa<(l1.length:Int)
  rotate_left
  ·rw[ig Ct]at H
   exact absurd H (by simp)
  rw[ip Ct]at H
  have Dn:=ode Ct
  clear Ct
  replace H:=bez H
  obtain⟨Dd,De,H⟩:=H
  try dsimp only at H
  by_cases Cu:Dd=true
  rotate_left
  ·replace Cu:=Bool.eq_false_iff.mpr Cu
   subst Cu
   rw[ig ff]at H
   obtain⟨Df,hy⟩:∃y_:List Int,y_=(([]:List Int)):=⟨_,rfl⟩
   replace H:(some (Df,false))=some (r1,r2):=rh
   have Bq:=Az.mk hy
   clear hy
   simp only[Option.some.injEq,Prod.mk.injEq]at H
   obtain⟨rfl,rfl⟩:=H
   try go_wp2
   replace Ae:=Az.mk (Kd.R_drew Ae.out);replace HB:=Az.mk (bwD HB.out)
   have Am:0≤(Aa:Int):=od
   have Ao:Aa<(l0.length:Int):=od
   obtain⟨Ai,Ay,Ab⟩:=Kd.at_int Bs.out Aa Am Ao
   have Ac:=Ab
   cases Ay
   replace Ab:=kc HB Ab
   replace Am:=ets Am
   replace Ao:=ets Ao
   have Av:0≤(Aa:Int):=od
   have Aw:Aa<(l1.length:Int):=od
   obtain⟨Al,Bk,Ad⟩:=Kd.at_int HR1.out Aa Av Aw
   have Af:=Ad
   cases Bk
   replace Ad:=kc HB Ad
   replace Av:=ets Av
   replace Aw:=ets Aw
   refine start_ (n:=26) (S:=fun w'=>w'.cell? (Ai.add (Aa).toNat)=some (.int .i64 (rd l0 Aa))∧w'.cell? (Al.add (Aa).toNat)=some (.int .i64 (rd l1 Aa))) (ds:=[]) #[F,F,F,F,F,F,F,F,F,F,F,F,F,F,F,F,F,F,F,F,F,F,F,F,F,F] z3_0 rfl rfl ⟨(kc HB Ac),(kc HB Af)⟩ (fun hHeld=>?_);refine with_tabW fG.tab7 fG.bits7 (fun HT_ HW_=>?_)
   generalize wr.drew=Ea at Ae HB Ab Ad hHeld ⊢
   refine pu (i:=0) (N:=some 21) #[T,F,F,F,F,F,F,F,F,F,F,F,F,F,F,F,F,F,F,F,F,F,F,F,F,F] (any_of HT_.out z3_0) ?_
   refine pu (i:=1) (N:=some 22) #[T,T,F,F,F,F,F,F,F,F,F,F,F,F,F,F,F,F,F,F,F,F,F,F,F,F] (any_of HT_.out z3_0) ?_
   refine pu (i:=2) (N:=some 23) #[T,T,T,F,F,F,F,F,F,F,F,F,F,F,F,F,F,F,F,F,F,F,F,F,F,F] (any_of HT_.out z3_0) ?_
   refine take_ (i:=3) (N:=some 24) (v:=?_) (a':=?_) #[T,T,T,T,F,F,F,F,F,F,F,F,F,F,F,F,F,F,F,F,F,F,F,F,F,F] rfl rfl (take_ofW HT_.out HW_.out z3_0) (fun _ _ _ h=>h) (Or.inl ⟨by rfl,?_⟩) hHeld ?_ ?_
   rotate_left
   ·rintro w' ⟨s0,s1⟩
    go_simp
    with_reducible rfl
   rotate_left
   ·exact acq
   refine one_ (i:=4) (N:=some 25) #[T,T,T,T,T,F,F,F,F,F,F,F,F,F,F,F,F,F,F,F,F,F,F,F,F,F] rfl rfl (one_of HT_.out z3_0) (by decide) (fun K hK=>?_)
   refine goes_ Try.func49 z3_0 rfl #[.int .i64 (rd l0 Aa), .int .i64 0, .int .i64 200] (by rfl) rfl rfl ln_3 ?_
   with_reducible refine(fW.calls (rd l0 Aa) 0 200 true _ A8.out).mono ?_
   rintro e w' ⟨rfl,⟨nd,rfl⟩⟩
   refine⟨_,rfl,?_⟩
   refine hK.out _ _ ⟨(kc HB Ac),(kc HB Af)⟩ (fun hHeld=>?_)
   clear hK K
   refine norm_ (a':=?_) ?_ ?_
   rotate_left
   ·show Act.put _ (some 25) _=_
    exact acq
   refine pu (i:=5) (N:=some 26) #[T,T,T,T,T,T,F,F,F,F,F,F,F,F,F,F,F,F,F,F,F,F,F,F,F,F] (any_of HT_.out z3_0) ?_
   refine pu (i:=6) (N:=some 27) #[T,T,T,T,T,T,T,F,F,F,F,F,F,F,F,F,F,F,F,F,F,F,F,F,F,F] (any_of HT_.out z3_0) ?_
   refine pu (i:=7) (N:=some 28) #[T,T,T,T,T,T,T,T,F,F,F,F,F,F,F,F,F,F,F,F,F,F,F,F,F,F] (any_of HT_.out z3_0) ?_
   refine pu (i:=8) (N:=some 29) #[T,T,T,T,T,T,T,T,T,F,F,F,F,F,F,F,F,F,F,F,F,F,F,F,F,F] (any_of HT_.out z3_0) ?_
   refine pu (i:=9) (N:=some 30) #[T,T,T,T,T,T,T,T,T,T,F,F,F,F,F,F,F,F,F,F,F,F,F,F,F,F] (any_of HT_.out z3_0) ?_
   refine take_ (i:=10) (N:=some 31) (v:=?_) (a':=?_) #[T,T,T,T,T,T,T,T,T,T,T,F,F,F,F,F,F,F,F,F,F,F,F,F,F,F] rfl rfl (take_ofW HT_.out HW_.out z3_0) (fun _ _ _ h=>h) (Or.inl ⟨by rfl,?_⟩) hHeld ?_ ?_
   rotate_left
   ·rintro w' ⟨s0,s1⟩
    go_simp
    with_reducible rfl
   rotate_left
   ·exact acq
   refine one_ (i:=11) (N:=some 32) #[T,T,T,T,T,T,T,T,T,T,T,T,F,F,F,F,F,F,F,F,F,F,F,F,F,F] rfl rfl (one_of HT_.out z3_0) (by decide) (fun K hK=>?_)
   refine goes_ Try.func49 z3_0 rfl #[.int .i64 (rd l1 Aa), .int .i64 0, .int .i64 200] (by rfl) rfl rfl ln_3 ?_
   with_reducible refine(fW.calls (rd l1 Aa) 0 200 false _ De.out).mono ?_
   rintro e w' ⟨rfl,⟨nd,rfl⟩⟩
   refine⟨_,rfl,?_⟩
   refine hK.out _ _ ⟨(kc HB Ac),(kc HB Af)⟩ (fun hHeld=>?_)
   clear hK K
   refine norm_ (a':=?_) ?_ ?_
   rotate_left
   ·show Act.put _ (some 32) _=_
    exact acq
   refine pu (i:=12) (N:=some 33) #[T,T,T,T,T,T,T,T,T,T,T,T,T,F,F,F,F,F,F,F,F,F,F,F,F,F] (any_of HT_.out z3_0) ?_
   refine pu (i:=13) (N:=some 34) #[T,T,T,T,T,T,T,T,T,T,T,T,T,T,F,F,F,F,F,F,F,F,F,F,F,F] (any_of HT_.out z3_0) ?_
   refine pu (i:=14) (N:=some 35) #[T,T,T,T,T,T,T,T,T,T,T,T,T,T,T,F,F,F,F,F,F,F,F,F,F,F] (any_of HT_.out z3_0) ?_
   refine pure_ (i:=15) (N:=some 36) (v:=undef) (a':=?_) #[T,T,T,T,T,T,T,T,T,T,T,T,T,T,T,T,F,F,F,F,F,F,F,F,F,F] rfl rfl (any_of HT_.out z3_0) (fun _ _ _ h=>h) (Or.inr ⟨by rfl,rfl⟩) ?_ ?_
   rotate_left
   ·exact acq
   refine pure_ (i:=16) (N:=some 37) (v:=undef) (a':=?_) #[T,T,T,T,T,T,T,T,T,T,T,T,T,T,T,T,T,F,F,F,F,F,F,F,F,F] rfl rfl (any_of HT_.out z3_0) (fun _ _ _ h=>h) (Or.inr ⟨by rfl,rfl⟩) ?_ ?_
   rotate_left
   ·exact acq
   refine pure_ (i:=17) (N:=some 38) (v:=undef) (a':=?_) #[T,T,T,T,T,T,T,T,T,T,T,T,T,T,T,T,T,T,F,F,F,F,F,F,F,F] rfl rfl (any_of HT_.out z3_0) (fun _ _ _ h=>h) (Or.inr ⟨by rfl,rfl⟩) ?_ ?_
   rotate_left
   ·exact acq
   refine pure_ (i:=18) (N:=some 39) (v:=undef) (a':=?_) #[T,T,T,T,T,T,T,T,T,T,T,T,T,T,T,T,T,T,T,F,F,F,F,F,F,F] rfl rfl (any_of HT_.out z3_0) (fun _ _ _ h=>h) (Or.inr ⟨by rfl,rfl⟩) ?_ ?_
   rotate_left
   ·exact acq
   refine pure_ (i:=19) (N:=some 40) (v:=undef) (a':=?_) #[T,T,T,T,T,T,T,T,T,T,T,T,T,T,T,T,T,T,T,T,F,F,F,F,F,F] rfl rfl (any_of HT_.out z3_0) (fun _ _ _ h=>h) (Or.inr ⟨by rfl,rfl⟩) ?_ ?_
   rotate_left
   ·exact acq
   refine pure_ (i:=20) (N:=some 41) (v:=undef) (a':=?_) #[T,T,T,T,T,T,T,T,T,T,T,T,T,T,T,T,T,T,T,T,T,F,F,F,F,F] rfl rfl (any_of HT_.out z3_0) (fun _ _ _ h=>h) (Or.inr ⟨by rfl,rfl⟩) ?_ ?_
   rotate_left
   ·exact acq
   refine pure_ (i:=21) (N:=some 42) (v:=undef) (a':=?_) #[T,T,T,T,T,T,T,T,T,T,T,T,T,T,T,T,T,T,T,T,T,T,F,F,F,F] rfl rfl (any_of HT_.out z3_0) (fun _ _ _ h=>h) (Or.inr ⟨by rfl,rfl⟩) ?_ ?_
   rotate_left
   ·exact acq
   refine pure_ (i:=22) (N:=some 43) (v:=undef) (a':=?_) #[T,T,T,T,T,T,T,T,T,T,T,T,T,T,T,T,T,T,T,T,T,T,T,F,F,F] rfl rfl (any_of HT_.out z3_0) (fun _ _ _ h=>h) (Or.inr ⟨by rfl,rfl⟩) ?_ ?_
   rotate_left
   ·exact acq
   refine pure_ (i:=23) (N:=some 44) (v:=undef) (a':=?_) #[T,T,T,T,T,T,T,T,T,T,T,T,T,T,T,T,T,T,T,T,T,T,T,T,F,F] rfl rfl (any_of HT_.out z3_0) (fun _ _ _ h=>h) (Or.inr ⟨by rfl,rfl⟩) ?_ ?_
   rotate_left
   ·exact acq
   refine pure_ (i:=24) (N:=some 45) (v:=undef) (a':=?_) #[T,T,T,T,T,T,T,T,T,T,T,T,T,T,T,T,T,T,T,T,T,T,T,T,T,F] rfl rfl (any_of HT_.out z3_0) (fun _ _ _ h=>h) (Or.inr ⟨by rfl,rfl⟩) ?_ ?_
   rotate_left
   ·exact acq
   refine pu (i:=25) (N:=some 46) #[T,T,T,T,T,T,T,T,T,T,T,T,T,T,T,T,T,T,T,T,T,T,T,T,T,T] (any_of HT_.out z3_0) ?_
   refine done_ (done_of HT_.out z3_0) ?_
   try go_wp2_with (first|((with_reducible refine gtD (N:=47) rfl ?_);refine Kd.R_lit (Kd.int .i64) _ 3 ?hg (N:=47) ?hd (xs:=([]:List Int)) (inner:=[]) (ok:=fun _=>True) (okp:=fun _=>True) ?hr ?hp (fun _ hk=>hk) trivial (Below.refl _ _) (Nat.le_refl _) (by simp) ?_;(case hd=>rfl);(case hg=>rfl);(case hr=>first|(go_simp;done)|(go_simp;rfl));(case hp=>exact(Reps.none _ _));intro Ds Eb Bh hb hg_ hnew_;clear hg_ hnew_;(first|rw[←Bq.out]at Bh|(simp only[Int.reduceToNat]at Bh;rw[←Bq.out]at Bh));have Ck:=Az.mk (Kd.R_lower (Kd.R_new' Bh (Kd.R_lt (kR Ae.out))) (bwZ bw_3));replace Ae:=Az.mk (Kd.R_elder' (kR Ae.out) (Kd.R_base Bh) hb);replace HB:=Az.mk (bwT bw_3 hb);clear hb Bh))
   go_ret2
   exact⟨_,rq1,by(with_reducible repeat(first|apply Kd.R_alloc|apply Kd.R_drewN|apply Kd.R_drew));exact Kd.R_mono Ck.out (fun _ hk=>trivial),bw_3⟩
  subst Cu
  rw[ip rfl]at H
  by_cases Bz:(wrap64 ((rd l0 Aa)+(rd l1 Aa)))>200
  ·rw[ip Bz]at H
   have Cl:decide (200<(wrap64 ((rd l0 Aa)+(rd l1 Aa))))=true:=ode Bz
   clear Bz
   obtain⟨Dg,hy⟩:∃y_:List Int,y_=(([]:List Int)):=⟨_,rfl⟩
   replace H:(some (Dg,false))=some (r1,r2):=rh
   have Br:=Az.mk hy
   clear hy
   simp only[Option.some.injEq,Prod.mk.injEq]at H
   obtain⟨rfl,rfl⟩:=H
   try go_wp2
   replace Ae:=Az.mk (Kd.R_drew Ae.out);replace HB:=Az.mk (bwD HB.out)
   have Am:0≤(Aa:Int):=od
   have Ao:Aa<(l0.length:Int):=od
   obtain⟨Ai,Ay,Ab⟩:=Kd.at_int Bs.out Aa Am Ao
   have Ac:=Ab
   cases Ay
   replace Ab:=kc HB Ab
   replace Am:=ets Am
   replace Ao:=ets Ao
   have Av:0≤(Aa:Int):=od
   have Aw:Aa<(l1.length:Int):=od
   obtain⟨Al,Bk,Ad⟩:=Kd.at_int HR1.out Aa Av Aw
   have Af:=Ad
   cases Bk
   replace Ad:=kc HB Ad
   replace Av:=ets Av
   replace Aw:=ets Aw
   have Ba:0≤(Aa:Int):=od
   have Bb:Aa<(l0.length:Int):=od
   obtain⟨Bl,Bt,Ag⟩:=Kd.at_int Bs.out Aa Ba Bb
   have Aj:=Ag
   obtain rfl:Ai=Bl:=(by injection Bt)
   replace Ag:=kc HB Ag
   replace Ba:=ets Ba
   replace Bb:=ets Bb
   have Bc:0≤(Aa:Int):=od
   have Bd:Aa<(l1.length:Int):=od
   obtain⟨Bm,Bu,Ah⟩:=Kd.at_int HR1.out Aa Bc Bd
   have Ak:=Ah
   obtain rfl:Al=Bm:=(by injection Bu)
   replace Ah:=kc HB Ah
   replace Bc:=ets Bc
   replace Bd:=ets Bd
   refine start_ (n:=26) (S:=fun w'=>w'.cell? (Ai.add (Aa).toNat)=some (.int .i64 (rd l0 Aa))∧w'.cell? (Al.add (Aa).toNat)=some (.int .i64 (rd l1 Aa))∧w'.cell? (Ai.add (Aa).toNat)=some (.int .i64 (rd l0 Aa))∧w'.cell? (Al.add (Aa).toNat)=some (.int .i64 (rd l1 Aa))) (ds:=[]) #[F,F,F,F,F,F,F,F,F,F,F,F,F,F,F,F,F,F,F,F,F,F,F,F,F,F] z3_0 rfl rfl ⟨(kc HB Ac),(kc HB Af),(kc HB Aj),(kc HB Ak)⟩ (fun hHeld=>?_);refine with_tabW fG.tab7 fG.bits7 (fun HT_ HW_=>?_)
   generalize wr.drew=Ec at Ae HB Ab Ad Ag Ah hHeld ⊢
   refine pu (i:=0) (N:=some 21) #[T,F,F,F,F,F,F,F,F,F,F,F,F,F,F,F,F,F,F,F,F,F,F,F,F,F] (any_of HT_.out z3_0) ?_
   refine pu (i:=1) (N:=some 22) #[T,T,F,F,F,F,F,F,F,F,F,F,F,F,F,F,F,F,F,F,F,F,F,F,F,F] (any_of HT_.out z3_0) ?_
   refine pu (i:=2) (N:=some 23) #[T,T,T,F,F,F,F,F,F,F,F,F,F,F,F,F,F,F,F,F,F,F,F,F,F,F] (any_of HT_.out z3_0) ?_
   refine take_ (i:=3) (N:=some 24) (v:=?_) (a':=?_) #[T,T,T,T,F,F,F,F,F,F,F,F,F,F,F,F,F,F,F,F,F,F,F,F,F,F] rfl rfl (take_ofW HT_.out HW_.out z3_0) (fun _ _ _ h=>h) (Or.inl ⟨by rfl,?_⟩) hHeld ?_ ?_
   rotate_left
   ·rintro w' ⟨s0,s1,s2,s3⟩
    go_simp
    with_reducible rfl
   rotate_left
   ·exact acq
   refine one_ (i:=4) (N:=some 25) #[T,T,T,T,T,F,F,F,F,F,F,F,F,F,F,F,F,F,F,F,F,F,F,F,F,F] rfl rfl (one_of HT_.out z3_0) (by decide) (fun K hK=>?_)
   refine goes_ Try.func49 z3_0 rfl #[.int .i64 (rd l0 Aa), .int .i64 0, .int .i64 200] (by rfl) rfl rfl ln_3 ?_
   with_reducible refine(fW.calls (rd l0 Aa) 0 200 true _ A8.out).mono ?_
   rintro e w' ⟨rfl,⟨nd,rfl⟩⟩
   refine⟨_,rfl,?_⟩
   refine hK.out _ _ ⟨(kc HB Ac),(kc HB Af),(kc HB Aj),(kc HB Ak)⟩ (fun hHeld=>?_)
   clear hK K
   refine norm_ (a':=?_) ?_ ?_
   rotate_left
   ·show Act.put _ (some 25) _=_
    exact acq
   refine pu (i:=5) (N:=some 26) #[T,T,T,T,T,T,F,F,F,F,F,F,F,F,F,F,F,F,F,F,F,F,F,F,F,F] (any_of HT_.out z3_0) ?_
   refine pu (i:=6) (N:=some 27) #[T,T,T,T,T,T,T,F,F,F,F,F,F,F,F,F,F,F,F,F,F,F,F,F,F,F] (any_of HT_.out z3_0) ?_
   refine pu (i:=7) (N:=some 28) #[T,T,T,T,T,T,T,T,F,F,F,F,F,F,F,F,F,F,F,F,F,F,F,F,F,F] (any_of HT_.out z3_0) ?_
   refine pu (i:=8) (N:=some 29) #[T,T,T,T,T,T,T,T,T,F,F,F,F,F,F,F,F,F,F,F,F,F,F,F,F,F] (any_of HT_.out z3_0) ?_
   refine pu (i:=9) (N:=some 30) #[T,T,T,T,T,T,T,T,T,T,F,F,F,F,F,F,F,F,F,F,F,F,F,F,F,F] (any_of HT_.out z3_0) ?_
   refine take_ (i:=10) (N:=some 31) (v:=?_) (a':=?_) #[T,T,T,T,T,T,T,T,T,T,T,F,F,F,F,F,F,F,F,F,F,F,F,F,F,F] rfl rfl (take_ofW HT_.out HW_.out z3_0) (fun _ _ _ h=>h) (Or.inl ⟨by rfl,?_⟩) hHeld ?_ ?_
   rotate_left
   ·rintro w' ⟨s0,s1,s2,s3⟩
    go_simp
    with_reducible rfl
   rotate_left
   ·exact acq
   refine one_ (i:=11) (N:=some 32) #[T,T,T,T,T,T,T,T,T,T,T,T,F,F,F,F,F,F,F,F,F,F,F,F,F,F] rfl rfl (one_of HT_.out z3_0) (by decide) (fun K hK=>?_)
   refine goes_ Try.func49 z3_0 rfl #[.int .i64 (rd l1 Aa), .int .i64 0, .int .i64 200] (by rfl) rfl rfl ln_3 ?_
   with_reducible refine(fW.calls (rd l1 Aa) 0 200 true _ De.out).mono ?_
   rintro e w' ⟨rfl,⟨nd,rfl⟩⟩
   refine⟨_,rfl,?_⟩
   refine hK.out _ _ ⟨(kc HB Ac),(kc HB Af),(kc HB Aj),(kc HB Ak)⟩ (fun hHeld=>?_)
   clear hK K
   refine norm_ (a':=?_) ?_ ?_
   rotate_left
   ·show Act.put _ (some 32) _=_
    exact acq
   refine pu (i:=12) (N:=some 33) #[T,T,T,T,T,T,T,T,T,T,T,T,T,F,F,F,F,F,F,F,F,F,F,F,F,F] (any_of HT_.out z3_0) ?_
   refine pu (i:=13) (N:=some 34) #[T,T,T,T,T,T,T,T,T,T,T,T,T,T,F,F,F,F,F,F,F,F,F,F,F,F] (any_of HT_.out z3_0) ?_
   refine pu (i:=14) (N:=some 35) #[T,T,T,T,T,T,T,T,T,T,T,T,T,T,T,F,F,F,F,F,F,F,F,F,F,F] (any_of HT_.out z3_0) ?_
   refine pu (i:=15) (N:=some 36) #[T,T,T,T,T,T,T,T,T,T,T,T,T,T,T,T,F,F,F,F,F,F,F,F,F,F] (any_of HT_.out z3_0) ?_
   refine pu (i:=16) (N:=some 37) #[T,T,T,T,T,T,T,T,T,T,T,T,T,T,T,T,T,F,F,F,F,F,F,F,F,F] (any_of HT_.out z3_0) ?_
   refine pu (i:=17) (N:=some 38) #[T,T,T,T,T,T,T,T,T,T,T,T,T,T,T,T,T,T,F,F,F,F,F,F,F,F] (any_of HT_.out z3_0) ?_
   refine pu (i:=19) (N:=some 40) #[T,T,T,T,T,T,T,T,T,T,T,T,T,T,T,T,T,T,F,T,F,F,F,F,F,F] (any_of HT_.out z3_0) ?_
   refine pu (i:=20) (N:=some 41) #[T,T,T,T,T,T,T,T,T,T,T,T,T,T,T,T,T,T,F,T,T,F,F,F,F,F] (any_of HT_.out z3_0) ?_
   refine pu (i:=21) (N:=some 42) #[T,T,T,T,T,T,T,T,T,T,T,T,T,T,T,T,T,T,F,T,T,T,F,F,F,F] (any_of HT_.out z3_0) ?_
   refine take_ (i:=18) (N:=some 39) (v:=?_) (a':=?_) #[T,T,T,T,T,T,T,T,T,T,T,T,T,T,T,T,T,T,T,T,T,T,F,F,F,F] rfl rfl (take_ofW HT_.out HW_.out z3_0) (fun _ _ _ h=>h) (Or.inl ⟨by rfl,?_⟩) hHeld ?_ ?_
   rotate_left
   ·rintro w' ⟨s0,s1,s2,s3⟩
    go_simp
    with_reducible rfl
   rotate_left
   ·exact acq
   refine take_ (i:=22) (N:=some 43) (v:=?_) (a':=?_) #[T,T,T,T,T,T,T,T,T,T,T,T,T,T,T,T,T,T,T,T,T,T,T,F,F,F] rfl rfl (take_ofW HT_.out HW_.out z3_0) (fun _ _ _ h=>h) (Or.inl ⟨by rfl,?_⟩) hHeld ?_ ?_
   rotate_left
   ·rintro w' ⟨s0,s1,s2,s3⟩
    go_simp
    with_reducible rfl
   rotate_left
   ·exact acq
   refine pu (i:=23) (N:=some 44) #[T,T,T,T,T,T,T,T,T,T,T,T,T,T,T,T,T,T,T,T,T,T,T,T,F,F] (any_of HT_.out z3_0) ?_
   refine pu (i:=24) (N:=some 45) #[T,T,T,T,T,T,T,T,T,T,T,T,T,T,T,T,T,T,T,T,T,T,T,T,T,F] (any_of HT_.out z3_0) ?_
   refine pu (i:=25) (N:=some 46) #[T,T,T,T,T,T,T,T,T,T,T,T,T,T,T,T,T,T,T,T,T,T,T,T,T,T] (any_of HT_.out z3_0) ?_
   refine done_ (done_of HT_.out z3_0) ?_
   try go_wp2_with (first|((with_reducible refine gtD (N:=47) rfl ?_);refine Kd.R_lit (Kd.int .i64) _ 3 ?hg (N:=47) ?hd (xs:=([]:List Int)) (inner:=[]) (ok:=fun _=>True) (okp:=fun _=>True) ?hr ?hp (fun _ hk=>hk) trivial (Below.refl _ _) (Nat.le_refl _) (by simp) ?_;(case hd=>rfl);(case hg=>rfl);(case hr=>first|(go_simp;done)|(go_simp;rfl));(case hp=>exact(Reps.none _ _));intro Dt Ed Bi hb hg_ hnew_;clear hg_ hnew_;(first|rw[←Br.out]at Bi|(simp only[Int.reduceToNat]at Bi;rw[←Br.out]at Bi));have Cm:=Az.mk (Kd.R_lower (Kd.R_new' Bi (Kd.R_lt (kR Ae.out))) (bwZ bw_3));replace Ae:=Az.mk (Kd.R_elder' (kR Ae.out) (Kd.R_base Bi) hb);replace HB:=Az.mk (bwT bw_3 hb);clear hb Bi))
   go_ret2
   exact⟨_,rq1,by(with_reducible repeat(first|apply Kd.R_alloc|apply Kd.R_drewN|apply Kd.R_drew));exact Kd.R_mono Cm.out (fun _ hk=>trivial),bw_3⟩
  rw[ig Bz]at H
  have Cl:decide (200<(wrap64 ((rd l0 Aa)+(rd l1 Aa))))=false:=decide_eq_false Bz
  clear Bz
  by_cases Cv:Ax.length<17592186044416
  rotate_left
  ·rw[ig Cv]at H
   exact absurd H (by simp)
  rw[ip Cv]at H
  have LMc17:=Az.mk Cv
  clear Cv
  obtain⟨Cn,hy⟩:∃y_:List Int,y_=(Ax ++ [wrap64 ((rd l0 Aa)+(rd l1 Aa))]):=⟨_,rfl⟩
  replace H:(fG.l0 k1 l0 l1 Cn (wrap64 (Aa+1)))=some (r1,r2):=rh
  have Co:=Az.mk hy
  clear hy
  have H':=Az.mk H
  clear H
  try go_wp2
  replace Ae:=Az.mk (Kd.R_drew Ae.out);replace HB:=Az.mk (bwD HB.out)
  have Am:0≤(Aa:Int):=od
  have Ao:Aa<(l0.length:Int):=od
  obtain⟨Ai,Ay,Ab⟩:=Kd.at_int Bs.out Aa Am Ao
  have Ac:=Ab
  cases Ay
  replace Ab:=kc HB Ab
  replace Am:=ets Am
  replace Ao:=ets Ao
  have Av:0≤(Aa:Int):=od
  have Aw:Aa<(l1.length:Int):=od
  obtain⟨Al,Bk,Ad⟩:=Kd.at_int HR1.out Aa Av Aw
  have Af:=Ad
  cases Bk
  replace Ad:=kc HB Ad
  replace Av:=ets Av
  replace Aw:=ets Aw
  have Ba:0≤(Aa:Int):=od
  have Bb:Aa<(l0.length:Int):=od
  obtain⟨Bl,Bt,Ag⟩:=Kd.at_int Bs.out Aa Ba Bb
  have Aj:=Ag
  obtain rfl:Ai=Bl:=(by injection Bt)
  replace Ag:=kc HB Ag
  replace Ba:=ets Ba
  replace Bb:=ets Bb
  have Bc:0≤(Aa:Int):=od
  have Bd:Aa<(l1.length:Int):=od
  obtain⟨Bm,Bu,Ah⟩:=Kd.at_int HR1.out Aa Bc Bd
  have Ak:=Ah
  obtain rfl:Al=Bm:=(by injection Bu)
  replace Ah:=kc HB Ah
  replace Bc:=ets Bc
  replace Bd:=ets Bd
  refine start_ (n:=26) (S:=fun w'=>w'.cell? (Ai.add (Aa).toNat)=some (.int .i64 (rd l0 Aa))∧w'.cell? (Al.add (Aa).toNat)=some (.int .i64 (rd l1 Aa))∧w'.cell? (Ai.add (Aa).toNat)=some (.int .i64 (rd l0 Aa))∧w'.cell? (Al.add (Aa).toNat)=some (.int .i64 (rd l1 Aa))) (ds:=[]) #[F,F,F,F,F,F,F,F,F,F,F,F,F,F,F,F,F,F,F,F,F,F,F,F,F,F] z3_0 rfl rfl ⟨(kc HB Ac),(kc HB Af),(kc HB Aj),(kc HB Ak)⟩ (fun hHeld=>?_);refine with_tabW fG.tab7 fG.bits7 (fun HT_ HW_=>?_)
  generalize wr.drew=Ca at Ae HB Ab Ad Ag Ah hHeld ⊢
  refine pu (i:=0) (N:=some 21) #[T,F,F,F,F,F,F,F,F,F,F,F,F,F,F,F,F,F,F,F,F,F,F,F,F,F] (any_of HT_.out z3_0) ?_
  refine pu (i:=1) (N:=some 22) #[T,T,F,F,F,F,F,F,F,F,F,F,F,F,F,F,F,F,F,F,F,F,F,F,F,F] (any_of HT_.out z3_0) ?_
  refine pu (i:=2) (N:=some 23) #[T,T,T,F,F,F,F,F,F,F,F,F,F,F,F,F,F,F,F,F,F,F,F,F,F,F] (any_of HT_.out z3_0) ?_
  refine take_ (i:=3) (N:=some 24) (v:=?_) (a':=?_) #[T,T,T,T,F,F,F,F,F,F,F,F,F,F,F,F,F,F,F,F,F,F,F,F,F,F] rfl rfl (take_ofW HT_.out HW_.out z3_0) (fun _ _ _ h=>h) (Or.inl ⟨by rfl,?_⟩) hHeld ?_ ?_
  rotate_left
  ·rintro w' ⟨s0,s1,s2,s3⟩
   go_simp
   with_reducible rfl
  rotate_left
  ·exact acq
  refine one_ (i:=4) (N:=some 25) #[T,T,T,T,T,F,F,F,F,F,F,F,F,F,F,F,F,F,F,F,F,F,F,F,F,F] rfl rfl (one_of HT_.out z3_0) (by decide) (fun K hK=>?_)
  refine goes_ Try.func49 z3_0 rfl #[.int .i64 (rd l0 Aa), .int .i64 0, .int .i64 200] (by rfl) rfl rfl ln_3 ?_
  with_reducible refine(fW.calls (rd l0 Aa) 0 200 true _ A8.out).mono ?_
  rintro e w' ⟨rfl,⟨nd,rfl⟩⟩
  refine⟨_,rfl,?_⟩
  refine hK.out _ _ ⟨(kc HB Ac),(kc HB Af),(kc HB Aj),(kc HB Ak)⟩ (fun hHeld=>?_)
  clear hK K
  refine norm_ (a':=?_) ?_ ?_
  rotate_left
  ·show Act.put _ (some 25) _=_
   exact acq
  refine pu (i:=5) (N:=some 26) #[T,T,T,T,T,T,F,F,F,F,F,F,F,F,F,F,F,F,F,F,F,F,F,F,F,F] (any_of HT_.out z3_0) ?_
  refine pu (i:=6) (N:=some 27) #[T,T,T,T,T,T,T,F,F,F,F,F,F,F,F,F,F,F,F,F,F,F,F,F,F,F] (any_of HT_.out z3_0) ?_
  refine pu (i:=7) (N:=some 28) #[T,T,T,T,T,T,T,T,F,F,F,F,F,F,F,F,F,F,F,F,F,F,F,F,F,F] (any_of HT_.out z3_0) ?_
  refine pu (i:=8) (N:=some 29) #[T,T,T,T,T,T,T,T,T,F,F,F,F,F,F,F,F,F,F,F,F,F,F,F,F,F] (any_of HT_.out z3_0) ?_
  refine pu (i:=9) (N:=some 30) #[T,T,T,T,T,T,T,T,T,T,F,F,F,F,F,F,F,F,F,F,F,F,F,F,F,F] (any_of HT_.out z3_0) ?_
  refine take_ (i:=10) (N:=some 31) (v:=?_) (a':=?_) #[T,T,T,T,T,T,T,T,T,T,T,F,F,F,F,F,F,F,F,F,F,F,F,F,F,F] rfl rfl (take_ofW HT_.out HW_.out z3_0) (fun _ _ _ h=>h) (Or.inl ⟨by rfl,?_⟩) hHeld ?_ ?_
  rotate_left
  ·rintro w' ⟨s0,s1,s2,s3⟩
   go_simp
   with_reducible rfl
  rotate_left
  ·exact acq
  refine one_ (i:=11) (N:=some 32) #[T,T,T,T,T,T,T,T,T,T,T,T,F,F,F,F,F,F,F,F,F,F,F,F,F,F] rfl rfl (one_of HT_.out z3_0) (by decide) (fun K hK=>?_)
  refine goes_ Try.func49 z3_0 rfl #[.int .i64 (rd l1 Aa), .int .i64 0, .int .i64 200] (by rfl) rfl rfl ln_3 ?_
  with_reducible refine(fW.calls (rd l1 Aa) 0 200 true _ De.out).mono ?_
  rintro e w' ⟨rfl,⟨nd,rfl⟩⟩
  refine⟨_,rfl,?_⟩
  refine hK.out _ _ ⟨(kc HB Ac),(kc HB Af),(kc HB Aj),(kc HB Ak)⟩ (fun hHeld=>?_)
  clear hK K
  refine norm_ (a':=?_) ?_ ?_
  rotate_left
  ·show Act.put _ (some 32) _=_
   exact acq
  refine pu (i:=12) (N:=some 33) #[T,T,T,T,T,T,T,T,T,T,T,T,T,F,F,F,F,F,F,F,F,F,F,F,F,F] (any_of HT_.out z3_0) ?_
  refine pu (i:=13) (N:=some 34) #[T,T,T,T,T,T,T,T,T,T,T,T,T,T,F,F,F,F,F,F,F,F,F,F,F,F] (any_of HT_.out z3_0) ?_
  refine pu (i:=14) (N:=some 35) #[T,T,T,T,T,T,T,T,T,T,T,T,T,T,T,F,F,F,F,F,F,F,F,F,F,F] (any_of HT_.out z3_0) ?_
  refine pu (i:=15) (N:=some 36) #[T,T,T,T,T,T,T,T,T,T,T,T,T,T,T,T,F,F,F,F,F,F,F,F,F,F] (any_of HT_.out z3_0) ?_
  refine pu (i:=16) (N:=some 37) #[T,T,T,T,T,T,T,T,T,T,T,T,T,T,T,T,T,F,F,F,F,F,F,F,F,F] (any_of HT_.out z3_0) ?_
  refine pu (i:=17) (N:=some 38) #[T,T,T,T,T,T,T,T,T,T,T,T,T,T,T,T,T,T,F,F,F,F,F,F,F,F] (any_of HT_.out z3_0) ?_
  refine pu (i:=19) (N:=some 40) #[T,T,T,T,T,T,T,T,T,T,T,T,T,T,T,T,T,T,F,T,F,F,F,F,F,F] (any_of HT_.out z3_0) ?_
  refine pu (i:=20) (N:=some 41) #[T,T,T,T,T,T,T,T,T,T,T,T,T,T,T,T,T,T,F,T,T,F,F,F,F,F] (any_of HT_.out z3_0) ?_
  refine pu (i:=21) (N:=some 42) #[T,T,T,T,T,T,T,T,T,T,T,T,T,T,T,T,T,T,F,T,T,T,F,F,F,F] (any_of HT_.out z3_0) ?_
  refine take_ (i:=18) (N:=some 39) (v:=?_) (a':=?_) #[T,T,T,T,T,T,T,T,T,T,T,T,T,T,T,T,T,T,T,T,T,T,F,F,F,F] rfl rfl (take_ofW HT_.out HW_.out z3_0) (fun _ _ _ h=>h) (Or.inl ⟨by rfl,?_⟩) hHeld ?_ ?_
  rotate_left
  ·rintro w' ⟨s0,s1,s2,s3⟩
   go_simp
   with_reducible rfl
  rotate_left
  ·exact acq
  refine take_ (i:=22) (N:=some 43) (v:=?_) (a':=?_) #[T,T,T,T,T,T,T,T,T,T,T,T,T,T,T,T,T,T,T,T,T,T,T,F,F,F] rfl rfl (take_ofW HT_.out HW_.out z3_0) (fun _ _ _ h=>h) (Or.inl ⟨by rfl,?_⟩) hHeld ?_ ?_
  rotate_left
  ·rintro w' ⟨s0,s1,s2,s3⟩
   go_simp
   with_reducible rfl
  rotate_left
  ·exact acq
  refine pu (i:=23) (N:=some 44) #[T,T,T,T,T,T,T,T,T,T,T,T,T,T,T,T,T,T,T,T,T,T,T,T,F,F] (any_of HT_.out z3_0) ?_
  refine pu (i:=24) (N:=some 45) #[T,T,T,T,T,T,T,T,T,T,T,T,T,T,T,T,T,T,T,T,T,T,T,T,T,F] (any_of HT_.out z3_0) ?_
  refine pu (i:=25) (N:=some 46) #[T,T,T,T,T,T,T,T,T,T,T,T,T,T,T,T,T,T,T,T,T,T,T,T,T,T] (any_of HT_.out z3_0) ?_
  refine done_ (done_of HT_.out z3_0) ?_
  try go_wp2
  (try(rw[drewN_self Ca];generalize hq_:World.drewN Ca _=Ca;have n0_:Az (Kd.R (Kd.int .i64) 3 Ca w.heap.size (fun _=>True) u6 Ax):=⟨by rw[←hq_];exact(kR Ae.out)⟩;have n1_:Az (Below w.heap.size w Ca):=⟨by rw[←hq_];exact bw_3⟩;clear Ae HB hq_;have Ae:=n0_;have HB:=n1_;clear n0_ n1_))
  replace Ae:=Az.mk (Kd.R_drew Ae.out);replace HB:=Az.mk (bwD HB.out)
  have Bv:0≤(Aa:Int):=od
  have Bw:Aa<(l0.length:Int):=od
  obtain⟨Cp,Dh,Ap⟩:=Kd.at_int Bs.out Aa Bv Bw
  have Aq:=Ap
  obtain rfl:Ai=Cp:=(by injection Dh)
  replace Ap:=kc HB Ap
  replace Bv:=ets Bv
  replace Bw:=ets Bw
  have Bx:0≤(Aa:Int):=od
  have By:Aa<(l1.length:Int):=od
  obtain⟨Cq,Di,As⟩:=Kd.at_int HR1.out Aa Bx By
  have Au:=As
  obtain rfl:Al=Cq:=(by injection Di)
  replace As:=kc HB As
  replace Bx:=ets Bx
  replace By:=ets By
  refine start_ (n:=13) (S:=fun w'=>w'.cell? (Ai.add (Aa).toNat)=some (.int .i64 (rd l0 Aa))∧w'.cell? (Al.add (Aa).toNat)=some (.int .i64 (rd l1 Aa))) (ds:=[]) #[F,F,F,F,F,F,F,F,F,F,F,F,F] z3_0 rfl rfl ⟨(kc HB Aq),(kc HB Au)⟩ (fun hHeld=>?_);refine with_tabW fG.tab9 fG.bits9 (fun HT_ HW_=>?_)
  generalize Ca.drew=Ee at Ae HB Ap As hHeld ⊢
  refine pu (i:=0) (N:=some 48) #[T,F,F,F,F,F,F,F,F,F,F,F,F] (any_of HT_.out z3_0) ?_
  refine pu (i:=1) (N:=some 49) #[T,T,F,F,F,F,F,F,F,F,F,F,F] (any_of HT_.out z3_0) ?_
  refine pu (i:=2) (N:=some 50) #[T,T,T,F,F,F,F,F,F,F,F,F,F] (any_of HT_.out z3_0) ?_
  refine pu (i:=3) (N:=some 51) #[T,T,T,T,F,F,F,F,F,F,F,F,F] (any_of HT_.out z3_0) ?_
  refine pu (i:=5) (N:=some 53) #[T,T,T,T,F,T,F,F,F,F,F,F,F] (any_of HT_.out z3_0) ?_
  refine pu (i:=6) (N:=some 54) #[T,T,T,T,F,T,T,F,F,F,F,F,F] (any_of HT_.out z3_0) ?_
  refine pu (i:=7) (N:=some 55) #[T,T,T,T,F,T,T,T,F,F,F,F,F] (any_of HT_.out z3_0) ?_
  refine take_ (i:=4) (N:=some 52) (v:=?_) (a':=?_) #[T,T,T,T,T,T,T,T,F,F,F,F,F] rfl rfl (take_ofW HT_.out HW_.out z3_0) (fun _ _ _ h=>h) (Or.inl ⟨by rfl,?_⟩) hHeld ?_ ?_
  rotate_left
  ·rintro w' ⟨s0,s1⟩
   go_simp
   with_reducible rfl
  rotate_left
  ·exact acq
  refine take_ (i:=8) (N:=some 56) (v:=?_) (a':=?_) #[T,T,T,T,T,T,T,T,T,F,F,F,F] rfl rfl (take_ofW HT_.out HW_.out z3_0) (fun _ _ _ h=>h) (Or.inl ⟨by rfl,?_⟩) hHeld ?_ ?_
  rotate_left
  ·rintro w' ⟨s0,s1⟩
   go_simp
   with_reducible rfl
  rotate_left
  ·exact acq
  refine pu (i:=9) (N:=some 57) #[T,T,T,T,T,T,T,T,T,T,F,F,F] (any_of HT_.out z3_0) ?_
  refine one_ (i:=10) (N:=some 58) #[T,T,T,T,T,T,T,T,T,T,T,F,F] rfl rfl (one_of HT_.out z3_0) (by decide) (fun K hK=>?_)
  refine value_ (w1:=?_) (v:=?_) (by rfl) rfl ?_ ?_
  rotate_left 2
  ·go_simp
   constructor
   ·rfl
   rfl
  refine hK.out _ _ ⟨(World.cell?_alloc_lt _ _ _ (World.block_lt_of_cell? _ _ ((kc HB Aq)))).trans ((kc HB Aq)),(World.cell?_alloc_lt _ _ _ (World.block_lt_of_cell? _ _ ((kc HB Au)))).trans ((kc HB Au))⟩ (fun hHeld=>?_)
  clear hK K
  refine norm_ (a':=?_) ?_ ?_
  rotate_left
  ·show Act.put _ (some 58) _=_
   exact acq
  refine one_ (i:=11) (N:=some 59) #[T,T,T,T,T,T,T,T,T,T,T,T,F] rfl rfl (one_of HT_.out z3_0) (by decide) (fun K hK=>?_)
  refine Kd.R_append_step (Kd.int .i64) (w0:=w) w.heap.size (by rfl) (.tmp 48) (.tmp 58) 25 3 (.int .i64 0) 8 rfl Try.underlying25 info3 rfl (by decide) (by omega) u6 Ax (wrap64 ((rd l0 Aa)+(rd l1 Aa))) [.int .i64 (wrap64 ((rd l0 Aa)+(rd l1 Aa)))] (fun _=>True) (fun _=>False) rfl rfl ?aP (fun _ hk=>hk.elim) ?aF ?aO ?aB ?aS ?aL ?_
  (case aP=>exact rfl)
  (case aB=>exact bw_3)
  (case aF=>exact(fun _ _=>trivial))
  (case aO=>exact(kR Ae.out))
  (case aS=>exact(bwZ bw_3))
  (case aL=>have:=LMc17.out;omega)
  intro Du Ef ho hb hg hat
  rw[←Co.out]at ho
  have n0_:=Az.mk (hb)
  have n1_:=Az.mk (ho)
  clear HB
  clear Ae
  have HB:=n0_
  have Cs:=n1_
  clear n0_ n1_
  clear ho hb hg hat
  refine hK.out _ _ ⟨(kc HB Aq),(kc HB Au)⟩ (fun hHeld=>?_)
  clear hK K
  refine norm_ (a':=?_) ?_ ?_
  rotate_left
  ·show Act.put _ (some 59) _=_
   exact acq
  refine pu (i:=12) (N:=some 6) #[T,T,T,T,T,T,T,T,T,T,T,T,T] (any_of HT_.out z3_0) ?_
  refine done_ (done_of HT_.out z3_0) ?_
  try go_wp2
  go_roundg k1
  case measure=>have:=HK1.out;omega
  case rel=>exact⟨(Cn),(wrap64 (Aa+1)),rq2,H',⟨by have:=HK1.out;omega⟩,⟨kR Cs.out⟩,⟨bw_3⟩⟩
end
theorem bw_4 {n:Nat}{v v':World} (h:Below n v v':=by repeat(first|(with_reducible first|exact HB.out|apply bwA|apply pbN|apply bwD)|exact HB.out)):Below n v v':=h
mutual
def fA.j0:Nat→List (List Int)→Int→Bool→Option (Bool)
 |0,_,_,_=>none
 |k+1,x0,x3,x20=>if x20=true then(some false) else(if 0≤(wrap64 ((wrap64 (2*x3))+1)) then(if(wrap64 ((wrap64 (2*x3))+1):Int).toNat≤281474976710656 then(fA.l0 k x0 x3 (List.replicate (wrap64 ((wrap64 (2*x3))+1):Int).toNat false) 0) else(none)) else(none))
def fA.l0:Nat→List (List Int)→Int→List Bool→Int→Option (Bool)
 |0,_,_,_,_=>none
 |k+1,x0,x3,x4,x5=>if x5<(x0.length:Int) then(if 0≤x5 then(if((rd_L1 x0 x5).length:Int)=3 then(fA.l1 k x0 x3 x4 x5 0) else(some false)) else(none)) else(some true)
def fA.l1:Nat→List (List Int)→Int→List Bool→Int→Int→Option (Bool)
 |0,_,_,_,_,_=>none
 |k+1,x0,x3,x4,x5,x6=>if x6<3 then(if 0≤x5 then(if x5<(x0.length:Int) then(if 0≤x6 then(if x6<((rd_L1 x0 x5).length:Int) then(if(rd (rd_L1 x0 x5) x6)=0 then(some false) else((fW.f (rd (rd_L1 x0 x5) x6) (wrap64 (-x3)) x3).bind fun t134=>(if t134=true then(if 0≤(wrap64 (x3+(rd (rd_L1 x0 x5) x6))) then(if(wrap64 (x3+(rd (rd_L1 x0 x5) x6)))<(x4.length:Int) then(if rdOf false x4 (wrap64 (x3+(rd (rd_L1 x0 x5) x6)))=true then(some false) else(fA.l1 k x0 x3 (x4.set ((wrap64 (x3+(rd (rd_L1 x0 x5) x6))):Int).toNat true) x5 (wrap64 (x6+1)))) else(none)) else(none)) else(some false)))) else(none)) else(none)) else(none)) else(none)) else(fA.l0 k x0 x3 x4 (wrap64 (x5+1)))
end
def fA.f (k:Nat) (l0:List (List Int)):Option (Bool):=if((l0.length:Int) % 2)=0 then((fW.f (wrap64 (Int.tdiv (wrap64 (3*(l0.length:Int))) 2)) 3 9).bind fun t127=>(fA.j0 k l0 (wrap64 (Int.tdiv (wrap64 (3*(l0.length:Int))) 2)) (!t127))) else(fA.j0 k l0 (wrap64 (Int.tdiv (wrap64 (3*(l0.length:Int))) 2)) true)
theorem fA.calls (k:Nat) (A0:Option Addr) (c0:Nat) (l0:List (List Int)) (r:Bool) (w:World) (Ec:Kd.C (Kd.slice 3 (Kd.int .i64)) w A0 l0.length l0) (Ed:l0.length≤c0) (h:fA.f k l0=some r):
  Calls Try.prog 31 #[.slice A0 l0.length c0] w fun e w'=>e= .returned (.bool r)∧Below w.heap.size w w':=by
 have Cl:=Az.mk Ec
 have Et:=Az.mk Ed
 clear Ec Ed
 have HB:=Az.mk (Below.refl w.heap.size w)
 have H:(if((l0.length:Int) % 2)=0 then((fW.f (wrap64 (Int.tdiv (wrap64 (3*(l0.length:Int))) 2)) 3 9).bind fun Bp=>(fA.j0 k l0 (wrap64 (Int.tdiv (wrap64 (3*(l0.length:Int))) 2)) (!Bp))) else(fA.j0 k l0 (wrap64 (Int.tdiv (wrap64 (3*(l0.length:Int))) 2)) true))=some r:=h
 clear h
 have Dr:=Az.mk H
 clear H
 go_enter Try.func31,Try.ntmps31
 go_upto_region 2 with (fail)
 go_cut [20] (fun Ek wc=>∃(kq:Nat) (Bm:Bool),Ek= .bool Bm∧Az (fA.j0 kq l0 (wrap64 (Int.tdiv (wrap64 (3*(l0.length:Int))) 2)) Bm=some r)∧Az (kq≤k)∧Az (Below w.heap.size w wc))
 case first=>
  have H:=Dr.out
  clear Dr
  by_cases c3:((l0.length:Int) % 2)=0
  rotate_left
  ·rw[ig c3]at H
   have Ax:=beq_eq_false_iff_ne.mpr c3
   have Bq:=bne_iff_ne.mpr c3
   (first|rw[Ax]|(simp only[i64_w,i32_w];rw[Ax])|skip)
   have H':=Az.mk H
   clear H
   go_wp2
   go_meet
   case rel=>exact⟨_,(true),rq2,H',⟨by first|omega|exact Nat.le_refl _⟩,⟨bw_4⟩⟩
  rw[ip c3]at H
  have Ax:=beq_iff_eq.mpr c3
  have Bq:=bne_eq_false_iff_eq.mpr c3
  clear c3
  (first|rw[Ax]|(simp only[i64_w,i32_w];rw[Ax])|skip)
  replace H:=bez H
  obtain⟨Bp,A4,H⟩:=H
  try dsimp only at H
  have H':=Az.mk H
  clear H
  go_wp2_with (first|(go_at_call 49;(with_reducible refine(fW.calls (wrap64 (Int.tdiv (wrap64 (3*(l0.length:Int))) 2)) 3 9 Bp _ A4.out).mono ?_);rintro e w' ⟨rfl,⟨nd,rfl⟩⟩))
  go_meet
  case rel=>exact⟨_,(!Bp),rq2,H',⟨by first|omega|exact Nat.le_refl _⟩,⟨bw_4⟩⟩
 clear Dr
 try clear c3
 try clear Ax
 try clear Bq
 obtain⟨kq,Bm,rfl,HA,Dg,HB⟩:=hcut
 cases kq with
 |zero=>exact absurd HA.out (by simp[fA.j0])
 |succ Dh=>
  have H:=HA.out
  clear HA
  simp only[fA.j0]at H
  by_cases c5:Bm=true
  ·subst c5
   rw[ip rfl]at H
   obtain rfl:=Option.some.inj H
   go_wp2
   go_ret
   exact⟨rq1,bw_4⟩
  replace c5:=Bool.eq_false_iff.mpr c5
  subst c5
  rw[ig ff]at H
  obtain⟨Br,Ay⟩:∃j_:Int,(wrap64 ((wrap64 (2*(wrap64 (Int.tdiv (wrap64 (3*(l0.length:Int))) 2))))+1))=j_:=⟨_,rfl⟩
  replace H:(if 0≤(Br) then(if(Br:Int).toNat≤281474976710656 then(fA.l0 Dh l0 (wrap64 (Int.tdiv (wrap64 (3*(l0.length:Int))) 2)) (List.replicate (Br:Int).toNat false) 0) else(none)) else(none))=some r:=by first|(rw[Ay]at H;exact H)|(simp only[Ay]at H ⊢;exact H)
  have hji6w:(IntKind.i64.wrap ((wrap64 (2*(wrap64 (Int.tdiv (wrap64 (3*(l0.length:Int))) 2))))+1))=Br:=(i64_w _).trans Ay
  by_cases c7:0≤(Br)
  rotate_left
  ·rw[ig c7]at H
   exact absurd H (by simp)
  rw[ip c7]at H
  have Cn:=ets c7
  have Co:=ode c7
  clear c7
  by_cases c8:(Br:Int).toNat≤281474976710656
  rotate_left
  ·rw[ig c8]at H
   exact absurd H (by simp)
  rw[ip c8]at H
  have Cp:=ets c8
  have Cq:=ode c8
  clear c8
  obtain⟨Cs,hy⟩:∃y_:List Bool,y_=(List.replicate (Br:Int).toNat false):=⟨_,rfl⟩
  replace H:(fA.l0 Dh l0 (wrap64 (Int.tdiv (wrap64 (3*(l0.length:Int))) 2)) Cs 0)=some r:=rh
  have Bv:=Az.mk hy
  clear hy
  have H':=Az.mk H
  clear H
  go_wp2_with (first|((with_reducible refine gtD (N:=24) rfl ?_);refine Kd.R_make Kd.bool _ 4 rfl (N:=24) rfl 89 _ _ rfl Br rfl rfl Try.underlying89 (.bool false) 1 info4 rfl (by decide) (by omega) false (ok:=fun _=>True) (okp:=fun _=>True) rfl (fun _ hk=>hk) trivial (od) (Nat.le_trans (Nat.mul_le_mul_right _ (od:Br.toNat≤281474976710656)) (by omega)) (Below.refl _ _) (Nat.le_refl _) ?_;intro Ca w9 Bn hb hg_ hnew_;clear hg_ hnew_;(first|rw[←Bv.out]at Bn|(simp only[Int.reduceToNat]at Bn;rw[←Bv.out]at Bn));have Ct:=Az.mk (Kd.R_lower Bn (bwZ bw_4));replace HB:=Az.mk (bwT bw_4 hb);clear hb Bn))
  go_loopg [5] Dh (fun kq v5 w'=>∃(Bs:List Bool) (Aa:Int),v5= .int .i64 Aa∧Az (fA.l0 kq l0 (wrap64 (Int.tdiv (wrap64 (3*(l0.length:Int))) 2)) Bs Aa=some r)∧Az (kq≤Dh)∧Az (Kd.R Kd.bool 4 w' w.heap.size (fun _=>True) Ca Bs)∧Az (Below w.heap.size w w'))
  case atStart=>exact⟨(Cs),(0),rq2,H',⟨Nat.le_refl _⟩,⟨kR Ct.out⟩,⟨bw_4⟩⟩
  clear H'
  try clear c3
  try clear Ax
  try clear Bq
  try clear c5
  try clear c7
  try clear Cn
  try clear Co
  try clear c8
  try clear Cp
  try clear Cq
  obtain⟨Bs,Aa,rfl,HA,HK2,Aj,HB⟩:=hrel
  cases gk with
  |zero=>exact absurd HA.out (by simp[fA.l0])
  |succ k2=>
   have H:=HA.out
   clear HA
   simp only[fA.l0]at H
   by_cases Cc:Aa<(l0.length:Int)
   rotate_left
   ·rw[ig Cc]at H
    have Bw:=decide_eq_false Cc
    clear Cc
    obtain rfl:=Option.some.inj H
    go_wp2
    go_ret
    exact⟨by first|rfl|(simp[eWn,eWs] <;> rfl)|(simp only[←Ay];first|rfl|(simp[eWn,eWs] <;> rfl))|(simp[*,eWn,eWs] <;> rfl),bw_4⟩
   rw[ip Cc]at H
   have Bw:=ode Cc
   clear Cc
   by_cases Cu:0≤Aa
   rotate_left
   ·rw[ig Cu]at H
    exact absurd H (by simp)
   rw[ip Cu]at H
   have Cv:=ode Cu
   clear Cu
   by_cases Bx:((rd_L1 l0 Aa).length:Int)=3
   rotate_left
   ·rw[ig Bx]at H
    have By:=beq_eq_false_iff_ne.mpr Bx
    have Bz:=bne_iff_ne.mpr Bx
    obtain rfl:=Option.some.inj H
    have Ba:0≤(Aa:Int):=od
    have Bb:Aa<(l0.length:Int):=od
    obtain⟨Bc,Cd,Ce,Cf,Ai,Aq,As⟩:=at_L1 Cl.out Aa Ba Bb
    cases Cf
    replace Ai:=kc HB Ai
    have Bt:=Az.mk As
    have Bu:=Az.mk Aq
    clear As Aq
    replace Ba:=ets Ba
    replace Bb:=ets Bb
    go_wp2
    go_ret
    exact⟨by first|rfl|(simp[eWn,eWs] <;> rfl)|(simp only[←Ay];first|rfl|(simp[eWn,eWs] <;> rfl))|(simp[*,eWn,eWs] <;> rfl),bw_4⟩
   rw[ip Bx]at H
   have By:=beq_iff_eq.mpr Bx
   have Bz:=bne_eq_false_iff_eq.mpr Bx
   clear Bx
   have H':=Az.mk H
   clear H
   have Ba:0≤(Aa:Int):=od
   have Bb:Aa<(l0.length:Int):=od
   obtain⟨Bc,Cd,Ce,Cf,Ai,Aq,As⟩:=at_L1 Cl.out Aa Ba Bb
   cases Cf
   replace Ai:=kc HB Ai
   have Bt:=Az.mk As
   have Bu:=Az.mk Aq
   clear As Aq
   replace Ba:=ets Ba
   replace Bb:=ets Bb
   go_wp2
   go_loopg [6] k2 (fun kq v6 w'=>∃(Ak:List Bool) (Af:Int),v6= .int .i64 Af∧Az (fA.l1 kq l0 (wrap64 (Int.tdiv (wrap64 (3*(l0.length:Int))) 2)) Ak Aa Af=some r)∧Az (kq≤k2)∧Az (Kd.R Kd.bool 4 w' w.heap.size (fun _=>True) Ca Ak)∧Az (Below w.heap.size w w'))
   case atStart=>exact⟨(Bs),(0),rq2,H',⟨Nat.le_refl _⟩,⟨kR Aj.out⟩,⟨bw_4⟩⟩
   clear H'
   try clear c3
   try clear Ax
   try clear Bq
   try clear c5
   try clear c7
   try clear Cn
   try clear Co
   try clear c8
   try clear Cp
   try clear Cq
   try clear Cc
   try clear Bw
   try clear Cu
   try clear Cv
   try clear Bx
   try clear By
   try clear Bz
   try clear Ai
   try clear Ba
   try clear Bb
   obtain⟨Ak,Af,rfl,HA,HK3,Aj,HB⟩:=hrel
   cases gk with
   |zero=>exact absurd HA.out (by simp[fA.l1])
   |succ k3=>
    have H:=HA.out
    clear HA
    simp only[fA.l1]at H
    by_cases Cm:Af<3
    rotate_left
    ·rw[ig Cm]at H
     have Cw:=decide_eq_false Cm
     clear Cm
     have H':=Az.mk H
     clear H
     go_wp2
     go_roundg k3
     case measure=>have:=Dg.out;have:=HK2.out;have:=HK3.out;omega
     case rel=>exact⟨(Ak),(wrap64 (Aa+1)),rq2,H',⟨by have:=Dg.out;have:=HK2.out;have:=HK3.out;omega⟩,⟨kR Aj.out⟩,⟨bw_4⟩⟩
    rw[ip Cm]at H
    have Cw:=ode Cm
    clear Cm
    by_cases Di:0≤Aa
    rotate_left
    ·rw[ig Di]at H
     exact absurd H (by simp)
    rw[ip Di]at H
    have Ee:=ode Di
    clear Di
    by_cases Dj:Aa<(l0.length:Int)
    rotate_left
    ·rw[ig Dj]at H
     exact absurd H (by simp)
    rw[ip Dj]at H
    have Ef:=ode Dj
    clear Dj
    by_cases Dk:0≤Af
    rotate_left
    ·rw[ig Dk]at H
     exact absurd H (by simp)
    rw[ip Dk]at H
    have Eg:=ode Dk
    clear Dk
    by_cases Dl:Af<((rd_L1 l0 Aa).length:Int)
    rotate_left
    ·rw[ig Dl]at H
     exact absurd H (by simp)
    rw[ip Dl]at H
    have Eh:=ode Dl
    clear Dl
    by_cases Cg:(rd (rd_L1 l0 Aa) Af)=0
    ·rw[ip Cg]at H
     have Da:=beq_iff_eq.mpr Cg
     have Db:=bne_eq_false_iff_eq.mpr Cg
     clear Cg
     obtain rfl:=Option.some.inj H
     have Al:0≤(Aa:Int):=od
     have Am:Aa<(l0.length:Int):=od
     obtain⟨Av,Bf,Bh,Bi,Ab,Ac,Ad⟩:=at_L1 Cl.out Aa Al Am
     obtain rfl:Bc=Av:=(by injection Bi)
     replace Ab:=kc HB Ab
     have Ah:=Az.mk Ad
     have Aw:=Az.mk Ac
     clear Ad Ac
     replace Al:=ets Al
     replace Am:=ets Am
     have Ao:0≤(Af:Int):=od
     have Ap:Af<((rd_L1 l0 Aa).length:Int):=od
     obtain⟨Bo,Bj,Ae⟩:=Kd.at_int Ah.out Af Ao Ap
     cases Bj
     replace Ae:=kc HB Ae
     replace Ao:=ets Ao
     replace Ap:=ets Ap
     go_wp2
     go_ret
     exact⟨by first|rfl|(simp[eWn,eWs] <;> rfl)|(simp only[←Ay];first|rfl|(simp[eWn,eWs] <;> rfl))|(simp[*,eWn,eWs] <;> rfl),bw_4⟩
    rw[ig Cg]at H
    have Da:=beq_eq_false_iff_ne.mpr Cg
    have Db:=bne_iff_ne.mpr Cg
    replace H:=bez H
    obtain⟨Ds,Dm,H⟩:=H
    try dsimp only at H
    by_cases Dn:Ds=true
    rotate_left
    ·replace Dn:=Bool.eq_false_iff.mpr Dn
     subst Dn
     rw[ig ff]at H
     obtain rfl:=Option.some.inj H
     have Al:0≤(Aa:Int):=od
     have Am:Aa<(l0.length:Int):=od
     obtain⟨Av,Bf,Bh,Bi,Ab,Ac,Ad⟩:=at_L1 Cl.out Aa Al Am
     obtain rfl:Bc=Av:=(by injection Bi)
     replace Ab:=kc HB Ab
     have Ah:=Az.mk Ad
     have Aw:=Az.mk Ac
     clear Ad Ac
     replace Al:=ets Al
     replace Am:=ets Am
     have Ao:0≤(Af:Int):=od
     have Ap:Af<((rd_L1 l0 Aa).length:Int):=od
     obtain⟨Bo,Bj,Ae⟩:=Kd.at_int Ah.out Af Ao Ap
     cases Bj
     replace Ae:=kc HB Ae
     replace Ao:=ets Ao
     replace Ap:=ets Ap
     go_wp2_with (first|(go_at_call 49;(with_reducible refine(fW.calls (rd (rd_L1 l0 Aa) Af) (wrap64 (-(wrap64 (Int.tdiv (wrap64 (3*(l0.length:Int))) 2)))) (wrap64 (Int.tdiv (wrap64 (3*(l0.length:Int))) 2)) false _ Dm.out).mono ?_);rintro e w' ⟨rfl,⟨nd,rfl⟩⟩))
     go_ret
     exact⟨by first|rfl|(simp[eWn,eWs] <;> rfl)|(simp only[←Ay];first|rfl|(simp[eWn,eWs] <;> rfl))|(simp[*,eWn,eWs] <;> rfl),bw_4⟩
    subst Dn
    rw[ip rfl]at H
    obtain⟨Ag,Bd⟩:∃j_:Int,(wrap64 ((wrap64 (Int.tdiv (wrap64 (3*(l0.length:Int))) 2))+(rd (rd_L1 l0 Aa) Af)))=j_:=⟨_,rfl⟩
    replace H:(if 0≤(Ag) then(if(Ag)<(Ak.length:Int) then(if rdOf false Ak (Ag)=true then(some false) else(fA.l1 k3 l0 (wrap64 (Int.tdiv (wrap64 (3*(l0.length:Int))) 2)) (Ak.set ((Ag):Int).toNat true) Aa (wrap64 (Af+1)))) else(none)) else(none))=some r:=by first|(rw[Bd]at H;exact H)|(simp only[Bd]at H ⊢;exact H)
    (try rw[Bd]at Dm)
    have hji22w:(IntKind.i64.wrap ((wrap64 (Int.tdiv (wrap64 (3*(l0.length:Int))) 2))+(rd (rd_L1 l0 Aa) Af)))=Ag:=(i64_w _).trans Bd
    by_cases Do:0≤(Ag)
    rotate_left
    ·rw[ig Do]at H
     exact absurd H (by simp)
    rw[ip Do]at H
    have Ei:=ode Do
    clear Do
    by_cases Dp:(Ag)<(Ak.length:Int)
    rotate_left
    ·rw[ig Dp]at H
     exact absurd H (by simp)
    rw[ip Dp]at H
    have Ej:=ode Dp
    clear Dp
    obtain⟨bq25,hbq25⟩:∃b_:Bool,b_=(rdOf false Ak (Ag)):=⟨_,rfl⟩
    replace H:(if bq25=true then(some false) else(fA.l1 k3 l0 (wrap64 (Int.tdiv (wrap64 (3*(l0.length:Int))) 2)) (Ak.set ((Ag):Int).toNat true) Aa (wrap64 (Af+1))))=some r:=by rw[←hbq25]at H;exact H
    have Nbq25:=Az.mk hbq25
    clear hbq25
    by_cases Dq:bq25=true
    ·subst Dq
     rw[ip rfl]at H
     obtain rfl:=Option.some.inj H
     have Al:0≤(Aa:Int):=od
     have Am:Aa<(l0.length:Int):=od
     obtain⟨Av,Bf,Bh,Bi,Ab,Ac,Ad⟩:=at_L1 Cl.out Aa Al Am
     obtain rfl:Bc=Av:=(by injection Bi)
     replace Ab:=kc HB Ab
     have Ah:=Az.mk Ad
     have Aw:=Az.mk Ac
     clear Ad Ac
     replace Al:=ets Al
     replace Am:=ets Am
     have Ao:0≤(Af:Int):=od
     have Ap:Af<((rd_L1 l0 Aa).length:Int):=od
     obtain⟨Bo,Bj,Ae⟩:=Kd.at_int Ah.out Af Ao Ap
     cases Bj
     replace Ae:=kc HB Ae
     replace Ao:=ets Ao
     replace Ap:=ets Ap
     go_wp2_with (first|(go_at_call 49;(with_reducible refine(fW.calls (rd (rd_L1 l0 Aa) Af) (wrap64 (-(wrap64 (Int.tdiv (wrap64 (3*(l0.length:Int))) 2)))) (wrap64 (Int.tdiv (wrap64 (3*(l0.length:Int))) 2)) true _ Dm.out).mono ?_);rintro e w' ⟨rfl,⟨nd,rfl⟩⟩;obtain⟨El,Em,Dt⟩:=Kd.R_slice Aj.out;subst Dt;have Bk:0≤((Ag):Int):=od;have Bl:(Ag)<(Ak.length:Int):=od;obtain⟨Dc,Ch,Au⟩:=Kd.at_bool (Kd.R_reads' Aj.out).2.2 (Ag) Bk Bl;(try rw[←Nbq25.out]at Au);cases Ch;replace Bk:=ets Bk;replace Bl:=ets Bl))
     go_ret
     exact⟨by first|rfl|(simp[eWn,eWs] <;> rfl)|(simp only[←Ay, ←Bd];first|rfl|(simp[eWn,eWs] <;> rfl))|(simp[*,eWn,eWs] <;> rfl),bw_4⟩
    replace Dq:=Bool.eq_false_iff.mpr Dq
    subst Dq
    rw[ig ff]at H
    obtain⟨Ci,hy⟩:∃y_:List Bool,y_=(Ak.set ((Ag):Int).toNat true):=⟨_,rfl⟩
    replace H:(fA.l1 k3 l0 (wrap64 (Int.tdiv (wrap64 (3*(l0.length:Int))) 2)) Ci Aa (wrap64 (Af+1)))=some r:=rh
    have Dd:=Az.mk hy
    clear hy
    have H':=Az.mk H
    clear H
    have Al:0≤(Aa:Int):=od
    have Am:Aa<(l0.length:Int):=od
    obtain⟨Av,Bf,Bh,Bi,Ab,Ac,Ad⟩:=at_L1 Cl.out Aa Al Am
    obtain rfl:Bc=Av:=(by injection Bi)
    replace Ab:=kc HB Ab
    have Ah:=Az.mk Ad
    have Aw:=Az.mk Ac
    clear Ad Ac
    replace Al:=ets Al
    replace Am:=ets Am
    have Ao:0≤(Af:Int):=od
    have Ap:Af<((rd_L1 l0 Aa).length:Int):=od
    obtain⟨Bo,Bj,Ae⟩:=Kd.at_int Ah.out Af Ao Ap
    cases Bj
    replace Ae:=kc HB Ae
    replace Ao:=ets Ao
    replace Ap:=ets Ap
    go_wp2_with (first|(go_at_call 49;(with_reducible refine(fW.calls (rd (rd_L1 l0 Aa) Af) (wrap64 (-(wrap64 (Int.tdiv (wrap64 (3*(l0.length:Int))) 2)))) (wrap64 (Int.tdiv (wrap64 (3*(l0.length:Int))) 2)) true _ Dm.out).mono ?_);rintro e w' ⟨rfl,⟨nd,rfl⟩⟩;(try(rw[drewN_self wr];generalize hq_:World.drewN wr _=wr;have n0_:Az (Kd.R Kd.bool 4 wr w.heap.size (fun _=>True) Ca Ak):=⟨by rw[←hq_];exact(kR Aj.out)⟩;have n1_:Az (Below w.heap.size w wr):=⟨by rw[←hq_];exact bw_4⟩;clear Aj HB hq_;have Aj:=n0_;have HB:=n1_;clear n0_ n1_));obtain⟨Eo,Du,Dv⟩:=Kd.R_slice Aj.out;subst Dv;have Bk:0≤((Ag):Int):=od;have Bl:(Ag)<(Ak.length:Int):=od;obtain⟨Dc,Ch,Au⟩:=Kd.at_bool (Kd.R_reads' Aj.out).2.2 (Ag) Bk Bl;(try rw[←Nbq25.out]at Au);cases Ch;replace Bk:=ets Bk;replace Bl:=ets Bl;have Dw:0≤((Ag):Int):=od;have Dx:((Ag):Int)<((Ak.length:Int):Int):=od;obtain⟨Cj,Ep,De,Df,gl28,Er,HG28⟩:=Kd.R_form Aj.out (by omega);(first|cases De|(injection De with ea_ en_ ec_;(first|subst ea_|(injection ea_ with ea_;subst ea_));subst ec_;clear en_));have Dy:=Az.mk Df;have Es:=Az.mk HG28;clear Df gl28 HG28;(first|simp only[add_plain]at Au|skip);obtain⟨Dz,Ea⟩:=Kd.R_celln false Aj.out ((Ag):Int) Dw Dx;replace Dw:=ets Dw;replace Dx:=ets Dx;obtain⟨hy30_,hz30_⟩:=Kd.R_celln false Aj.out ((Ag):Int) (od) (od);have Ck:=Kd.R_putg Aj.out ((Ag):Int) true)|((with_reducible refine gate_store (t:=4) (p:=70) rfl ?_);refine store_event (t:=4) (p:=70) (v:=?vo_w31) (w1:=(wr.setCell ⟨Cj,((Ag):Int).toNat,none⟩ (.bool true))) ?hg ?ho ?hn ?hr ?_;(case ho=>rfl);(case hg=>rfl);(case hn=>rfl);(case hr=>first|(go_simp;done)|(go_simp;rfl));intro Eb hw;have hg:wr.grownBy Eb (some Cj):=(by rw[hw];exact Ck.2);have hp_:Kd.R Kd.bool 4 Eb w.heap.size (fun _=>True) (.slice (some ⟨Cj,0,none⟩) Ak.length Du) Ci:=(by rw[hw,Dd.out];exact Ck.1);clear Ck;replace Aj:=Az.mk (hp_);replace HB:=Az.mk ((by rw[hw];exact bwS (HB.out) Dy.out:Below w.heap.size w Eb));clear hg hw hp_))
    go_roundg k3
    case measure=>have:=Dg.out;have:=HK2.out;have:=HK3.out;omega
    case rel=>exact⟨(Ci),(wrap64 (Af+1)),rq2,H',⟨by have:=Dg.out;have:=HK2.out;have:=HK3.out;omega⟩,⟨kR Aj.out⟩,⟨bw_4⟩⟩
def mA.f (a0:Int) (a1:Int):Option (Int):=if a0>a1 then(some a0) else(some a1)
theorem mA.calls (a0:Int) (a1:Int) (r:Int) (w:World) (h:mA.f a0 a1=some r):
  Calls Try.prog 87 #[.int .i64 a0, .int .i64 a1] w fun e w'=>e= .returned (.int .i64 r)∧Drawn0 w w':=by
 have H:(if a0>a1 then(some a0) else(some a1))=some r:=h
 clear h
 by_cases c3:a0>a1
 ·rw[ip c3]at H
  have Aa:decide (a1<a0)=true:=ode c3
  clear c3
  obtain rfl:=Option.some.inj H
  go_enter Try.func87,Try.ntmps87
  go_wp2
  go_ret
  exact⟨rq2,kd⟩
 rw[ig c3]at H
 have Aa:decide (a1<a0)=false:=decide_eq_false c3
 clear c3
 obtain rfl:=Option.some.inj H
 go_enter Try.func87,Try.ntmps87
 go_wp2
 go_ret
 exact⟨rq2,kd⟩
def gF.f (a0:Int):Option (Int):=(mA.f a0 (wrap64 (-a0))).bind fun t137=>(some t137)
theorem gF.calls (a0:Int) (r:Int) (w:World) (h:gF.f a0=some r):
  Calls Try.prog 79 #[.int .i64 a0] w fun e w'=>e= .returned (.int .i64 r)∧Drawn0 w w':=by
 have H:((mA.f a0 (wrap64 (-a0))).bind fun Aa=>(some Aa))=some r:=h
 clear h
 replace H:=bez H
 obtain⟨Aa,A2,H⟩:=H
 replace H:(some Aa)=some r:=H
 obtain rfl:=Option.some.inj H
 go_enter Try.func79,Try.ntmps79
 go_wp2_with (first|((with_reducible refine gtC (f:=87) rfl ?_);refine clz Try.func87 (some 6) #[.int .i64 a0, .int .i64 (wrap64 (-a0))] ?_;(with_reducible refine(mA.calls a0 (wrap64 (-a0)) Aa _ A2.out).mono ?_);rintro e w' ⟨rfl,⟨nd,rfl⟩⟩;refine⟨_,rfl,?_⟩))
 go_ret
 exact⟨rq2,kd⟩
def gN.f (l0:List (List Int)) (l1:List Int) (a2:Int) (a3:Int):Option (Int):=if 0≤a2 then(if a2<(l0.length:Int) then(if 0≤a3 then(if a3<((rd_L1 l0 a2).length:Int) then((gF.f (rd (rd_L1 l0 a2) a3)).bind fun t140=>(if 0≤(wrap64 (t140 - 1)) then(if(wrap64 (t140 - 1))<(l1.length:Int) then(if 0≤(Int.tmod (wrap64 (a3+1)) 3) then(if(Int.tmod (wrap64 (a3+1)) 3)<((rd_L1 l0 a2).length:Int) then((gF.f (rd (rd_L1 l0 a2) (Int.tmod (wrap64 (a3+1)) 3))).bind fun t144=>(if 0≤(wrap64 (t144 - 1)) then(if(wrap64 (t144 - 1))<(l1.length:Int) then(if 0≤(Int.tmod (wrap64 (a3+2)) 3) then(if(Int.tmod (wrap64 (a3+2)) 3)<((rd_L1 l0 a2).length:Int) then((gF.f (rd (rd_L1 l0 a2) (Int.tmod (wrap64 (a3+2)) 3))).bind fun t148=>(if 0≤(wrap64 (t148 - 1)) then(if(wrap64 (t148 - 1))<(l1.length:Int) then(some (wrap64 ((wrap64 ((rd l1 (wrap64 (t140 - 1)))+(rd l1 (wrap64 (t144 - 1))))) - (rd l1 (wrap64 (t148 - 1)))))) else(none)) else(none))) else(none)) else(none)) else(none)) else(none))) else(none)) else(none)) else(none)) else(none))) else(none)) else(none)) else(none)) else(none)
theorem gN.calls (A0:Option Addr) (c0:Nat) (l0:List (List Int)) (A1:Option Addr) (c1:Nat) (l1:List Int) (a2:Int) (a3:Int) (r:Int) (w:World) (Ds:Kd.C (Kd.slice 3 (Kd.int .i64)) w A0 l0.length l0) (Dt:l0.length≤c0) (Du:Kd.C (Kd.int .i64) w A1 l1.length l1) (Dv:l1.length≤c1) (h:gN.f l0 l1 a2 a3=some r):
  Calls Try.prog 69 #[.slice A0 l0.length c0, .slice A1 l1.length c1, .int .i64 a2, .int .i64 a3] w fun e w'=>e= .returned (.int .i64 r)∧Drawn0 w w':=by
 have Dc:=Az.mk Ds
 have Ep:=Az.mk Dt
 clear Ds Dt
 have HR1:=Az.mk Du
 have Er:=Az.mk Dv
 clear Du Dv
 have H:(if 0≤a2 then(if a2<(l0.length:Int) then(if 0≤a3 then(if a3<((rd_L1 l0 a2).length:Int) then((gF.f (rd (rd_L1 l0 a2) a3)).bind fun Am=>(if 0≤(wrap64 (Am - 1)) then(if(wrap64 (Am - 1))<(l1.length:Int) then(if 0≤(Int.tmod (wrap64 (a3+1)) 3) then(if(Int.tmod (wrap64 (a3+1)) 3)<((rd_L1 l0 a2).length:Int) then((gF.f (rd (rd_L1 l0 a2) (Int.tmod (wrap64 (a3+1)) 3))).bind fun Ab=>(if 0≤(wrap64 (Ab - 1)) then(if(wrap64 (Ab - 1))<(l1.length:Int) then(if 0≤(Int.tmod (wrap64 (a3+2)) 3) then(if(Int.tmod (wrap64 (a3+2)) 3)<((rd_L1 l0 a2).length:Int) then((gF.f (rd (rd_L1 l0 a2) (Int.tmod (wrap64 (a3+2)) 3))).bind fun Aa=>(if 0≤(wrap64 (Aa - 1)) then(if(wrap64 (Aa - 1))<(l1.length:Int) then(some (wrap64 ((wrap64 ((rd l1 (wrap64 (Am - 1)))+(rd l1 (wrap64 (Ab - 1))))) - (rd l1 (wrap64 (Aa - 1)))))) else(none)) else(none))) else(none)) else(none)) else(none)) else(none))) else(none)) else(none)) else(none)) else(none))) else(none)) else(none)) else(none)) else(none))=some r:=h
 clear h
 by_cases c5:0≤a2
 rotate_left
 ·rw[ig c5]at H
  exact absurd H (by simp)
 rw[ip c5]at H
 have Ek:=ode c5
 clear c5
 by_cases c6:a2<(l0.length:Int)
 rotate_left
 ·rw[ig c6]at H
  exact absurd H (by simp)
 rw[ip c6]at H
 have El:=ode c6
 clear c6
 by_cases c7:0≤a3
 rotate_left
 ·rw[ig c7]at H
  exact absurd H (by simp)
 rw[ip c7]at H
 have Em:=ode c7
 clear c7
 by_cases c8:a3<((rd_L1 l0 a2).length:Int)
 rotate_left
 ·rw[ig c8]at H
  exact absurd H (by simp)
 rw[ip c8]at H
 have Eo:=ode c8
 clear c8
 replace H:=bez H
 obtain⟨Am,A9,H⟩:=H
 try dsimp only at H
 obtain⟨Ac,Ak⟩:∃j_:Int,(wrap64 (Am - 1))=j_:=⟨_,rfl⟩
 replace H:(if 0≤(Ac) then(if(Ac)<(l1.length:Int) then(if 0≤(Int.tmod (wrap64 (a3+1)) 3) then(if(Int.tmod (wrap64 (a3+1)) 3)<((rd_L1 l0 a2).length:Int) then((gF.f (rd (rd_L1 l0 a2) (Int.tmod (wrap64 (a3+1)) 3))).bind fun Ab=>(if 0≤(wrap64 (Ab - 1)) then(if(wrap64 (Ab - 1))<(l1.length:Int) then(if 0≤(Int.tmod (wrap64 (a3+2)) 3) then(if(Int.tmod (wrap64 (a3+2)) 3)<((rd_L1 l0 a2).length:Int) then((gF.f (rd (rd_L1 l0 a2) (Int.tmod (wrap64 (a3+2)) 3))).bind fun Aa=>(if 0≤(wrap64 (Aa - 1)) then(if(wrap64 (Aa - 1))<(l1.length:Int) then(some (wrap64 ((wrap64 ((rd l1 (Ac))+(rd l1 (wrap64 (Ab - 1))))) - (rd l1 (wrap64 (Aa - 1)))))) else(none)) else(none))) else(none)) else(none)) else(none)) else(none))) else(none)) else(none)) else(none)) else(none))=some r:=by first|(rw[Ak]at H;exact H)|(simp only[Ak]at H ⊢;exact H)
 (try rw[Ak]at A9)
 have hji10w:(IntKind.i64.wrap (Am - 1))=Ac:=(i64_w _).trans Ak
 by_cases Ce:0≤(Ac)
 rotate_left
 ·rw[ig Ce]at H
  exact absurd H (by simp)
 rw[ip Ce]at H
 have Dw:=ode Ce
 clear Ce
 by_cases Cf:(Ac)<(l1.length:Int)
 rotate_left
 ·rw[ig Cf]at H
  exact absurd H (by simp)
 rw[ip Cf]at H
 have Dx:=ode Cf
 clear Cf
 obtain⟨Af,Al⟩:∃j_:Int,(Int.tmod (wrap64 (a3+1)) 3)=j_:=⟨_,rfl⟩
 replace H:(if 0≤(Af) then(if(Af)<((rd_L1 l0 a2).length:Int) then((gF.f (rd (rd_L1 l0 a2) (Af))).bind fun Ab=>(if 0≤(wrap64 (Ab - 1)) then(if(wrap64 (Ab - 1))<(l1.length:Int) then(if 0≤(Int.tmod (wrap64 (a3+2)) 3) then(if(Int.tmod (wrap64 (a3+2)) 3)<((rd_L1 l0 a2).length:Int) then((gF.f (rd (rd_L1 l0 a2) (Int.tmod (wrap64 (a3+2)) 3))).bind fun Aa=>(if 0≤(wrap64 (Aa - 1)) then(if(wrap64 (Aa - 1))<(l1.length:Int) then(some (wrap64 ((wrap64 ((rd l1 (Ac))+(rd l1 (wrap64 (Ab - 1))))) - (rd l1 (wrap64 (Aa - 1)))))) else(none)) else(none))) else(none)) else(none)) else(none)) else(none))) else(none)) else(none))=some r:=by first|(rw[Al]at H;exact H)|(simp only[Al]at H ⊢;exact H)
 (try rw[Al]at A9)
 by_cases Cg:0≤(Af)
 rotate_left
 ·rw[ig Cg]at H
  exact absurd H (by simp)
 rw[ip Cg]at H
 have Dy:=ode Cg
 clear Cg
 by_cases Ch:(Af)<((rd_L1 l0 a2).length:Int)
 rotate_left
 ·rw[ig Ch]at H
  exact absurd H (by simp)
 rw[ip Ch]at H
 have Dz:=ode Ch
 clear Ch
 replace H:=bez H
 obtain⟨Ab,Ci,H⟩:=H
 try dsimp only at H
 obtain⟨Ad,Ah⟩:∃j_:Int,(wrap64 (Ab - 1))=j_:=⟨_,rfl⟩
 replace H:(if 0≤(Ad) then(if(Ad)<(l1.length:Int) then(if 0≤(Int.tmod (wrap64 (a3+2)) 3) then(if(Int.tmod (wrap64 (a3+2)) 3)<((rd_L1 l0 a2).length:Int) then((gF.f (rd (rd_L1 l0 a2) (Int.tmod (wrap64 (a3+2)) 3))).bind fun Aa=>(if 0≤(wrap64 (Aa - 1)) then(if(wrap64 (Aa - 1))<(l1.length:Int) then(some (wrap64 ((wrap64 ((rd l1 (Ac))+(rd l1 (Ad)))) - (rd l1 (wrap64 (Aa - 1)))))) else(none)) else(none))) else(none)) else(none)) else(none)) else(none))=some r:=by first|(rw[Ah]at H;exact H)|(simp only[Ah]at H ⊢;exact H)
 (try rw[Ah]at A9)
 (try rw[Ah]at Ci)
 have hji17w:(IntKind.i64.wrap (Ab - 1))=Ad:=(i64_w _).trans Ah
 by_cases Cj:0≤(Ad)
 rotate_left
 ·rw[ig Cj]at H
  exact absurd H (by simp)
 rw[ip Cj]at H
 have Ea:=ode Cj
 clear Cj
 by_cases Ck:(Ad)<(l1.length:Int)
 rotate_left
 ·rw[ig Ck]at H
  exact absurd H (by simp)
 rw[ip Ck]at H
 have Eb:=ode Ck
 clear Ck
 obtain⟨Ag,Ai⟩:∃j_:Int,(Int.tmod (wrap64 (a3+2)) 3)=j_:=⟨_,rfl⟩
 replace H:(if 0≤(Ag) then(if(Ag)<((rd_L1 l0 a2).length:Int) then((gF.f (rd (rd_L1 l0 a2) (Ag))).bind fun Aa=>(if 0≤(wrap64 (Aa - 1)) then(if(wrap64 (Aa - 1))<(l1.length:Int) then(some (wrap64 ((wrap64 ((rd l1 (Ac))+(rd l1 (Ad)))) - (rd l1 (wrap64 (Aa - 1)))))) else(none)) else(none))) else(none)) else(none))=some r:=by first|(rw[Ai]at H;exact H)|(simp only[Ai]at H ⊢;exact H)
 (try rw[Ai]at A9)
 (try rw[Ai]at Ci)
 by_cases Cl:0≤(Ag)
 rotate_left
 ·rw[ig Cl]at H
  exact absurd H (by simp)
 rw[ip Cl]at H
 have Ec:=ode Cl
 clear Cl
 by_cases Cm:(Ag)<((rd_L1 l0 a2).length:Int)
 rotate_left
 ·rw[ig Cm]at H
  exact absurd H (by simp)
 rw[ip Cm]at H
 have Ed:=ode Cm
 clear Cm
 replace H:=bez H
 obtain⟨Aa,Ee,H⟩:=H
 try dsimp only at H
 obtain⟨Aj,Ae⟩:∃j_:Int,(wrap64 (Aa - 1))=j_:=⟨_,rfl⟩
 replace H:(if 0≤(Aj) then(if(Aj)<(l1.length:Int) then(some (wrap64 ((wrap64 ((rd l1 (Ac))+(rd l1 (Ad)))) - (rd l1 (Aj))))) else(none)) else(none))=some r:=by first|(rw[Ae]at H;exact H)|(simp only[Ae]at H ⊢;exact H)
 (try rw[Ae]at A9)
 (try rw[Ae]at Ci)
 (try rw[Ae]at Ee)
 have hji24w:(IntKind.i64.wrap (Aa - 1))=Aj:=(i64_w _).trans Ae
 by_cases Cn:0≤(Aj)
 rotate_left
 ·rw[ig Cn]at H
  exact absurd H (by simp)
 rw[ip Cn]at H
 have Ef:=ode Cn
 clear Cn
 by_cases Co:(Aj)<(l1.length:Int)
 rotate_left
 ·rw[ig Co]at H
  exact absurd H (by simp)
 rw[ip Co]at H
 have Eg:=ode Co
 clear Co
 obtain rfl:=Option.some.inj H
 have Bh:0≤(a2:Int):=od
 have Bi:a2<(l0.length:Int):=od
 obtain⟨Bd,Dd,De,Df,Ao,Ap,Aq⟩:=at_L1 Dc.out a2 Bh Bi
 cases Df
 have Ax:=Az.mk Aq
 have Cp:=Az.mk Ap
 clear Aq Ap
 replace Bh:=ets Bh
 replace Bi:=ets Bi
 have Bj:0≤(a3:Int):=od
 have Bk:a3<((rd_L1 l0 a2).length:Int):=od
 obtain⟨Eh,Dg,Cq⟩:=Kd.at_int Ax.out a3 Bj Bk
 cases Dg
 replace Bj:=ets Bj
 replace Bk:=ets Bk
 go_enter Try.func69,Try.ntmps69
 go_wp2_with (first|((with_reducible refine gtC (f:=79) rfl ?_);refine clz Try.func79 (some 20) #[.int .i64 (rd (rd_L1 l0 a2) a3)] ?_;(with_reducible refine(gF.calls (rd (rd_L1 l0 a2) a3) Am _ A9.out).mono ?_);rintro e w' ⟨rfl,⟨nd,rfl⟩⟩;refine⟨_,rfl,?_⟩;have Bl:0≤((Ac):Int):=od;have Bm:(Ac)<(l1.length:Int):=od;obtain⟨Bf,Dh,Cs⟩:=Kd.at_int HR1.out (Ac) Bl Bm;cases Dh;replace Bl:=ets Bl;replace Bm:=ets Bm;have Bn:0≤(a2:Int):=od;have Bo:a2<(l0.length:Int):=od;obtain⟨Bz,Di,Dj,Dk,Ay,As,Au⟩:=at_L1 Dc.out a2 Bn Bo;obtain rfl:Bd=Bz:=(by injection Dk);have Ba:=Az.mk Au;have Ct:=Az.mk As;clear Au As;replace Bn:=ets Bn;replace Bo:=ets Bo;have ea_:=Option.some.inj (Ao.symm.trans Ay);injection ea_ with ea_ en_ ec_;subst ea_;subst ec_;clear en_;have Bp:0≤((Af):Int):=od;have Bq:(Af)<((rd_L1 l0 a2).length:Int):=od;obtain⟨Ei,Dl,Cu⟩:=Kd.at_int Ba.out (Af) Bp Bq;cases Dl;replace Bp:=ets Bp;replace Bq:=ets Bq)|((with_reducible refine gtC (f:=79) rfl ?_);refine goesL_ (some 34) rfl rfl Try.func79 (by kernel_rfl) rfl #[.int .i64 (rd (rd_L1 l0 a2) (Af))] rfl (by(try simp only[List.map_toArray,List.map_cons,List.map_nil]);first|done|(simp only[Al];rfl)|rfl|(simp only[List.length_drop,List.length_take];rfl)) ?_;(with_reducible refine(gF.calls (rd (rd_L1 l0 a2) (Af)) Ab _ Ci.out).mono ?_);rintro e w' ⟨rfl,⟨nd,rfl⟩⟩;refine⟨_,rfl,?_⟩;have Br:0≤((Ad):Int):=od;have Bs:(Ad)<(l1.length:Int):=od;obtain⟨Ca,Dm,Cv⟩:=Kd.at_int HR1.out (Ad) Br Bs;obtain rfl:Bf=Ca:=(by injection Dm);replace Br:=ets Br;replace Bs:=ets Bs;have Bt:0≤(a2:Int):=od;have Bu:a2<(l0.length:Int):=od;obtain⟨Cc,Dn,Do,Dp,Bb,Av,Aw⟩:=at_L1 Dc.out a2 Bt Bu;obtain rfl:Bd=Cc:=(by injection Dp);have Bc:=Az.mk Aw;have Cw:=Az.mk Av;clear Aw Av;replace Bt:=ets Bt;replace Bu:=ets Bu;have ea_:=Option.some.inj (Ao.symm.trans Bb);injection ea_ with ea_ en_ ec_;subst ea_;subst ec_;clear en_;have Bv:0≤((Ag):Int):=od;have Bw:(Ag)<((rd_L1 l0 a2).length:Int):=od;obtain⟨Ej,Dq,Da⟩:=Kd.at_int Bc.out (Ag) Bv Bw;cases Dq;replace Bv:=ets Bv;replace Bw:=ets Bw)|((with_reducible refine gtC (f:=79) rfl ?_);refine goesL_ (some 48) rfl rfl Try.func79 (by kernel_rfl) rfl #[.int .i64 (rd (rd_L1 l0 a2) (Ag))] rfl (by(try simp only[List.map_toArray,List.map_cons,List.map_nil]);first|done|(simp only[Ai];rfl)|rfl|(simp only[List.length_drop,List.length_take];rfl)) ?_;(with_reducible refine(gF.calls (rd (rd_L1 l0 a2) (Ag)) Aa _ Ee.out).mono ?_);rintro e w' ⟨rfl,⟨nd,rfl⟩⟩;refine⟨_,rfl,?_⟩;have Bx:0≤((Aj):Int):=od;have By:(Aj)<(l1.length:Int):=od;obtain⟨Cd,Dr,Db⟩:=Kd.at_int HR1.out (Aj) Bx By;obtain rfl:Bf=Cd:=(by injection Dr);replace Bx:=ets Bx;replace By:=ets By))
 go_ret
 exact⟨by first|rfl|(simp;done)|(simp only[←Ak, ←Al, ←Ah, ←Ai, ←Ae] <;> (first|rfl|simp))|(simp[*];done),kd⟩
theorem bw_6 {n:Nat}{v v':World} (h:Below n v v':=by repeat(first|(with_reducible first|exact HB.out|apply bwA|apply pbN|apply bwD)|exact HB.out)):Below n v v':=h
theorem ln_6 {P:Prop} (h:P:=by(try simp only[List.map_toArray,List.map_cons,List.map_nil]);first|done|rfl|(simp only[List.length_drop,List.length_take];rfl)):P:=h
mutual
def fL.j0:Nat→List (List Int)→List Int→Bool→Option (Bool)
 |0,_,_,_=>none
 |k+1,x0,x1,x20=>if x20=true then(some false) else(fL.l0 k x0 x1 0)
def fL.l0:Nat→List (List Int)→List Int→Int→Option (Bool)
 |0,_,_,_=>none
 |k+1,x0,x1,x5=>if x5<(x1.length:Int) then(if 0≤x5 then((fW.f (rd x1 x5) 0 200).bind fun t152=>(if t152=true then(fL.l0 k x0 x1 (wrap64 (x5+1))) else(some false))) else(none)) else(fL.l1 k x0 x1 0)
def fL.l1:Nat→List (List Int)→List Int→Int→Option (Bool)
 |0,_,_,_=>none
 |k+1,x0,x1,x6=>if x6<(x0.length:Int) then(fL.l2 k x0 x1 x6 0) else(some true)
def fL.l2:Nat→List (List Int)→List Int→Int→Int→Option (Bool)
 |0,_,_,_,_=>none
 |k+1,x0,x1,x6,x7=>if x7<3 then((gN.f x0 x1 x6 x7).bind fun t153=>(if t153<0 then(some false) else(if(Int.tmod t153 2)=0 then(fL.l2 k x0 x1 x6 (wrap64 (x7+1))) else(some false)))) else(fL.l1 k x0 x1 (wrap64 (x6+1)))
end
def fL.f (k:Nat) (l0:List (List Int)) (l1:List Int):Option (Bool):=(fA.f k l0).bind fun t150=>(if t150=true then(fL.j0 k l0 l1 ((l1.length:Int) != (wrap64 (Int.tdiv (wrap64 (3*(l0.length:Int))) 2)))) else(fL.j0 k l0 l1 true))
theorem fL.calls (k:Nat) (A0:Option Addr) (c0:Nat) (l0:List (List Int)) (A1:Option Addr) (c1:Nat) (l1:List Int) (r:Bool) (w:World) (Bp:Kd.C (Kd.slice 3 (Kd.int .i64)) w A0 l0.length l0) (Bq:l0.length≤c0) (Br:Kd.C (Kd.int .i64) w A1 l1.length l1) (Bs:l1.length≤c1) (h:fL.f k l0 l1=some r):
  Calls Try.prog 27 #[.slice A0 l0.length c0, .slice A1 l1.length c1] w fun e w'=>e= .returned (.bool r)∧Below w.heap.size w w':=by
 have Bc:=Az.mk Bp
 have Bd:=Az.mk Bq
 clear Bp Bq
 have HR1:=Az.mk Br
 have Bl:=Az.mk Bs
 clear Br Bs
 have HB:=Az.mk (Below.refl w.heap.size w)
 have H:((fA.f k l0).bind fun Ap=>(if Ap=true then(fL.j0 k l0 l1 ((l1.length:Int) != (wrap64 (Int.tdiv (wrap64 (3*(l0.length:Int))) 2)))) else(fL.j0 k l0 l1 true)))=some r:=h
 clear h
 have Bm:=Az.mk H
 clear H
 go_enter Try.func27,Try.ntmps27
 go_upto_region 1 with (fail)
 go_cut [20] (fun Bv wc=>∃(kq:Nat) (Ak:Bool),Bv= .bool Ak∧Az (fL.j0 kq l0 l1 Ak=some r)∧Az (kq≤k)∧Az (Below w.heap.size w wc))
 case first=>
  have H:=Bm.out
  clear Bm
  replace H:=bez H
  obtain⟨Ap,A4,H⟩:=H
  try dsimp only at H
  by_cases c5:Ap=true
  ·subst c5
   rw[ip rfl]at H
   have H':=Az.mk H
   clear H
   go_wp2_with (first|((with_reducible refine gtC (f:=31) rfl ?_);refine clz Try.func31 (some 10) #[.slice A0 l0.length c0] ?_;(with_reducible refine(fA.calls k _ _ l0 true _ ?Ac ?Ad A4.out).mono ?_);(case Ac=>exact kC (Kd.C_below Bc.out HB.out));(case Ad=>exact Bd.out);rintro e w6 ⟨rfl,hb⟩;refine⟨_,rfl,?_⟩;replace HB:=Az.mk (bwT bw_6 hb);(try clear hb)))
   go_meet
   case rel=>exact⟨_,(((l1.length:Int) != (wrap64 (Int.tdiv (wrap64 (3*(l0.length:Int))) 2)))),rq2,H',⟨by first|omega|exact Nat.le_refl _⟩,⟨bw_6⟩⟩
  replace c5:=Bool.eq_false_iff.mpr c5
  subst c5
  rw[ig ff]at H
  have H':=Az.mk H
  clear H
  go_wp2_with (first|((with_reducible refine gtC (f:=31) rfl ?_);refine clz Try.func31 (some 10) #[.slice A0 l0.length c0] ?_;(with_reducible refine(fA.calls k _ _ l0 false _ ?Ac ?Ad A4.out).mono ?_);(case Ac=>exact kC (Kd.C_below Bc.out HB.out));(case Ad=>exact Bd.out);rintro e w7 ⟨rfl,hb⟩;refine⟨_,rfl,?_⟩;replace HB:=Az.mk (bwT bw_6 hb);(try clear hb)))
  go_meet
  case rel=>exact⟨_,(true),rq2,H',⟨by first|omega|exact Nat.le_refl _⟩,⟨bw_6⟩⟩
 clear Bm
 try clear c1
 try clear c5
 obtain⟨kq,Ak,rfl,HA,Aw,HB⟩:=hcut
 cases kq with
 |zero=>exact absurd HA.out (by simp[fL.j0])
 |succ Bt=>
  have H:=HA.out
  clear HA
  simp only[fL.j0]at H
  by_cases c8:Ak=true
  ·subst c8
   rw[ip rfl]at H
   obtain rfl:=Option.some.inj H
   go_wp2
   go_ret
   exact⟨rq1,bw_6⟩
  replace c8:=Bool.eq_false_iff.mpr c8
  subst c8
  rw[ig ff]at H
  have H':=Az.mk H
  clear H
  go_wp2
  go_loopg [5] Bt (fun kq v5 w'=>∃(Ab:Int),v5= .int .i64 Ab∧Az (fL.l0 kq l0 l1 Ab=some r)∧Az (kq≤Bt)∧Az (Below w.heap.size w w'))
  case atStart=>exact⟨(0),rq2,H',⟨Nat.le_refl _⟩,⟨bw_6⟩⟩
  clear H'
  try clear c1
  try clear c5
  try clear c8
  obtain⟨Ab,rfl,HA,HK2,HB⟩:=hrel
  cases gk with
  |zero=>exact absurd HA.out (by simp[fL.l0])
  |succ k2=>
   have H:=HA.out
   clear HA
   simp only[fL.l0]at H
   by_cases c9:Ab<(l1.length:Int)
   ·rw[ip c9]at H
    have Aq:=ode c9
    clear c9
    by_cases Ax:0≤Ab
    rotate_left
    ·rw[ig Ax]at H
     exact absurd H (by simp)
    rw[ip Ax]at H
    have Am:=ode Ax
    clear Ax
    replace H:=bez H
    obtain⟨Bn,Bu,H⟩:=H
    try dsimp only at H
    by_cases Ay:Bn=true
    rotate_left
    ·replace Ay:=Bool.eq_false_iff.mpr Ay
     subst Ay
     rw[ig ff]at H
     obtain rfl:=Option.some.inj H
     have Ag:0≤(Ab:Int):=od
     have Ah:Ab<(l1.length:Int):=od
     obtain⟨Bf,As,Aa⟩:=Kd.at_int HR1.out Ab Ag Ah
     cases As
     replace Aa:=kc HB Aa
     replace Ag:=ets Ag
     replace Ah:=ets Ah
     go_wp2_with (first|((with_reducible refine gtC (f:=49) rfl ?_);refine clz Try.func49 (some 31) #[.int .i64 (rd l1 Ab), .int .i64 0, .int .i64 200] ?_;(with_reducible refine(fW.calls (rd l1 Ab) 0 200 false _ Bu.out).mono ?_);rintro e w' ⟨rfl,⟨nd,rfl⟩⟩;refine⟨_,rfl,?_⟩))
     go_ret
     exact⟨rq1,bw_6⟩
    subst Ay
    rw[ip rfl]at H
    have H':=Az.mk H
    clear H
    have Ag:0≤(Ab:Int):=od
    have Ah:Ab<(l1.length:Int):=od
    obtain⟨Bf,As,Aa⟩:=Kd.at_int HR1.out Ab Ag Ah
    cases As
    replace Aa:=kc HB Aa
    replace Ag:=ets Ag
    replace Ah:=ets Ah
    go_wp2_with (first|((with_reducible refine gtC (f:=49) rfl ?_);refine clz Try.func49 (some 31) #[.int .i64 (rd l1 Ab), .int .i64 0, .int .i64 200] ?_;(with_reducible refine(fW.calls (rd l1 Ab) 0 200 true _ Bu.out).mono ?_);rintro e w' ⟨rfl,⟨nd,rfl⟩⟩;refine⟨_,rfl,?_⟩))
    go_roundg k2
    case measure=>have:=Aw.out;have:=HK2.out;omega
    case rel=>exact⟨(wrap64 (Ab+1)),rq2,H',⟨by have:=Aw.out;have:=HK2.out;omega⟩,⟨bw_6⟩⟩
   rw[ig c9]at H
   have Aq:=decide_eq_false c9
   clear c9
   have H':=Az.mk H
   clear H
   go_wp2
   go_loopg [6] k2 (fun kq v6 w'=>∃(Ae:Int),v6= .int .i64 Ae∧Az (fL.l1 kq l0 l1 Ae=some r)∧Az (kq≤k2)∧Az (Below w.heap.size w w'))
   case atStart=>exact⟨(0),rq2,H',⟨Nat.le_refl _⟩,⟨bw_6⟩⟩
   clear H'
   try clear c1
   try clear c5
   try clear c8
   try clear c9
   try clear Aq
   try clear Ax
   try clear Am
   try clear Ay
   try clear Aa
   try clear Ag
   try clear Ah
   obtain⟨Ae,rfl,HA,HK3,HB⟩:=hrel
   cases gk with
   |zero=>exact absurd HA.out (by simp[fL.l1])
   |succ k3=>
    have H:=HA.out
    clear HA
    simp only[fL.l1]at H
    by_cases Au:Ae<(l0.length:Int)
    rotate_left
    ·rw[ig Au]at H
     have Ao:=decide_eq_false Au
     clear Au
     obtain rfl:=Option.some.inj H
     go_wp2
     go_ret
     exact⟨rq1,bw_6⟩
    rw[ip Au]at H
    have Ao:=ode Au
    clear Au
    have H':=Az.mk H
    clear H
    go_wp2
    go_loopg [7] k3 (fun kq v7 w'=>∃(Af:Int),v7= .int .i64 Af∧Az (fL.l2 kq l0 l1 Ae Af=some r)∧Az (kq≤k3)∧Az (Below w.heap.size w w'))
    case atStart=>exact⟨(0),rq2,H',⟨Nat.le_refl _⟩,⟨bw_6⟩⟩
    clear H'
    try clear c1
    try clear c5
    try clear c8
    try clear c9
    try clear Aq
    try clear Ax
    try clear Am
    try clear Ay
    try clear Au
    try clear Ao
    try clear Aa
    try clear Ag
    try clear Ah
    obtain⟨Af,rfl,HA,HK4,HB⟩:=hrel
    cases gk with
    |zero=>exact absurd HA.out (by simp[fL.l2])
    |succ k4=>
     have H:=HA.out
     clear HA
     simp only[fL.l2]at H
     by_cases Ba:Af<3
     rotate_left
     ·rw[ig Ba]at H
      have Bh:=decide_eq_false Ba
      clear Ba
      have H':=Az.mk H
      clear H
      go_wp2
      go_roundg k4
      case measure=>have:=Aw.out;have:=HK2.out;have:=HK3.out;have:=HK4.out;omega
      case rel=>exact⟨(wrap64 (Ae+1)),rq2,H',⟨by have:=Aw.out;have:=HK2.out;have:=HK3.out;have:=HK4.out;omega⟩,⟨bw_6⟩⟩
     rw[ip Ba]at H
     have Bh:=ode Ba
     clear Ba
     replace H:=bez H
     obtain⟨Al,Bo,H⟩:=H
     try dsimp only at H
     by_cases Bb:Al<0
     ·rw[ip Bb]at H
      have Bi:=ode Bb
      clear Bb
      obtain rfl:=Option.some.inj H
      go_wp2_with (first|((with_reducible refine gtC (f:=69) rfl ?_);refine clz Try.func69 (some 47) #[.slice A0 l0.length c0, .slice A1 l1.length c1, .int .i64 Ae, .int .i64 Af] ?_;(with_reducible refine(gN.calls _ _ l0 _ _ l1 Ae Af Al _ ?Ac ?Ad ?Ai ?Aj Bo.out).mono ?_);(case Ac=>exact kC (Kd.C_below Bc.out HB.out));(case Ad=>exact Bd.out);(case Ai=>exact kC (Kd.C_below HR1.out HB.out));(case Aj=>exact Bl.out);rintro e w' ⟨rfl,⟨nd,rfl⟩⟩;refine⟨_,rfl,?_⟩))
      go_ret
      exact⟨rq1,bw_6⟩
     rw[ig Bb]at H
     have Bi:=decide_eq_false Bb
     clear Bb
     by_cases Av:(Int.tmod Al 2)=0
     rotate_left
     ·rw[ig Av]at H
      have Bj:=beq_eq_false_iff_ne.mpr Av
      have Bk:=bne_iff_ne.mpr Av
      obtain rfl:=Option.some.inj H
      go_wp2_with (first|((with_reducible refine gtC (f:=69) rfl ?_);refine clz Try.func69 (some 47) #[.slice A0 l0.length c0, .slice A1 l1.length c1, .int .i64 Ae, .int .i64 Af] ?_;(with_reducible refine(gN.calls _ _ l0 _ _ l1 Ae Af Al _ ?Ac ?Ad ?Ai ?Aj Bo.out).mono ?_);(case Ac=>exact kC (Kd.C_below Bc.out HB.out));(case Ad=>exact Bd.out);(case Ai=>exact kC (Kd.C_below HR1.out HB.out));(case Aj=>exact Bl.out);rintro e w' ⟨rfl,⟨nd,rfl⟩⟩;refine⟨_,rfl,?_⟩))
      go_ret
      exact⟨rq1,bw_6⟩
     rw[ip Av]at H
     have Bj:=beq_iff_eq.mpr Av
     have Bk:=bne_eq_false_iff_eq.mpr Av
     clear Av
     have H':=Az.mk H
     clear H
     go_wp2_with (first|((with_reducible refine gtC (f:=69) rfl ?_);refine clz Try.func69 (some 47) #[.slice A0 l0.length c0, .slice A1 l1.length c1, .int .i64 Ae, .int .i64 Af] ?_;(with_reducible refine(gN.calls _ _ l0 _ _ l1 Ae Af Al _ ?Ac ?Ad ?Ai ?Aj Bo.out).mono ?_);(case Ac=>exact kC (Kd.C_below Bc.out HB.out));(case Ad=>exact Bd.out);(case Ai=>exact kC (Kd.C_below HR1.out HB.out));(case Aj=>exact Bl.out);rintro e w' ⟨rfl,⟨nd,rfl⟩⟩;refine⟨_,rfl,?_⟩))
     go_roundg k4
     case measure=>have:=Aw.out;have:=HK2.out;have:=HK3.out;have:=HK4.out;omega
     case rel=>exact⟨(wrap64 (Af+1)),rq2,H',⟨by have:=Aw.out;have:=HK2.out;have:=HK3.out;have:=HK4.out;omega⟩,⟨bw_6⟩⟩
theorem bw_7 {n:Nat}{v v':World} (h:Below n v v':=by repeat(first|(with_reducible first|exact HB.out|apply bwA|apply pbN|apply bwD)|exact HB.out)):Below n v v':=h
def gL.l0:Nat→ByteArray→Int→List ByteArray→Int→Int→Option (List ByteArray)
 |0,_,_,_,_,_=>none
 |k+1,x0,x1,x5,x6,x7=>if x7≤(x0.size:Int) then(if x7=(x0.size:Int) then(if 0≤x6 then(if x6≤x7 then(if x5.length<8796093022208 then(gL.l0 k x0 x1 (x5 ++ [x0.extract (x6:Int).toNat (x7:Int).toNat]) (wrap64 (x7+1)) (wrap64 (x7+1))) else(none)) else(none)) else(none)) else(if 0≤x7 then(if x7<(x0.size:Int) then(if(bt x0 x7)=x1 then(if 0≤x6 then(if x6≤x7 then(if x5.length<8796093022208 then(gL.l0 k x0 x1 (x5 ++ [x0.extract (x6:Int).toNat (x7:Int).toNat]) (wrap64 (x7+1)) (wrap64 (x7+1))) else(none)) else(none)) else(none)) else(gL.l0 k x0 x1 x5 x6 (wrap64 (x7+1)))) else(none)) else(none))) else(some x5)
def gL.f (k:Nat) (a0:ByteArray) (a1:Int):Option (List ByteArray):=gL.l0 k a0 a1 (([]:List ByteArray)) 0 0
theorem gL.calls (k:Nat) (a0:ByteArray) (a1:Int) (r:List ByteArray) (w:World) (h:gL.f k a0 a1=some r):
  Calls Try.prog 45 #[.string a0, .int .u8 a1] w fun e w'=>∃v0_:Value,e= .returned (v0_)∧Kd.R Kd.string 9 w' w.heap.size (fun _=>True) v0_ r∧Below w.heap.size w w':=by
 have HB:=Az.mk (Below.refl w.heap.size w)
 have H:(gL.l0 k a0 a1 (([]:List ByteArray)) 0 0)=some r:=h
 clear h
 obtain⟨Ag,hy⟩:∃y_:List ByteArray,y_=(([]:List ByteArray)):=⟨_,rfl⟩
 replace H:(gL.l0 k a0 a1 Ag 0 0)=some r:=rh
 have Ae:=Az.mk hy
 clear hy
 have H':=Az.mk H
 clear H
 go_enter Try.func45,Try.ntmps45
 go_wp2_with (first|((with_reducible refine gtD (N:=8) rfl ?_);refine Kd.R_lit Kd.string _ 9 ?hg (N:=8) ?hd (xs:=([]:List ByteArray)) (inner:=[]) (ok:=fun _=>True) (okp:=fun _=>True) ?hr ?hp (fun _ hk=>hk) trivial (Below.refl _ _) (Nat.le_refl _) (by simp) ?_;(case hd=>rfl);(case hg=>rfl);(case hr=>first|(go_simp;done)|(go_simp;rfl));(case hp=>exact(Reps.none _ _));intro Bq w3 Ah hb hg_ hnew_;clear hg_ hnew_;(first|rw[←Ae.out]at Ah|(simp only[Int.reduceToNat]at Ah;rw[←Ae.out]at Ah));have Ai:=Az.mk (Kd.R_lower Ah (bwZ bw_7));replace HB:=Az.mk (bwT bw_7 hb);clear hb Ah))
 go_loopg [5,6,7] k (fun kq v5 v6 v7 w'=>∃(Ac:List ByteArray) (Ab:Int) (Aa:Int),v6= .int .i64 Ab∧v7= .int .i64 Aa∧Az (gL.l0 kq a0 a1 Ac Ab Aa=some r)∧Az (kq≤k)∧Az (Kd.R Kd.string 9 w' w.heap.size (fun _=>True) v5 Ac)∧Az (Below w.heap.size w w'))
 case atStart=>exact⟨(Ag),(0),(0),rq2,rq2,H',⟨Nat.le_refl _⟩,⟨kR Ai.out⟩,⟨bw_7⟩⟩
 clear H'
 obtain⟨Ac,Ab,Aa,rfl,rfl,HA,HK1,Ad,HB⟩:=hrel
 cases gk with
 |zero=>exact absurd HA.out (by simp[gL.l0])
 |succ k1=>
  have H:=HA.out
  clear HA
  simp only[gL.l0]at H
  by_cases c5:Aa≤(a0.size:Int)
  rotate_left
  ·rw[ig c5]at H
   have Bd:=decide_eq_false c5
   clear c5
   obtain rfl:=Option.some.inj H
   go_wp2
   go_ret
   exact⟨_,rq1,kR Ad.out,bw_7⟩
  rw[ip c5]at H
  have Bd:=ode c5
  clear c5
  by_cases c6:Aa=(a0.size:Int)
  ·rw[ip c6]at H
   have Bf:=beq_iff_eq.mpr c6
   have Bh:=bne_eq_false_iff_eq.mpr c6
   clear c6
   by_cases c7:0≤Ab
   rotate_left
   ·rw[ig c7]at H
    exact absurd H (by simp)
   rw[ip c7]at H
   have Br:=ets c7
   have Bs:=ode c7
   clear c7
   by_cases c8:Ab≤Aa
   rotate_left
   ·rw[ig c8]at H
    exact absurd H (by simp)
   rw[ip c8]at H
   have Bt:=ets c8
   have Bu:=ode c8
   clear c8
   have Bv:=ets (od:Aa≤(a0.size:Int))
   by_cases Ay:Ac.length<8796093022208
   rotate_left
   ·rw[ig Ay]at H
    exact absurd H (by simp)
   rw[ip Ay]at H
   have LMc10:=Az.mk Ay
   clear Ay
   obtain⟨Aj,hy⟩:∃y_:List ByteArray,y_=(Ac ++ [a0.extract (Ab:Int).toNat (Aa:Int).toNat]):=⟨_,rfl⟩
   replace H:(gL.l0 k1 a0 a1 Aj (wrap64 (Aa+1)) (wrap64 (Aa+1)))=some r:=rh
   have Ak:=Az.mk hy
   clear hy
   have H':=Az.mk H
   clear H
   go_wp2_with (first|((with_reducible refine gate_builtin (b:= .append) (xs:= #[.tmp 26, .tmp 31]) rfl ?_);at_builtin;refine Kd.R_append Kd.string (w0:=w) w.heap.size rfl (.tmp 26) (.tmp 31) 67 9 (.string ⟨#[]⟩) 16 rfl Try.underlying67 info9 rfl (by decide) (by omega) u5 Ac (a0.extract (Ab:Int).toNat (Aa:Int).toNat) [.string (a0.extract (Ab:Int).toNat (Aa:Int).toNat)] (fun _=>True) (fun _=>False) rfl rfl ?aP (fun _ hk=>hk.elim) ?aF ?aO ?aB ?aS ?aL ?_;(case aP=>exact rfl);(case aB=>exact bw_7);(case aF=>exact(fun _ _=>trivial));(case aO=>exact(kR Ad.out));(case aS=>exact(bwZ bw_7));(case aL=>have:=LMc10.out;omega);intro Bw By ho hb hg hat;rw[←Ak.out]at ho;have n0_:=Az.mk (hb);have n1_:=Az.mk (ho);clear HB;clear Ad;have HB:=n0_;have Al:=n1_;clear n0_ n1_;clear ho hb hg hat))
   go_roundg k1
   case measure=>have:=HK1.out;omega
   case rel=>exact⟨(Aj),(wrap64 (Aa+1)),(wrap64 (Aa+1)),rq2,rq2,H',⟨by have:=HK1.out;omega⟩,⟨kR Al.out⟩,⟨bw_7⟩⟩
  rw[ig c6]at H
  have Bf:=beq_eq_false_iff_ne.mpr c6
  have Bh:=bne_iff_ne.mpr c6
  by_cases Ba:0≤Aa
  rotate_left
  ·rw[ig Ba]at H
   exact absurd H (by simp)
  rw[ip Ba]at H
  have Bj:=ode Ba
  clear Ba
  by_cases Bb:Aa<(a0.size:Int)
  rotate_left
  ·rw[ig Bb]at H
   exact absurd H (by simp)
  rw[ip Bb]at H
  have Bk:=ode Bb
  clear Bb
  by_cases Af:(bt a0 Aa)=a1
  rotate_left
  ·rw[ig Af]at H
   have Am:=beq_eq_false_iff_ne.mpr Af
   have Ao:=bne_iff_ne.mpr Af
   have H':=Az.mk H
   clear H
   have Ap:0≤(Aa:Int):=od
   have Aq:Aa<(a0.size:Int):=od
   have Bi:=bt_at a0 Aa
   replace Ap:=ets Ap
   replace Aq:=ets Aq
   go_wp2
   go_roundg k1
   case measure=>have:=HK1.out;omega
   case rel=>exact⟨(Ac),(Ab),(wrap64 (Aa+1)),rq2,rq2,H',⟨by have:=HK1.out;omega⟩,⟨kR Ad.out⟩,⟨bw_7⟩⟩
  rw[ip Af]at H
  have Am:=beq_iff_eq.mpr Af
  have Ao:=bne_eq_false_iff_eq.mpr Af
  clear Af
  by_cases As:0≤Ab
  rotate_left
  ·rw[ig As]at H
   exact absurd H (by simp)
  rw[ip As]at H
  have Bl:=ets As
  have Bm:=ode As
  clear As
  by_cases Au:Ab≤Aa
  rotate_left
  ·rw[ig Au]at H
   exact absurd H (by simp)
  rw[ip Au]at H
  have Bn:=ets Au
  have Bo:=ode Au
  clear Au
  have Bp:=ets (od:Aa≤(a0.size:Int))
  by_cases Bc:Ac.length<8796093022208
  rotate_left
  ·rw[ig Bc]at H
   exact absurd H (by simp)
  rw[ip Bc]at H
  have LMc19:=Az.mk Bc
  clear Bc
  obtain⟨Av,hy⟩:∃y_:List ByteArray,y_=(Ac ++ [a0.extract (Ab:Int).toNat (Aa:Int).toNat]):=⟨_,rfl⟩
  replace H:(gL.l0 k1 a0 a1 Av (wrap64 (Aa+1)) (wrap64 (Aa+1)))=some r:=rh
  have Aw:=Az.mk hy
  clear hy
  have H':=Az.mk H
  clear H
  have Ap:0≤(Aa:Int):=od
  have Aq:Aa<(a0.size:Int):=od
  have Bi:=bt_at a0 Aa
  replace Ap:=ets Ap
  replace Aq:=ets Aq
  go_wp2_with (first|((with_reducible refine gate_builtin (b:= .append) (xs:= #[.tmp 26, .tmp 31]) rfl ?_);at_builtin;refine Kd.R_append Kd.string (w0:=w) w.heap.size rfl (.tmp 26) (.tmp 31) 67 9 (.string ⟨#[]⟩) 16 rfl Try.underlying67 info9 rfl (by decide) (by omega) u5 Ac (a0.extract (Ab:Int).toNat (Aa:Int).toNat) [.string (a0.extract (Ab:Int).toNat (Aa:Int).toNat)] (fun _=>True) (fun _=>False) rfl rfl ?aP (fun _ hk=>hk.elim) ?aF ?aO ?aB ?aS ?aL ?_;(case aP=>exact rfl);(case aB=>exact bw_7);(case aF=>exact(fun _ _=>trivial));(case aO=>exact(kR Ad.out));(case aS=>exact(bwZ bw_7));(case aL=>have:=LMc19.out;omega);intro Bx Bz ho hb hg hat;rw[←Aw.out]at ho;have n0_:=Az.mk (hb);have n1_:=Az.mk (ho);clear HB;clear Ad;have HB:=n0_;have Ax:=n1_;clear n0_ n1_;clear ho hb hg hat))
  go_roundg k1
  case measure=>have:=HK1.out;omega
  case rel=>exact⟨(Av),(wrap64 (Aa+1)),(wrap64 (Aa+1)),rq2,rq2,H',⟨by have:=HK1.out;omega⟩,⟨kR Ax.out⟩,⟨bw_7⟩⟩
end Go.Proofs.Ytflbpjijgnmklaa.P

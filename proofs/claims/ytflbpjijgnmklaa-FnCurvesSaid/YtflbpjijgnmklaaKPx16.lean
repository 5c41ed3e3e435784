-- The walks, cut and laid together by this session's tools (prune.py, sq2.py, min.py: shorter names, no needless spaces). Not trusted: Lean checks it.
import Derived.Test.YtflbpjijgnmklaaKWZip
import Derived.Test.YtflbpjijgnmklaaKPx12
namespace Go.Proofs.Ytflbpjijgnmklaa.P
open Go.RowKit Go.Proofs.YtflbpjijgnmklaaW.PrintWords Go.Proofs.YtflbpjijgnmklaaW.PrintLast Go.Proofs.YtflbpjijgnmklaaW.PrintMore
attribute [local go_sem] max2_int min2_int max_two min_two max_three min_three max_four min_four   -- for this text's walks alone
set_option linter.unusedVariables false
set_option linter.unusedSimpArgs false
set_option maxHeartbeats 8000000
set_option maxRecDepth 100000
open Option renaming bind_eq_some_iff → be
section
open Bool renaming true → T, false → F
theorem z16_0 {p:Prop} (h:p:=by kernel_rfl):p:=h
theorem bw_16 {n:Nat}{v v':World} (h:Below n v v':=by repeat(first|(with_reducible first|exact HB.out|apply bwA|apply pbN|apply bwD)|exact HB.out)):Below n v v':=h
theorem ln_16 {P:Prop} (h:P:=by(try simp only[List.map_toArray,List.map_cons,List.map_nil]);first|done|rfl|(simp only[List.length_drop,List.length_take];rfl)):P:=h
mutual
def fH.j0:Nat→List (List Int)→List Int→Bool→Option (Bool)
 |0,_,_,_=>none
 |k+1,x0,x1,x26=>if x26=true then(some false) else(fH.l0 k x1 x0 (x0.length:Int) 0)
def fH.l0:Nat→List Int→List (List Int)→Int→Int→Option (Bool)
 |0,_,_,_,_=>none
 |k+1,x1,x27,x28,x29=>if x29<x28 then(if 0≤x29 then(if x29<(x27.length:Int) then(if 0<((rd_L1 x27 x29).length:Int) then((gP.f (rd (rd_L1 x27 x29) 0)).bind fun t343=>(if 0≤(wrap64 (t343 - 1)) then(if(wrap64 (t343 - 1))<(x1.length:Int) then(if 1<((rd_L1 x27 x29).length:Int) then((gP.f (rd (rd_L1 x27 x29) 1)).bind fun t346=>(if 0≤(wrap64 (t346 - 1)) then(if(wrap64 (t346 - 1))<(x1.length:Int) then(if 2<((rd_L1 x27 x29).length:Int) then((gP.f (rd (rd_L1 x27 x29) 2)).bind fun t349=>(if 0≤(wrap64 (t349 - 1)) then(if(wrap64 (t349 - 1))<(x1.length:Int) then(if(Int.tmod (wrap64 ((wrap64 ((rd x1 (wrap64 (t343 - 1)))+(rd x1 (wrap64 (t346 - 1)))))+(rd x1 (wrap64 (t349 - 1))))) 2)=0 then(if(rd x1 (wrap64 (t343 - 1)))>(wrap64 ((rd x1 (wrap64 (t346 - 1)))+(rd x1 (wrap64 (t349 - 1))))) then(some false) else(if(rd x1 (wrap64 (t346 - 1)))>(wrap64 ((rd x1 (wrap64 (t343 - 1)))+(rd x1 (wrap64 (t349 - 1))))) then(some false) else(if(rd x1 (wrap64 (t349 - 1)))>(wrap64 ((rd x1 (wrap64 (t343 - 1)))+(rd x1 (wrap64 (t346 - 1))))) then(some false) else(fH.l0 k x1 x27 x28 (wrap64 (x29+1)))))) else(some false)) else(none)) else(none))) else(none)) else(none)) else(none))) else(none)) else(none)) else(none))) else(none)) else(none)) else(none)) else(some true)
end
def fH.f (k:Nat) (l0:List (List Int)) (l1:List Int):Option (Bool):=(fB.f k l0).bind fun t339=>(if t339=true then(if(l1.length:Int)=(wrap64 (Int.tdiv (wrap64 (3*(l0.length:Int))) 2)) then((fX.f k l1).bind fun t340=>(fH.j0 k l0 l1 (!t340))) else(fH.j0 k l0 l1 true)) else(fH.j0 k l0 l1 true))
def fH.T6:Bool × List (List Nat × List Nat):=(true,[([],[]),([],[]),([1],[1]),([2],[2]),([3],[3]),([4],[4]),([0,5],[0,5]),([6],[6]),([],[]),([],[]),([9],[9]),([10],[10]),([11,4],[11]),([12],[12]),([8,13],[8,13]),([14],[14]),([],[]),([],[]),([17],[17]),([18],[18]),([19,12],[19]),([20],[20]),([16,21],[16,21]),([22],[22]),([7,20,0,1,2,3,4,5,6,7],[7]),([15,24,0,1,2,3,4,5,6,7,8,9,10,11,12,13,14,15,24],[15]),([23,25,0,1,2,3,4,5,6,7,8,9,10,11,12,13,14,15,16,17,18,19,20,21,22,23,24,25],[23])])
def fH.B6:List Nat:=[0,0,2,6,14,30,63,127,0,0,512,1536,3614,7710,16158,32542,0,0,131072,393216,925214,1973790,4136478,8330782,1974015,18808831,67108863]
theorem fH.tab6:rtab .any (opsOf Try.f26 6)=fH.T6:=by kernel_rfl
theorem fH.bits6:waitsOk fH.T6.2 fH.B6=true:=by kernel_rfl
theorem fH.calls (k:Nat) (A0:Option Addr) (c0:Nat) (l0:List (List Int)) (A1:Option Addr) (c1:Nat) (l1:List Int) (r:Bool) (w:World) (Ed:Kd.C (Kd.slice 3 (Kd.int .i64)) w A0 l0.length l0) (Ee:l0.length≤c0) (Ef:Kd.C (Kd.int .i64) w A1 l1.length l1) (Eg:l1.length≤c1) (h:fH.f k l0 l1=some r):
  Calls Try.prog 26 #[.slice A0 l0.length c0, .slice A1 l1.length c1] w fun e w'=>e= .returned (.bool r)∧Below w.heap.size w w':=by
 have Cv:=Az.mk Ed
 have Eb:=Az.mk Ee
 clear Ed Ee
 have HR1:=Az.mk Ef
 have Ez:=Az.mk Eg
 clear Ef Eg
 have HB:=Az.mk (Below.refl w.heap.size w)
 have H:((fB.f k l0).bind fun Da=>(if Da=true then(if(l1.length:Int)=(wrap64 (Int.tdiv (wrap64 (3*(l0.length:Int))) 2)) then((fX.f k l1).bind fun Cu=>(fH.j0 k l0 l1 (!Cu))) else(fH.j0 k l0 l1 true)) else(fH.j0 k l0 l1 true)))=some r:=h
 clear h
 have Ec:=Az.mk H
 clear H
 go_enter Try.func26,Try.ntmps26
 go_upto_region 1 with (fail)
 go_cut [26] (fun Ga wc=>∃(kq:Nat) (Co:Bool),Ga= .bool Co∧Az (fH.j0 kq l0 l1 Co=some r)∧Az (kq≤k)∧Az (Below w.heap.size w wc))
 case first=>
  have H:=Ec.out
  clear Ec
  replace H:=bez H
  obtain⟨Da,A4,H⟩:=H
  try dsimp only at H
  by_cases c5:Da=true
  rotate_left
  ·replace c5:=Bool.eq_false_iff.mpr c5
   subst c5
   rw[ig ff]at H
   have H':=Az.mk H
   clear H
   go_wp2_with (first|((with_reducible refine gtC (f:=30) rfl ?_);refine clz Try.func30 (some 11) #[.slice A0 l0.length c0] ?_;(with_reducible refine(fB.calls k _ _ l0 false _ ?Ca ?Cc A4.out).mono ?_);(case Ca=>exact kC (Kd.C_below Cv.out HB.out));(case Cc=>exact Eb.out);rintro e Gc ⟨rfl,hb⟩;refine⟨_,rfl,?_⟩;replace HB:=Az.mk (bwT bw_16 hb);(try clear hb)))
   go_meet
   case rel=>exact⟨_,(true),rq2,H',⟨by first|omega|exact Nat.le_refl _⟩,⟨bw_16⟩⟩
  subst c5
  rw[ip rfl]at H
  by_cases c6:(l1.length:Int)=(wrap64 (Int.tdiv (wrap64 (3*(l0.length:Int))) 2))
  rotate_left
  ·rw[ig c6]at H
   have Cm:=beq_eq_false_iff_ne.mpr c6
   have Db:=bne_iff_ne.mpr c6
   (first|rw[Cm]|(simp only[i64_w,i32_w];rw[Cm])|skip)
   have H':=Az.mk H
   clear H
   go_wp2_with (first|((with_reducible refine gtC (f:=30) rfl ?_);refine clz Try.func30 (some 11) #[.slice A0 l0.length c0] ?_;(with_reducible refine(fB.calls k _ _ l0 true _ ?Ca ?Cc A4.out).mono ?_);(case Ca=>exact kC (Kd.C_below Cv.out HB.out));(case Cc=>exact Eb.out);rintro e w9 ⟨rfl,hb⟩;refine⟨_,rfl,?_⟩;replace HB:=Az.mk (bwT bw_16 hb);(try clear hb)))
   go_meet
   case rel=>exact⟨_,(true),rq2,H',⟨by first|omega|exact Nat.le_refl _⟩,⟨bw_16⟩⟩
  rw[ip c6]at H
  have Cm:=beq_iff_eq.mpr c6
  have Db:=bne_eq_false_iff_eq.mpr c6
  clear c6
  (first|rw[Cm]|(simp only[i64_w,i32_w];rw[Cm])|skip)
  replace H:=bez H
  obtain⟨Cu,A7,H⟩:=H
  try dsimp only at H
  have H':=Az.mk H
  clear H
  go_wp2_with (first|((with_reducible refine gtC (f:=30) rfl ?_);refine clz Try.func30 (some 11) #[.slice A0 l0.length c0] ?_;(with_reducible refine(fB.calls k _ _ l0 true _ ?Ca ?Cc A4.out).mono ?_);(case Ca=>exact kC (Kd.C_below Cv.out HB.out));(case Cc=>exact Eb.out);rintro e w8 ⟨rfl,hb⟩;refine⟨_,rfl,?_⟩;replace HB:=Az.mk (bwT bw_16 hb);(try clear hb))|(go_at_call 52;(with_reducible refine(fX.calls k _ _ l1 Cu _ ?Ca ?Cc A7.out).mono ?_);(case Ca=>exact kC (Kd.C_below HR1.out HB.out));(case Cc=>exact Ez.out);rintro e w' ⟨rfl,⟨nd,rfl⟩⟩))
  go_meet
  case rel=>exact⟨_,(!Cu),rq2,H',⟨by first|omega|exact Nat.le_refl _⟩,⟨bw_16⟩⟩
 clear Ec
 try clear c1
 try clear c5
 try clear c6
 try clear Cm
 try clear Db
 obtain⟨kq,Co,rfl,HA,Eh,HB⟩:=hcut
 cases kq with
 |zero=>exact absurd HA.out (by simp[fH.j0])
 |succ Ei=>
  have H:=HA.out
  clear HA
  simp only[fH.j0]at H
  by_cases Dj:Co=true
  ·subst Dj
   rw[ip rfl]at H
   obtain rfl:=Option.some.inj H
   go_wp2
   go_ret
   exact⟨rq1,bw_16⟩
  replace Dj:=Bool.eq_false_iff.mpr Dj
  subst Dj
  rw[ig ff]at H
  have H':=Az.mk H
  clear H
  go_wp2
  go_loopg [29] Ei (fun kq Gb w'=>∃(Aa:Int),Gb= .int .i64 Aa∧Az (fH.l0 kq l1 l0 (l0.length:Int) Aa=some r)∧Az (kq≤Ei)∧Az (Below w.heap.size w w'))
  case atStart=>exact⟨(0),rq2,H',⟨Nat.le_refl _⟩,⟨bw_16⟩⟩
  clear H'
  try clear c1
  try clear c5
  try clear c6
  try clear Cm
  try clear Db
  try clear Dj
  obtain⟨Aa,rfl,HA,HK2,HB⟩:=hrel
  cases gk with
  |zero=>exact absurd HA.out (by simp[fH.l0])
  |succ k2=>
   have H:=HA.out
   clear HA
   simp only[fH.l0]at H
   by_cases De:Aa<(l0.length:Int)
   rotate_left
   ·rw[ig De]at H
    have Dk:=decide_eq_false De
    clear De
    obtain rfl:=Option.some.inj H
    go_wp2
    go_ret
    exact⟨rq1,bw_16⟩
   rw[ip De]at H
   have Dk:=ode De
   clear De
   by_cases Dq:0≤Aa
   rotate_left
   ·rw[ig Dq]at H
    exact absurd H (by simp)
   rw[ip Dq]at H
   have Ej:=ode Dq
   clear Dq
   by_cases Dr:Aa<(l0.length:Int)
   rotate_left
   ·rw[ig Dr]at H
    exact absurd H (by simp)
   rw[ip Dr]at H
   have Ek:=ode Dr
   clear Dr
   by_cases Ds:0<((rd_L1 l0 Aa).length:Int)
   rotate_left
   ·rw[ig Ds]at H
    exact absurd H (by simp)
   rw[ip Ds]at H
   have El:=ode Ds
   have Em:decide (0<(rd_L1 l0 Aa).length)=true:=ode (by omega)
   clear Ds
   replace H:=bez H
   obtain⟨Cn,Cw,H⟩:=H
   try dsimp only at H
   obtain⟨Ap,By⟩:∃j_:Int,(wrap64 (Cn - 1))=j_:=⟨_,rfl⟩
   replace H:(if 0≤(Ap) then(if(Ap)<(l1.length:Int) then(if 1<((rd_L1 l0 Aa).length:Int) then((gP.f (rd (rd_L1 l0 Aa) 1)).bind fun Bs=>(if 0≤(wrap64 (Bs - 1)) then(if(wrap64 (Bs - 1))<(l1.length:Int) then(if 2<((rd_L1 l0 Aa).length:Int) then((gP.f (rd (rd_L1 l0 Aa) 2)).bind fun Ba=>(if 0≤(wrap64 (Ba - 1)) then(if(wrap64 (Ba - 1))<(l1.length:Int) then(if(Int.tmod (wrap64 ((wrap64 ((rd l1 (Ap))+(rd l1 (wrap64 (Bs - 1)))))+(rd l1 (wrap64 (Ba - 1))))) 2)=0 then(if(rd l1 (Ap))>(wrap64 ((rd l1 (wrap64 (Bs - 1)))+(rd l1 (wrap64 (Ba - 1))))) then(some false) else(if(rd l1 (wrap64 (Bs - 1)))>(wrap64 ((rd l1 (Ap))+(rd l1 (wrap64 (Ba - 1))))) then(some false) else(if(rd l1 (wrap64 (Ba - 1)))>(wrap64 ((rd l1 (Ap))+(rd l1 (wrap64 (Bs - 1))))) then(some false) else(fH.l0 k2 l1 l0 (l0.length:Int) (wrap64 (Aa+1)))))) else(some false)) else(none)) else(none))) else(none)) else(none)) else(none))) else(none)) else(none)) else(none))=some r:=by first|(rw[By]at H;exact H)|(simp only[By]at H ⊢;exact H)
   (try rw[By]at Cw)
   have hji17w:(IntKind.i64.wrap (Cn - 1))=Ap:=(i64_w _).trans By
   by_cases Dt:0≤(Ap)
   rotate_left
   ·rw[ig Dt]at H
    exact absurd H (by simp)
   rw[ip Dt]at H
   have Eo:=ode Dt
   clear Dt
   by_cases Du:(Ap)<(l1.length:Int)
   rotate_left
   ·rw[ig Du]at H
    exact absurd H (by simp)
   rw[ip Du]at H
   have Ep:=ode Du
   clear Du
   by_cases Dv:1<((rd_L1 l0 Aa).length:Int)
   rotate_left
   ·rw[ig Dv]at H
    exact absurd H (by simp)
   rw[ip Dv]at H
   have Er:=ode Dv
   have Es:decide (1<(rd_L1 l0 Aa).length)=true:=ode (by omega)
   clear Dv
   replace H:=bez H
   obtain⟨Bs,Dc,H⟩:=H
   try dsimp only at H
   obtain⟨As,Bt⟩:∃j_:Int,(wrap64 (Bs - 1))=j_:=⟨_,rfl⟩
   replace H:(if 0≤(As) then(if(As)<(l1.length:Int) then(if 2<((rd_L1 l0 Aa).length:Int) then((gP.f (rd (rd_L1 l0 Aa) 2)).bind fun Ba=>(if 0≤(wrap64 (Ba - 1)) then(if(wrap64 (Ba - 1))<(l1.length:Int) then(if(Int.tmod (wrap64 ((wrap64 ((rd l1 (Ap))+(rd l1 (As))))+(rd l1 (wrap64 (Ba - 1))))) 2)=0 then(if(rd l1 (Ap))>(wrap64 ((rd l1 (As))+(rd l1 (wrap64 (Ba - 1))))) then(some false) else(if(rd l1 (As))>(wrap64 ((rd l1 (Ap))+(rd l1 (wrap64 (Ba - 1))))) then(some false) else(if(rd l1 (wrap64 (Ba - 1)))>(wrap64 ((rd l1 (Ap))+(rd l1 (As)))) then(some false) else(fH.l0 k2 l1 l0 (l0.length:Int) (wrap64 (Aa+1)))))) else(some false)) else(none)) else(none))) else(none)) else(none)) else(none))=some r:=by first|(rw[Bt]at H;exact H)|(simp only[Bt]at H ⊢;exact H)
   (try rw[Bt]at Cw)
   (try rw[Bt]at Dc)
   have hji22w:(IntKind.i64.wrap (Bs - 1))=As:=(i64_w _).trans Bt
   by_cases Dw:0≤(As)
   rotate_left
   ·rw[ig Dw]at H
    exact absurd H (by simp)
   rw[ip Dw]at H
   have Et:=ode Dw
   clear Dw
   by_cases Dx:(As)<(l1.length:Int)
   rotate_left
   ·rw[ig Dx]at H
    exact absurd H (by simp)
   rw[ip Dx]at H
   have Eu:=ode Dx
   clear Dx
   by_cases Dy:2<((rd_L1 l0 Aa).length:Int)
   rotate_left
   ·rw[ig Dy]at H
    exact absurd H (by simp)
   rw[ip Dy]at H
   have Ev:=ode Dy
   have Ew:decide (2<(rd_L1 l0 Aa).length)=true:=ode (by omega)
   clear Dy
   replace H:=bez H
   obtain⟨Ba,Df,H⟩:=H
   try dsimp only at H
   obtain⟨Au,Br⟩:∃j_:Int,(wrap64 (Ba - 1))=j_:=⟨_,rfl⟩
   replace H:(if 0≤(Au) then(if(Au)<(l1.length:Int) then(if(Int.tmod (wrap64 ((wrap64 ((rd l1 (Ap))+(rd l1 (As))))+(rd l1 (Au)))) 2)=0 then(if(rd l1 (Ap))>(wrap64 ((rd l1 (As))+(rd l1 (Au)))) then(some false) else(if(rd l1 (As))>(wrap64 ((rd l1 (Ap))+(rd l1 (Au)))) then(some false) else(if(rd l1 (Au))>(wrap64 ((rd l1 (Ap))+(rd l1 (As)))) then(some false) else(fH.l0 k2 l1 l0 (l0.length:Int) (wrap64 (Aa+1)))))) else(some false)) else(none)) else(none))=some r:=by first|(rw[Br]at H;exact H)|(simp only[Br]at H ⊢;exact H)
   (try rw[Br]at Cw)
   (try rw[Br]at Dc)
   (try rw[Br]at Df)
   have hji27w:(IntKind.i64.wrap (Ba - 1))=Au:=(i64_w _).trans Br
   by_cases Dz:0≤(Au)
   rotate_left
   ·rw[ig Dz]at H
    exact absurd H (by simp)
   rw[ip Dz]at H
   have Ex:=ode Dz
   clear Dz
   by_cases Ea:(Au)<(l1.length:Int)
   rotate_left
   ·rw[ig Ea]at H
    exact absurd H (by simp)
   rw[ip Ea]at H
   have Ey:=ode Ea
   clear Ea
   by_cases Dd:(Int.tmod (wrap64 ((wrap64 ((rd l1 (Ap))+(rd l1 (As))))+(rd l1 (Au)))) 2)=0
   rotate_left
   ·rw[ig Dd]at H
    have Dl:=beq_eq_false_iff_ne.mpr Dd
    have Dm:=bne_iff_ne.mpr Dd
    obtain rfl:=Option.some.inj H
    have Bb:0≤(Aa:Int):=od
    have Bc:Aa<(l0.length:Int):=od
    obtain⟨Cp,Cd,Ce,Cf,Aw,Ax,Ay⟩:=at_L1 Cv.out Aa Bb Bc
    cases Cf
    replace Aw:=kc HB Aw
    have Aq:=Az.mk Ay
    have Bz:=Az.mk Ax
    clear Ay Ax
    replace Bb:=ets Bb
    replace Bc:=ets Bc
    try go_wp2
    replace HB:=Az.mk (bwD HB.out)
    have Bd:0≤(0:Int):=(by omega)
    have Bf:0<((rd_L1 l0 Aa).length:Int):=od
    obtain⟨Ao,Cg,Ae⟩:=Kd.at_int Aq.out 0 Bd Bf
    have Ab:=Ae
    (try rw[show((0:Int)).toNat=0 from rfl]at Ab)
    (try rw[show 0*1=0 from rfl]at Ab)
    (try rw[Addr.add_zero']at Ab)
    cases Cg
    have Cq:(0<(rd_L1 l0 Aa).length)=True:=ets (by omega)
    (try rw[show((0:Int)).toNat=0 from rfl]at Ae)
    (try rw[Addr.add_zero']at Ae)
    replace Ae:=kc HB Ae
    replace Bd:=ets Bd
    replace Bf:=ets Bf
    have Bh:0≤(1:Int):=(by omega)
    have Bi:1<((rd_L1 l0 Aa).length:Int):=od
    obtain⟨Bu,Ch,Af⟩:=Kd.at_int Aq.out 1 Bh Bi
    have Ac:=Af
    (try rw[show((1:Int)).toNat=1 from rfl]at Ac)
    (try rw[show 1*1=1 from rfl]at Ac)
    (try simp only[Nat.reduceMul,Nat.reduceEqDiff,Go.Addr.add, ↓reduceIte]at Ac)
    obtain rfl:Ao=Bu:=(by injection Ch)
    (try simp only[show(1:Int).toNat=1 from rfl,Nat.reduceMul,Nat.reduceEqDiff,Go.Addr.add, ↓reduceIte]at Af)
    have Cs:(1<(rd_L1 l0 Aa).length)=True:=ets (by omega)
    (try rw[show((1:Int)).toNat=1 from rfl]at Af)
    replace Af:=kc HB Af
    replace Bh:=ets Bh
    replace Bi:=ets Bi
    have Bj:0≤(2:Int):=(by omega)
    have Bk:2<((rd_L1 l0 Aa).length:Int):=od
    obtain⟨Bv,Ci,Ag⟩:=Kd.at_int Aq.out 2 Bj Bk
    have Ad:=Ag
    (try rw[show((2:Int)).toNat=2 from rfl]at Ad)
    (try rw[show 2*1=2 from rfl]at Ad)
    (try simp only[Nat.reduceMul,Nat.reduceEqDiff,Go.Addr.add, ↓reduceIte]at Ad)
    obtain rfl:Ao=Bv:=(by injection Ci)
    (try simp only[show(2:Int).toNat=2 from rfl,Nat.reduceMul,Nat.reduceEqDiff,Go.Addr.add, ↓reduceIte]at Ag)
    have Ct:(2<(rd_L1 l0 Aa).length)=True:=ets (by omega)
    (try rw[show((2:Int)).toNat=2 from rfl]at Ag)
    replace Ag:=kc HB Ag
    replace Bj:=ets Bj
    replace Bk:=ets Bk
    have Bl:0≤((Ap):Int):=od
    have Bm:(Ap)<(l1.length:Int):=od
    obtain⟨Av,Cj,Ah⟩:=Kd.at_int HR1.out (Ap) Bl Bm
    have Ai:=Ah
    cases Cj
    replace Ah:=kc HB Ah
    replace Bl:=ets Bl
    replace Bm:=ets Bm
    have Bn:0≤((As):Int):=od
    have Bo:(As)<(l1.length:Int):=od
    obtain⟨Bw,Ck,Aj⟩:=Kd.at_int HR1.out (As) Bn Bo
    have Ak:=Aj
    obtain rfl:Av=Bw:=(by injection Ck)
    replace Aj:=kc HB Aj
    replace Bn:=ets Bn
    replace Bo:=ets Bo
    have Bp:0≤((Au):Int):=od
    have Bq:(Au)<(l1.length:Int):=od
    obtain⟨Bx,Cl,Al⟩:=Kd.at_int HR1.out (Au) Bp Bq
    have Am:=Al
    obtain rfl:Av=Bx:=(by injection Cl)
    replace Al:=kc HB Al
    replace Bp:=ets Bp
    replace Bq:=ets Bq
    refine start_ (n:=27) (S:=fun w'=>w'.cell? Ao=some (.int .i64 (rd (rd_L1 l0 Aa) 0))∧w'.cell? ⟨Ao.block,Ao.off+1,none⟩=some (.int .i64 (rd (rd_L1 l0 Aa) 1))∧w'.cell? ⟨Ao.block,Ao.off+2,none⟩=some (.int .i64 (rd (rd_L1 l0 Aa) 2))∧w'.cell? (Av.add ((Ap)).toNat)=some (.int .i64 (rd l1 (Ap)))∧w'.cell? (Av.add ((As)).toNat)=some (.int .i64 (rd l1 (As)))∧w'.cell? (Av.add ((Au)).toNat)=some (.int .i64 (rd l1 (Au)))) (ds:=[]) #[F,F,F,F,F,F,F,F,F,F,F,F,F,F,F,F,F,F,F,F,F,F,F,F,F,F,F] z16_0 rfl rfl ⟨(kc HB Ab),(kc HB Ac),(kc HB Ad),(kc HB Ai),(kc HB Ak),(kc HB Am)⟩ (fun hHeld=>?_);refine with_tabW fH.tab6 fH.bits6 (fun HT_ HW_=>?_)
    generalize wr.drew=Gd at HB Ae Ah Af Aj Ag Al hHeld ⊢
    refine pu (i:=0) (N:=some 33) #[T,F,F,F,F,F,F,F,F,F,F,F,F,F,F,F,F,F,F,F,F,F,F,F,F,F,F] (any_of HT_.out z16_0) ?_
    refine pu (i:=1) (N:=some 34) #[T,T,F,F,F,F,F,F,F,F,F,F,F,F,F,F,F,F,F,F,F,F,F,F,F,F,F] (any_of HT_.out z16_0) ?_
    refine pu (i:=2) (N:=some 35) #[T,T,T,F,F,F,F,F,F,F,F,F,F,F,F,F,F,F,F,F,F,F,F,F,F,F,F] (any_of HT_.out z16_0) ?_
    refine pu (i:=8) (N:=some 41) #[T,T,T,F,F,F,F,F,T,F,F,F,F,F,F,F,F,F,F,F,F,F,F,F,F,F,F] (any_of HT_.out z16_0) ?_
    refine pu (i:=9) (N:=some 42) #[T,T,T,F,F,F,F,F,T,T,F,F,F,F,F,F,F,F,F,F,F,F,F,F,F,F,F] (any_of HT_.out z16_0) ?_
    refine pu (i:=10) (N:=some 43) #[T,T,T,F,F,F,F,F,T,T,T,F,F,F,F,F,F,F,F,F,F,F,F,F,F,F,F] (any_of HT_.out z16_0) ?_
    refine pu (i:=16) (N:=some 49) #[T,T,T,F,F,F,F,F,T,T,T,F,F,F,F,F,T,F,F,F,F,F,F,F,F,F,F] (any_of HT_.out z16_0) ?_
    refine pu (i:=17) (N:=some 50) #[T,T,T,F,F,F,F,F,T,T,T,F,F,F,F,F,T,T,F,F,F,F,F,F,F,F,F] (any_of HT_.out z16_0) ?_
    refine pu (i:=18) (N:=some 51) #[T,T,T,F,F,F,F,F,T,T,T,F,F,F,F,F,T,T,T,F,F,F,F,F,F,F,F] (any_of HT_.out z16_0) ?_
    refine take_ (i:=3) (N:=some 36) (v:=?_) (a':=?_) #[T,T,T,T,F,F,F,F,T,T,T,F,F,F,F,F,T,T,T,F,F,F,F,F,F,F,F] rfl rfl (take_ofW HT_.out HW_.out z16_0) (fun _ _ _ h=>h) (Or.inl ⟨by rfl,?_⟩) hHeld ?_ ?_
    rotate_left
    ·rintro w' ⟨s0,s1,s2,s3,s4,s5⟩
     go_simp
     with_reducible rfl
    rotate_left
    ·exact acq
    refine take_ (i:=11) (N:=some 44) (v:=?_) (a':=?_) #[T,T,T,T,F,F,F,F,T,T,T,T,F,F,F,F,T,T,T,F,F,F,F,F,F,F,F] rfl rfl (take_ofW HT_.out HW_.out z16_0) (fun _ _ _ h=>h) (Or.inl ⟨by rfl,?_⟩) hHeld ?_ ?_
    rotate_left
    ·rintro w' ⟨s0,s1,s2,s3,s4,s5⟩
     go_simp
     with_reducible rfl
    rotate_left
    ·exact acq
    refine take_ (i:=19) (N:=some 52) (v:=?_) (a':=?_) #[T,T,T,T,F,F,F,F,T,T,T,T,F,F,F,F,T,T,T,T,F,F,F,F,F,F,F] rfl rfl (take_ofW HT_.out HW_.out z16_0) (fun _ _ _ h=>h) (Or.inl ⟨by rfl,?_⟩) hHeld ?_ ?_
    rotate_left
    ·rintro w' ⟨s0,s1,s2,s3,s4,s5⟩
     go_simp
     with_reducible rfl
    rotate_left
    ·exact acq
    refine one_ (i:=4) (N:=some 37) #[T,T,T,T,T,F,F,F,T,T,T,T,F,F,F,F,T,T,T,T,F,F,F,F,F,F,F] rfl rfl (one_of HT_.out z16_0) (by decide) (fun K hK=>?_)
    refine goes_ Try.func70 z16_0 rfl #[.int .i64 (rd (rd_L1 l0 Aa) 0)] (by rfl) rfl rfl ln_16 ?_
    with_reducible refine(gP.calls (rd (rd_L1 l0 Aa) 0) Cn _ Cw.out).mono ?_
    rintro e Ge ⟨rfl,hb⟩
    refine⟨_,rfl,?_⟩
    replace HB:=Az.mk (bwT bw_16 hb)
    (try clear hb)
    (try clear hb2)
    (try clear hk)
    (try clear hi)
    refine hK.out _ _ ⟨(kc HB Ab),(kc HB Ac),(kc HB Ad),(kc HB Ai),(kc HB Ak),(kc HB Am)⟩ (fun hHeld=>?_)
    clear hK K
    refine norm_ (a':=?_) ?_ ?_
    rotate_left
    ·show Act.put _ (some 37) _=_
     exact acq
    refine pu (i:=5) (N:=some 38) #[T,T,T,T,T,T,F,F,T,T,T,T,F,F,F,F,T,T,T,T,F,F,F,F,F,F,F] (any_of HT_.out z16_0) ?_
    refine pu (i:=6) (N:=some 39) #[T,T,T,T,T,T,T,F,T,T,T,T,F,F,F,F,T,T,T,T,F,F,F,F,F,F,F] (any_of HT_.out z16_0) ?_
    refine take_ (i:=7) (N:=some 40) (v:=?_) (a':=?_) #[T,T,T,T,T,T,T,T,T,T,T,T,F,F,F,F,T,T,T,T,F,F,F,F,F,F,F] rfl rfl (take_ofW HT_.out HW_.out z16_0) (fun _ _ _ h=>h) (Or.inl ⟨by rfl,?_⟩) hHeld ?_ ?_
    rotate_left
    ·rintro w' ⟨s0,s1,s2,s3,s4,s5⟩
     go_simp
     with_reducible rfl
    rotate_left
    ·exact acq
    refine one_ (i:=12) (N:=some 45) #[T,T,T,T,T,T,T,T,T,T,T,T,T,F,F,F,T,T,T,T,F,F,F,F,F,F,F] rfl rfl (one_of HT_.out z16_0) (by decide) (fun K hK=>?_)
    refine goes_ Try.func70 z16_0 rfl #[.int .i64 (rd (rd_L1 l0 Aa) 1)] (by rfl) rfl rfl ln_16 ?_
    with_reducible refine(gP.calls (rd (rd_L1 l0 Aa) 1) Bs _ Dc.out).mono ?_
    rintro e Gf ⟨rfl,hb⟩
    refine⟨_,rfl,?_⟩
    replace HB:=Az.mk (bwT bw_16 hb)
    (try clear hb)
    (try clear hb2)
    (try clear hk)
    (try clear hi)
    refine hK.out _ _ ⟨(kc HB Ab),(kc HB Ac),(kc HB Ad),(kc HB Ai),(kc HB Ak),(kc HB Am)⟩ (fun hHeld=>?_)
    clear hK K
    refine norm_ (a':=?_) ?_ ?_
    rotate_left
    ·show Act.put _ (some 45) _=_
     exact acq
    refine pu (i:=13) (N:=some 46) #[T,T,T,T,T,T,T,T,T,T,T,T,T,T,F,F,T,T,T,T,F,F,F,F,F,F,F] (any_of HT_.out z16_0) ?_
    refine pu (i:=14) (N:=some 47) #[T,T,T,T,T,T,T,T,T,T,T,T,T,T,T,F,T,T,T,T,F,F,F,F,F,F,F] (any_of HT_.out z16_0) ?_
    refine take_ (i:=15) (N:=some 48) (v:=?_) (a':=?_) #[T,T,T,T,T,T,T,T,T,T,T,T,T,T,T,T,T,T,T,T,F,F,F,F,F,F,F] rfl rfl (take_ofW HT_.out HW_.out z16_0) (fun _ _ _ h=>h) (Or.inl ⟨by rfl,?_⟩) hHeld ?_ ?_
    rotate_left
    ·rintro w' ⟨s0,s1,s2,s3,s4,s5⟩
     go_simp
     with_reducible rfl
    rotate_left
    ·exact acq
    refine one_ (i:=20) (N:=some 53) #[T,T,T,T,T,T,T,T,T,T,T,T,T,T,T,T,T,T,T,T,T,F,F,F,F,F,F] rfl rfl (one_of HT_.out z16_0) (by decide) (fun K hK=>?_)
    refine goes_ Try.func70 z16_0 rfl #[.int .i64 (rd (rd_L1 l0 Aa) 2)] (by rfl) rfl rfl ln_16 ?_
    with_reducible refine(gP.calls (rd (rd_L1 l0 Aa) 2) Ba _ Df.out).mono ?_
    rintro e Gg ⟨rfl,hb⟩
    refine⟨_,rfl,?_⟩
    replace HB:=Az.mk (bwT bw_16 hb)
    (try clear hb)
    (try clear hb2)
    (try clear hk)
    (try clear hi)
    refine hK.out _ _ ⟨(kc HB Ab),(kc HB Ac),(kc HB Ad),(kc HB Ai),(kc HB Ak),(kc HB Am)⟩ (fun hHeld=>?_)
    clear hK K
    refine norm_ (a':=?_) ?_ ?_
    rotate_left
    ·show Act.put _ (some 53) _=_
     exact acq
    refine pu (i:=21) (N:=some 54) #[T,T,T,T,T,T,T,T,T,T,T,T,T,T,T,T,T,T,T,T,T,T,F,F,F,F,F] (any_of HT_.out z16_0) ?_
    refine pu (i:=22) (N:=some 55) #[T,T,T,T,T,T,T,T,T,T,T,T,T,T,T,T,T,T,T,T,T,T,T,F,F,F,F] (any_of HT_.out z16_0) ?_
    refine pu (i:=24) (N:=some 7) #[T,T,T,T,T,T,T,T,T,T,T,T,T,T,T,T,T,T,T,T,T,T,T,F,T,F,F] (any_of HT_.out z16_0) ?_
    refine pu (i:=25) (N:=some 8) #[T,T,T,T,T,T,T,T,T,T,T,T,T,T,T,T,T,T,T,T,T,T,T,F,T,T,F] (any_of HT_.out z16_0) ?_
    refine take_ (i:=23) (N:=some 56) (v:=?_) (a':=?_) #[T,T,T,T,T,T,T,T,T,T,T,T,T,T,T,T,T,T,T,T,T,T,T,T,T,T,F] rfl rfl (take_ofW HT_.out HW_.out z16_0) (fun _ _ _ h=>h) (Or.inl ⟨by rfl,?_⟩) hHeld ?_ ?_
    rotate_left
    ·rintro w' ⟨s0,s1,s2,s3,s4,s5⟩
     go_simp
     with_reducible rfl
    rotate_left
    ·exact acq
    refine pu (i:=26) (N:=some 9) #[T,T,T,T,T,T,T,T,T,T,T,T,T,T,T,T,T,T,T,T,T,T,T,T,T,T,T] (any_of HT_.out z16_0) ?_
    refine done_ (done_of HT_.out z16_0) ?_
    try go_wp2
    go_ret
    exact⟨by first|rfl|(simp[eWn,eWs] <;> rfl)|(simp only[←By, ←Bt, ←Br];first|rfl|(simp[eWn,eWs] <;> rfl))|(simp[*,eWn,eWs] <;> rfl),bw_16⟩
   rw[ip Dd]at H
   have Dl:=beq_iff_eq.mpr Dd
   have Dm:=bne_eq_false_iff_eq.mpr Dd
   clear Dd
   by_cases Dg:(rd l1 (Ap))>(wrap64 ((rd l1 (As))+(rd l1 (Au))))
   ·rw[ip Dg]at H
    have Dn:decide ((wrap64 ((rd l1 (As))+(rd l1 (Au))))<(rd l1 (Ap)))=true:=ode Dg
    clear Dg
    obtain rfl:=Option.some.inj H
    have Bb:0≤(Aa:Int):=od
    have Bc:Aa<(l0.length:Int):=od
    obtain⟨Cp,Cd,Ce,Cf,Aw,Ax,Ay⟩:=at_L1 Cv.out Aa Bb Bc
    cases Cf
    replace Aw:=kc HB Aw
    have Aq:=Az.mk Ay
    have Bz:=Az.mk Ax
    clear Ay Ax
    replace Bb:=ets Bb
    replace Bc:=ets Bc
    try go_wp2
    replace HB:=Az.mk (bwD HB.out)
    have Bd:0≤(0:Int):=(by omega)
    have Bf:0<((rd_L1 l0 Aa).length:Int):=od
    obtain⟨Ao,Cg,Ae⟩:=Kd.at_int Aq.out 0 Bd Bf
    have Ab:=Ae
    (try rw[show((0:Int)).toNat=0 from rfl]at Ab)
    (try rw[show 0*1=0 from rfl]at Ab)
    (try rw[Addr.add_zero']at Ab)
    cases Cg
    have Cq:(0<(rd_L1 l0 Aa).length)=True:=ets (by omega)
    (try rw[show((0:Int)).toNat=0 from rfl]at Ae)
    (try rw[Addr.add_zero']at Ae)
    replace Ae:=kc HB Ae
    replace Bd:=ets Bd
    replace Bf:=ets Bf
    have Bh:0≤(1:Int):=(by omega)
    have Bi:1<((rd_L1 l0 Aa).length:Int):=od
    obtain⟨Bu,Ch,Af⟩:=Kd.at_int Aq.out 1 Bh Bi
    have Ac:=Af
    (try rw[show((1:Int)).toNat=1 from rfl]at Ac)
    (try rw[show 1*1=1 from rfl]at Ac)
    (try simp only[Nat.reduceMul,Nat.reduceEqDiff,Go.Addr.add, ↓reduceIte]at Ac)
    obtain rfl:Ao=Bu:=(by injection Ch)
    (try simp only[show(1:Int).toNat=1 from rfl,Nat.reduceMul,Nat.reduceEqDiff,Go.Addr.add, ↓reduceIte]at Af)
    have Cs:(1<(rd_L1 l0 Aa).length)=True:=ets (by omega)
    (try rw[show((1:Int)).toNat=1 from rfl]at Af)
    replace Af:=kc HB Af
    replace Bh:=ets Bh
    replace Bi:=ets Bi
    have Bj:0≤(2:Int):=(by omega)
    have Bk:2<((rd_L1 l0 Aa).length:Int):=od
    obtain⟨Bv,Ci,Ag⟩:=Kd.at_int Aq.out 2 Bj Bk
    have Ad:=Ag
    (try rw[show((2:Int)).toNat=2 from rfl]at Ad)
    (try rw[show 2*1=2 from rfl]at Ad)
    (try simp only[Nat.reduceMul,Nat.reduceEqDiff,Go.Addr.add, ↓reduceIte]at Ad)
    obtain rfl:Ao=Bv:=(by injection Ci)
    (try simp only[show(2:Int).toNat=2 from rfl,Nat.reduceMul,Nat.reduceEqDiff,Go.Addr.add, ↓reduceIte]at Ag)
    have Ct:(2<(rd_L1 l0 Aa).length)=True:=ets (by omega)
    (try rw[show((2:Int)).toNat=2 from rfl]at Ag)
    replace Ag:=kc HB Ag
    replace Bj:=ets Bj
    replace Bk:=ets Bk
    have Bl:0≤((Ap):Int):=od
    have Bm:(Ap)<(l1.length:Int):=od
    obtain⟨Av,Cj,Ah⟩:=Kd.at_int HR1.out (Ap) Bl Bm
    have Ai:=Ah
    cases Cj
    replace Ah:=kc HB Ah
    replace Bl:=ets Bl
    replace Bm:=ets Bm
    have Bn:0≤((As):Int):=od
    have Bo:(As)<(l1.length:Int):=od
    obtain⟨Bw,Ck,Aj⟩:=Kd.at_int HR1.out (As) Bn Bo
    have Ak:=Aj
    obtain rfl:Av=Bw:=(by injection Ck)
    replace Aj:=kc HB Aj
    replace Bn:=ets Bn
    replace Bo:=ets Bo
    have Bp:0≤((Au):Int):=od
    have Bq:(Au)<(l1.length:Int):=od
    obtain⟨Bx,Cl,Al⟩:=Kd.at_int HR1.out (Au) Bp Bq
    have Am:=Al
    obtain rfl:Av=Bx:=(by injection Cl)
    replace Al:=kc HB Al
    replace Bp:=ets Bp
    replace Bq:=ets Bq
    refine start_ (n:=27) (S:=fun w'=>w'.cell? Ao=some (.int .i64 (rd (rd_L1 l0 Aa) 0))∧w'.cell? ⟨Ao.block,Ao.off+1,none⟩=some (.int .i64 (rd (rd_L1 l0 Aa) 1))∧w'.cell? ⟨Ao.block,Ao.off+2,none⟩=some (.int .i64 (rd (rd_L1 l0 Aa) 2))∧w'.cell? (Av.add ((Ap)).toNat)=some (.int .i64 (rd l1 (Ap)))∧w'.cell? (Av.add ((As)).toNat)=some (.int .i64 (rd l1 (As)))∧w'.cell? (Av.add ((Au)).toNat)=some (.int .i64 (rd l1 (Au)))) (ds:=[]) #[F,F,F,F,F,F,F,F,F,F,F,F,F,F,F,F,F,F,F,F,F,F,F,F,F,F,F] z16_0 rfl rfl ⟨(kc HB Ab),(kc HB Ac),(kc HB Ad),(kc HB Ai),(kc HB Ak),(kc HB Am)⟩ (fun hHeld=>?_);refine with_tabW fH.tab6 fH.bits6 (fun HT_ HW_=>?_)
    generalize wr.drew=Gh at HB Ae Ah Af Aj Ag Al hHeld ⊢
    refine pu (i:=0) (N:=some 33) #[T,F,F,F,F,F,F,F,F,F,F,F,F,F,F,F,F,F,F,F,F,F,F,F,F,F,F] (any_of HT_.out z16_0) ?_
    refine pu (i:=1) (N:=some 34) #[T,T,F,F,F,F,F,F,F,F,F,F,F,F,F,F,F,F,F,F,F,F,F,F,F,F,F] (any_of HT_.out z16_0) ?_
    refine pu (i:=2) (N:=some 35) #[T,T,T,F,F,F,F,F,F,F,F,F,F,F,F,F,F,F,F,F,F,F,F,F,F,F,F] (any_of HT_.out z16_0) ?_
    refine pu (i:=8) (N:=some 41) #[T,T,T,F,F,F,F,F,T,F,F,F,F,F,F,F,F,F,F,F,F,F,F,F,F,F,F] (any_of HT_.out z16_0) ?_
    refine pu (i:=9) (N:=some 42) #[T,T,T,F,F,F,F,F,T,T,F,F,F,F,F,F,F,F,F,F,F,F,F,F,F,F,F] (any_of HT_.out z16_0) ?_
    refine pu (i:=10) (N:=some 43) #[T,T,T,F,F,F,F,F,T,T,T,F,F,F,F,F,F,F,F,F,F,F,F,F,F,F,F] (any_of HT_.out z16_0) ?_
    refine pu (i:=16) (N:=some 49) #[T,T,T,F,F,F,F,F,T,T,T,F,F,F,F,F,T,F,F,F,F,F,F,F,F,F,F] (any_of HT_.out z16_0) ?_
    refine pu (i:=17) (N:=some 50) #[T,T,T,F,F,F,F,F,T,T,T,F,F,F,F,F,T,T,F,F,F,F,F,F,F,F,F] (any_of HT_.out z16_0) ?_
    refine pu (i:=18) (N:=some 51) #[T,T,T,F,F,F,F,F,T,T,T,F,F,F,F,F,T,T,T,F,F,F,F,F,F,F,F] (any_of HT_.out z16_0) ?_
    refine take_ (i:=3) (N:=some 36) (v:=?_) (a':=?_) #[T,T,T,T,F,F,F,F,T,T,T,F,F,F,F,F,T,T,T,F,F,F,F,F,F,F,F] rfl rfl (take_ofW HT_.out HW_.out z16_0) (fun _ _ _ h=>h) (Or.inl ⟨by rfl,?_⟩) hHeld ?_ ?_
    rotate_left
    ·rintro w' ⟨s0,s1,s2,s3,s4,s5⟩
     go_simp
     with_reducible rfl
    rotate_left
    ·exact acq
    refine take_ (i:=11) (N:=some 44) (v:=?_) (a':=?_) #[T,T,T,T,F,F,F,F,T,T,T,T,F,F,F,F,T,T,T,F,F,F,F,F,F,F,F] rfl rfl (take_ofW HT_.out HW_.out z16_0) (fun _ _ _ h=>h) (Or.inl ⟨by rfl,?_⟩) hHeld ?_ ?_
    rotate_left
    ·rintro w' ⟨s0,s1,s2,s3,s4,s5⟩
     go_simp
     with_reducible rfl
    rotate_left
    ·exact acq
    refine take_ (i:=19) (N:=some 52) (v:=?_) (a':=?_) #[T,T,T,T,F,F,F,F,T,T,T,T,F,F,F,F,T,T,T,T,F,F,F,F,F,F,F] rfl rfl (take_ofW HT_.out HW_.out z16_0) (fun _ _ _ h=>h) (Or.inl ⟨by rfl,?_⟩) hHeld ?_ ?_
    rotate_left
    ·rintro w' ⟨s0,s1,s2,s3,s4,s5⟩
     go_simp
     with_reducible rfl
    rotate_left
    ·exact acq
    refine one_ (i:=4) (N:=some 37) #[T,T,T,T,T,F,F,F,T,T,T,T,F,F,F,F,T,T,T,T,F,F,F,F,F,F,F] rfl rfl (one_of HT_.out z16_0) (by decide) (fun K hK=>?_)
    refine goes_ Try.func70 z16_0 rfl #[.int .i64 (rd (rd_L1 l0 Aa) 0)] (by rfl) rfl rfl ln_16 ?_
    with_reducible refine(gP.calls (rd (rd_L1 l0 Aa) 0) Cn _ Cw.out).mono ?_
    rintro e Gi ⟨rfl,hb⟩
    refine⟨_,rfl,?_⟩
    replace HB:=Az.mk (bwT bw_16 hb)
    (try clear hb)
    (try clear hb2)
    (try clear hk)
    (try clear hi)
    refine hK.out _ _ ⟨(kc HB Ab),(kc HB Ac),(kc HB Ad),(kc HB Ai),(kc HB Ak),(kc HB Am)⟩ (fun hHeld=>?_)
    clear hK K
    refine norm_ (a':=?_) ?_ ?_
    rotate_left
    ·show Act.put _ (some 37) _=_
     exact acq
    refine pu (i:=5) (N:=some 38) #[T,T,T,T,T,T,F,F,T,T,T,T,F,F,F,F,T,T,T,T,F,F,F,F,F,F,F] (any_of HT_.out z16_0) ?_
    refine pu (i:=6) (N:=some 39) #[T,T,T,T,T,T,T,F,T,T,T,T,F,F,F,F,T,T,T,T,F,F,F,F,F,F,F] (any_of HT_.out z16_0) ?_
    refine take_ (i:=7) (N:=some 40) (v:=?_) (a':=?_) #[T,T,T,T,T,T,T,T,T,T,T,T,F,F,F,F,T,T,T,T,F,F,F,F,F,F,F] rfl rfl (take_ofW HT_.out HW_.out z16_0) (fun _ _ _ h=>h) (Or.inl ⟨by rfl,?_⟩) hHeld ?_ ?_
    rotate_left
    ·rintro w' ⟨s0,s1,s2,s3,s4,s5⟩
     go_simp
     with_reducible rfl
    rotate_left
    ·exact acq
    refine one_ (i:=12) (N:=some 45) #[T,T,T,T,T,T,T,T,T,T,T,T,T,F,F,F,T,T,T,T,F,F,F,F,F,F,F] rfl rfl (one_of HT_.out z16_0) (by decide) (fun K hK=>?_)
    refine goes_ Try.func70 z16_0 rfl #[.int .i64 (rd (rd_L1 l0 Aa) 1)] (by rfl) rfl rfl ln_16 ?_
    with_reducible refine(gP.calls (rd (rd_L1 l0 Aa) 1) Bs _ Dc.out).mono ?_
    rintro e Gj ⟨rfl,hb⟩
    refine⟨_,rfl,?_⟩
    replace HB:=Az.mk (bwT bw_16 hb)
    (try clear hb)
    (try clear hb2)
    (try clear hk)
    (try clear hi)
    refine hK.out _ _ ⟨(kc HB Ab),(kc HB Ac),(kc HB Ad),(kc HB Ai),(kc HB Ak),(kc HB Am)⟩ (fun hHeld=>?_)
    clear hK K
    refine norm_ (a':=?_) ?_ ?_
    rotate_left
    ·show Act.put _ (some 45) _=_
     exact acq
    refine pu (i:=13) (N:=some 46) #[T,T,T,T,T,T,T,T,T,T,T,T,T,T,F,F,T,T,T,T,F,F,F,F,F,F,F] (any_of HT_.out z16_0) ?_
    refine pu (i:=14) (N:=some 47) #[T,T,T,T,T,T,T,T,T,T,T,T,T,T,T,F,T,T,T,T,F,F,F,F,F,F,F] (any_of HT_.out z16_0) ?_
    refine take_ (i:=15) (N:=some 48) (v:=?_) (a':=?_) #[T,T,T,T,T,T,T,T,T,T,T,T,T,T,T,T,T,T,T,T,F,F,F,F,F,F,F] rfl rfl (take_ofW HT_.out HW_.out z16_0) (fun _ _ _ h=>h) (Or.inl ⟨by rfl,?_⟩) hHeld ?_ ?_
    rotate_left
    ·rintro w' ⟨s0,s1,s2,s3,s4,s5⟩
     go_simp
     with_reducible rfl
    rotate_left
    ·exact acq
    refine one_ (i:=20) (N:=some 53) #[T,T,T,T,T,T,T,T,T,T,T,T,T,T,T,T,T,T,T,T,T,F,F,F,F,F,F] rfl rfl (one_of HT_.out z16_0) (by decide) (fun K hK=>?_)
    refine goes_ Try.func70 z16_0 rfl #[.int .i64 (rd (rd_L1 l0 Aa) 2)] (by rfl) rfl rfl ln_16 ?_
    with_reducible refine(gP.calls (rd (rd_L1 l0 Aa) 2) Ba _ Df.out).mono ?_
    rintro e Gk ⟨rfl,hb⟩
    refine⟨_,rfl,?_⟩
    replace HB:=Az.mk (bwT bw_16 hb)
    (try clear hb)
    (try clear hb2)
    (try clear hk)
    (try clear hi)
    refine hK.out _ _ ⟨(kc HB Ab),(kc HB Ac),(kc HB Ad),(kc HB Ai),(kc HB Ak),(kc HB Am)⟩ (fun hHeld=>?_)
    clear hK K
    refine norm_ (a':=?_) ?_ ?_
    rotate_left
    ·show Act.put _ (some 53) _=_
     exact acq
    refine pu (i:=21) (N:=some 54) #[T,T,T,T,T,T,T,T,T,T,T,T,T,T,T,T,T,T,T,T,T,T,F,F,F,F,F] (any_of HT_.out z16_0) ?_
    refine pu (i:=22) (N:=some 55) #[T,T,T,T,T,T,T,T,T,T,T,T,T,T,T,T,T,T,T,T,T,T,T,F,F,F,F] (any_of HT_.out z16_0) ?_
    refine pu (i:=24) (N:=some 7) #[T,T,T,T,T,T,T,T,T,T,T,T,T,T,T,T,T,T,T,T,T,T,T,F,T,F,F] (any_of HT_.out z16_0) ?_
    refine pu (i:=25) (N:=some 8) #[T,T,T,T,T,T,T,T,T,T,T,T,T,T,T,T,T,T,T,T,T,T,T,F,T,T,F] (any_of HT_.out z16_0) ?_
    refine take_ (i:=23) (N:=some 56) (v:=?_) (a':=?_) #[T,T,T,T,T,T,T,T,T,T,T,T,T,T,T,T,T,T,T,T,T,T,T,T,T,T,F] rfl rfl (take_ofW HT_.out HW_.out z16_0) (fun _ _ _ h=>h) (Or.inl ⟨by rfl,?_⟩) hHeld ?_ ?_
    rotate_left
    ·rintro w' ⟨s0,s1,s2,s3,s4,s5⟩
     go_simp
     with_reducible rfl
    rotate_left
    ·exact acq
    refine pu (i:=26) (N:=some 9) #[T,T,T,T,T,T,T,T,T,T,T,T,T,T,T,T,T,T,T,T,T,T,T,T,T,T,T] (any_of HT_.out z16_0) ?_
    refine done_ (done_of HT_.out z16_0) ?_
    try go_wp2
    go_ret
    exact⟨by first|rfl|(simp[eWn,eWs] <;> rfl)|(simp only[←By, ←Bt, ←Br];first|rfl|(simp[eWn,eWs] <;> rfl))|(simp[*,eWn,eWs] <;> rfl),bw_16⟩
   rw[ig Dg]at H
   have Dn:decide ((wrap64 ((rd l1 (As))+(rd l1 (Au))))<(rd l1 (Ap)))=false:=decide_eq_false Dg
   clear Dg
   by_cases Dh:(rd l1 (As))>(wrap64 ((rd l1 (Ap))+(rd l1 (Au))))
   ·rw[ip Dh]at H
    have Do:decide ((wrap64 ((rd l1 (Ap))+(rd l1 (Au))))<(rd l1 (As)))=true:=ode Dh
    clear Dh
    obtain rfl:=Option.some.inj H
    have Bb:0≤(Aa:Int):=od
    have Bc:Aa<(l0.length:Int):=od
    obtain⟨Cp,Cd,Ce,Cf,Aw,Ax,Ay⟩:=at_L1 Cv.out Aa Bb Bc
    cases Cf
    replace Aw:=kc HB Aw
    have Aq:=Az.mk Ay
    have Bz:=Az.mk Ax
    clear Ay Ax
    replace Bb:=ets Bb
    replace Bc:=ets Bc
    try go_wp2
    replace HB:=Az.mk (bwD HB.out)
    have Bd:0≤(0:Int):=(by omega)
    have Bf:0<((rd_L1 l0 Aa).length:Int):=od
    obtain⟨Ao,Cg,Ae⟩:=Kd.at_int Aq.out 0 Bd Bf
    have Ab:=Ae
    (try rw[show((0:Int)).toNat=0 from rfl]at Ab)
    (try rw[show 0*1=0 from rfl]at Ab)
    (try rw[Addr.add_zero']at Ab)
    cases Cg
    have Cq:(0<(rd_L1 l0 Aa).length)=True:=ets (by omega)
    (try rw[show((0:Int)).toNat=0 from rfl]at Ae)
    (try rw[Addr.add_zero']at Ae)
    replace Ae:=kc HB Ae
    replace Bd:=ets Bd
    replace Bf:=ets Bf
    have Bh:0≤(1:Int):=(by omega)
    have Bi:1<((rd_L1 l0 Aa).length:Int):=od
    obtain⟨Bu,Ch,Af⟩:=Kd.at_int Aq.out 1 Bh Bi
    have Ac:=Af
    (try rw[show((1:Int)).toNat=1 from rfl]at Ac)
    (try rw[show 1*1=1 from rfl]at Ac)
    (try simp only[Nat.reduceMul,Nat.reduceEqDiff,Go.Addr.add, ↓reduceIte]at Ac)
    obtain rfl:Ao=Bu:=(by injection Ch)
    (try simp only[show(1:Int).toNat=1 from rfl,Nat.reduceMul,Nat.reduceEqDiff,Go.Addr.add, ↓reduceIte]at Af)
    have Cs:(1<(rd_L1 l0 Aa).length)=True:=ets (by omega)
    (try rw[show((1:Int)).toNat=1 from rfl]at Af)
    replace Af:=kc HB Af
    replace Bh:=ets Bh
    replace Bi:=ets Bi
    have Bj:0≤(2:Int):=(by omega)
    have Bk:2<((rd_L1 l0 Aa).length:Int):=od
    obtain⟨Bv,Ci,Ag⟩:=Kd.at_int Aq.out 2 Bj Bk
    have Ad:=Ag
    (try rw[show((2:Int)).toNat=2 from rfl]at Ad)
    (try rw[show 2*1=2 from rfl]at Ad)
    (try simp only[Nat.reduceMul,Nat.reduceEqDiff,Go.Addr.add, ↓reduceIte]at Ad)
    obtain rfl:Ao=Bv:=(by injection Ci)
    (try simp only[show(2:Int).toNat=2 from rfl,Nat.reduceMul,Nat.reduceEqDiff,Go.Addr.add, ↓reduceIte]at Ag)
    have Ct:(2<(rd_L1 l0 Aa).length)=True:=ets (by omega)
    (try rw[show((2:Int)).toNat=2 from rfl]at Ag)
    replace Ag:=kc HB Ag
    replace Bj:=ets Bj
    replace Bk:=ets Bk
    have Bl:0≤((Ap):Int):=od
    have Bm:(Ap)<(l1.length:Int):=od
    obtain⟨Av,Cj,Ah⟩:=Kd.at_int HR1.out (Ap) Bl Bm
    have Ai:=Ah
    cases Cj
    replace Ah:=kc HB Ah
    replace Bl:=ets Bl
    replace Bm:=ets Bm
    have Bn:0≤((As):Int):=od
    have Bo:(As)<(l1.length:Int):=od
    obtain⟨Bw,Ck,Aj⟩:=Kd.at_int HR1.out (As) Bn Bo
    have Ak:=Aj
    obtain rfl:Av=Bw:=(by injection Ck)
    replace Aj:=kc HB Aj
    replace Bn:=ets Bn
    replace Bo:=ets Bo
    have Bp:0≤((Au):Int):=od
    have Bq:(Au)<(l1.length:Int):=od
    obtain⟨Bx,Cl,Al⟩:=Kd.at_int HR1.out (Au) Bp Bq
    have Am:=Al
    obtain rfl:Av=Bx:=(by injection Cl)
    replace Al:=kc HB Al
    replace Bp:=ets Bp
    replace Bq:=ets Bq
    refine start_ (n:=27) (S:=fun w'=>w'.cell? Ao=some (.int .i64 (rd (rd_L1 l0 Aa) 0))∧w'.cell? ⟨Ao.block,Ao.off+1,none⟩=some (.int .i64 (rd (rd_L1 l0 Aa) 1))∧w'.cell? ⟨Ao.block,Ao.off+2,none⟩=some (.int .i64 (rd (rd_L1 l0 Aa) 2))∧w'.cell? (Av.add ((Ap)).toNat)=some (.int .i64 (rd l1 (Ap)))∧w'.cell? (Av.add ((As)).toNat)=some (.int .i64 (rd l1 (As)))∧w'.cell? (Av.add ((Au)).toNat)=some (.int .i64 (rd l1 (Au)))) (ds:=[]) #[F,F,F,F,F,F,F,F,F,F,F,F,F,F,F,F,F,F,F,F,F,F,F,F,F,F,F] z16_0 rfl rfl ⟨(kc HB Ab),(kc HB Ac),(kc HB Ad),(kc HB Ai),(kc HB Ak),(kc HB Am)⟩ (fun hHeld=>?_);refine with_tabW fH.tab6 fH.bits6 (fun HT_ HW_=>?_)
    generalize wr.drew=Gl at HB Ae Ah Af Aj Ag Al hHeld ⊢
    refine pu (i:=0) (N:=some 33) #[T,F,F,F,F,F,F,F,F,F,F,F,F,F,F,F,F,F,F,F,F,F,F,F,F,F,F] (any_of HT_.out z16_0) ?_
    refine pu (i:=1) (N:=some 34) #[T,T,F,F,F,F,F,F,F,F,F,F,F,F,F,F,F,F,F,F,F,F,F,F,F,F,F] (any_of HT_.out z16_0) ?_
    refine pu (i:=2) (N:=some 35) #[T,T,T,F,F,F,F,F,F,F,F,F,F,F,F,F,F,F,F,F,F,F,F,F,F,F,F] (any_of HT_.out z16_0) ?_
    refine pu (i:=8) (N:=some 41) #[T,T,T,F,F,F,F,F,T,F,F,F,F,F,F,F,F,F,F,F,F,F,F,F,F,F,F] (any_of HT_.out z16_0) ?_
    refine pu (i:=9) (N:=some 42) #[T,T,T,F,F,F,F,F,T,T,F,F,F,F,F,F,F,F,F,F,F,F,F,F,F,F,F] (any_of HT_.out z16_0) ?_
    refine pu (i:=10) (N:=some 43) #[T,T,T,F,F,F,F,F,T,T,T,F,F,F,F,F,F,F,F,F,F,F,F,F,F,F,F] (any_of HT_.out z16_0) ?_
    refine pu (i:=16) (N:=some 49) #[T,T,T,F,F,F,F,F,T,T,T,F,F,F,F,F,T,F,F,F,F,F,F,F,F,F,F] (any_of HT_.out z16_0) ?_
    refine pu (i:=17) (N:=some 50) #[T,T,T,F,F,F,F,F,T,T,T,F,F,F,F,F,T,T,F,F,F,F,F,F,F,F,F] (any_of HT_.out z16_0) ?_
    refine pu (i:=18) (N:=some 51) #[T,T,T,F,F,F,F,F,T,T,T,F,F,F,F,F,T,T,T,F,F,F,F,F,F,F,F] (any_of HT_.out z16_0) ?_
    refine take_ (i:=3) (N:=some 36) (v:=?_) (a':=?_) #[T,T,T,T,F,F,F,F,T,T,T,F,F,F,F,F,T,T,T,F,F,F,F,F,F,F,F] rfl rfl (take_ofW HT_.out HW_.out z16_0) (fun _ _ _ h=>h) (Or.inl ⟨by rfl,?_⟩) hHeld ?_ ?_
    rotate_left
    ·rintro w' ⟨s0,s1,s2,s3,s4,s5⟩
     go_simp
     with_reducible rfl
    rotate_left
    ·exact acq
    refine take_ (i:=11) (N:=some 44) (v:=?_) (a':=?_) #[T,T,T,T,F,F,F,F,T,T,T,T,F,F,F,F,T,T,T,F,F,F,F,F,F,F,F] rfl rfl (take_ofW HT_.out HW_.out z16_0) (fun _ _ _ h=>h) (Or.inl ⟨by rfl,?_⟩) hHeld ?_ ?_
    rotate_left
    ·rintro w' ⟨s0,s1,s2,s3,s4,s5⟩
     go_simp
     with_reducible rfl
    rotate_left
    ·exact acq
    refine take_ (i:=19) (N:=some 52) (v:=?_) (a':=?_) #[T,T,T,T,F,F,F,F,T,T,T,T,F,F,F,F,T,T,T,T,F,F,F,F,F,F,F] rfl rfl (take_ofW HT_.out HW_.out z16_0) (fun _ _ _ h=>h) (Or.inl ⟨by rfl,?_⟩) hHeld ?_ ?_
    rotate_left
    ·rintro w' ⟨s0,s1,s2,s3,s4,s5⟩
     go_simp
     with_reducible rfl
    rotate_left
    ·exact acq
    refine one_ (i:=4) (N:=some 37) #[T,T,T,T,T,F,F,F,T,T,T,T,F,F,F,F,T,T,T,T,F,F,F,F,F,F,F] rfl rfl (one_of HT_.out z16_0) (by decide) (fun K hK=>?_)
    refine goes_ Try.func70 z16_0 rfl #[.int .i64 (rd (rd_L1 l0 Aa) 0)] (by rfl) rfl rfl ln_16 ?_
    with_reducible refine(gP.calls (rd (rd_L1 l0 Aa) 0) Cn _ Cw.out).mono ?_
    rintro e Gm ⟨rfl,hb⟩
    refine⟨_,rfl,?_⟩
    replace HB:=Az.mk (bwT bw_16 hb)
    (try clear hb)
    (try clear hb2)
    (try clear hk)
    (try clear hi)
    refine hK.out _ _ ⟨(kc HB Ab),(kc HB Ac),(kc HB Ad),(kc HB Ai),(kc HB Ak),(kc HB Am)⟩ (fun hHeld=>?_)
    clear hK K
    refine norm_ (a':=?_) ?_ ?_
    rotate_left
    ·show Act.put _ (some 37) _=_
     exact acq
    refine pu (i:=5) (N:=some 38) #[T,T,T,T,T,T,F,F,T,T,T,T,F,F,F,F,T,T,T,T,F,F,F,F,F,F,F] (any_of HT_.out z16_0) ?_
    refine pu (i:=6) (N:=some 39) #[T,T,T,T,T,T,T,F,T,T,T,T,F,F,F,F,T,T,T,T,F,F,F,F,F,F,F] (any_of HT_.out z16_0) ?_
    refine take_ (i:=7) (N:=some 40) (v:=?_) (a':=?_) #[T,T,T,T,T,T,T,T,T,T,T,T,F,F,F,F,T,T,T,T,F,F,F,F,F,F,F] rfl rfl (take_ofW HT_.out HW_.out z16_0) (fun _ _ _ h=>h) (Or.inl ⟨by rfl,?_⟩) hHeld ?_ ?_
    rotate_left
    ·rintro w' ⟨s0,s1,s2,s3,s4,s5⟩
     go_simp
     with_reducible rfl
    rotate_left
    ·exact acq
    refine one_ (i:=12) (N:=some 45) #[T,T,T,T,T,T,T,T,T,T,T,T,T,F,F,F,T,T,T,T,F,F,F,F,F,F,F] rfl rfl (one_of HT_.out z16_0) (by decide) (fun K hK=>?_)
    refine goes_ Try.func70 z16_0 rfl #[.int .i64 (rd (rd_L1 l0 Aa) 1)] (by rfl) rfl rfl ln_16 ?_
    with_reducible refine(gP.calls (rd (rd_L1 l0 Aa) 1) Bs _ Dc.out).mono ?_
    rintro e Gn ⟨rfl,hb⟩
    refine⟨_,rfl,?_⟩
    replace HB:=Az.mk (bwT bw_16 hb)
    (try clear hb)
    (try clear hb2)
    (try clear hk)
    (try clear hi)
    refine hK.out _ _ ⟨(kc HB Ab),(kc HB Ac),(kc HB Ad),(kc HB Ai),(kc HB Ak),(kc HB Am)⟩ (fun hHeld=>?_)
    clear hK K
    refine norm_ (a':=?_) ?_ ?_
    rotate_left
    ·show Act.put _ (some 45) _=_
     exact acq
    refine pu (i:=13) (N:=some 46) #[T,T,T,T,T,T,T,T,T,T,T,T,T,T,F,F,T,T,T,T,F,F,F,F,F,F,F] (any_of HT_.out z16_0) ?_
    refine pu (i:=14) (N:=some 47) #[T,T,T,T,T,T,T,T,T,T,T,T,T,T,T,F,T,T,T,T,F,F,F,F,F,F,F] (any_of HT_.out z16_0) ?_
    refine take_ (i:=15) (N:=some 48) (v:=?_) (a':=?_) #[T,T,T,T,T,T,T,T,T,T,T,T,T,T,T,T,T,T,T,T,F,F,F,F,F,F,F] rfl rfl (take_ofW HT_.out HW_.out z16_0) (fun _ _ _ h=>h) (Or.inl ⟨by rfl,?_⟩) hHeld ?_ ?_
    rotate_left
    ·rintro w' ⟨s0,s1,s2,s3,s4,s5⟩
     go_simp
     with_reducible rfl
    rotate_left
    ·exact acq
    refine one_ (i:=20) (N:=some 53) #[T,T,T,T,T,T,T,T,T,T,T,T,T,T,T,T,T,T,T,T,T,F,F,F,F,F,F] rfl rfl (one_of HT_.out z16_0) (by decide) (fun K hK=>?_)
    refine goes_ Try.func70 z16_0 rfl #[.int .i64 (rd (rd_L1 l0 Aa) 2)] (by rfl) rfl rfl ln_16 ?_
    with_reducible refine(gP.calls (rd (rd_L1 l0 Aa) 2) Ba _ Df.out).mono ?_
    rintro e Gp ⟨rfl,hb⟩
    refine⟨_,rfl,?_⟩
    replace HB:=Az.mk (bwT bw_16 hb)
    (try clear hb)
    (try clear hb2)
    (try clear hk)
    (try clear hi)
    refine hK.out _ _ ⟨(kc HB Ab),(kc HB Ac),(kc HB Ad),(kc HB Ai),(kc HB Ak),(kc HB Am)⟩ (fun hHeld=>?_)
    clear hK K
    refine norm_ (a':=?_) ?_ ?_
    rotate_left
    ·show Act.put _ (some 53) _=_
     exact acq
    refine pu (i:=21) (N:=some 54) #[T,T,T,T,T,T,T,T,T,T,T,T,T,T,T,T,T,T,T,T,T,T,F,F,F,F,F] (any_of HT_.out z16_0) ?_
    refine pu (i:=22) (N:=some 55) #[T,T,T,T,T,T,T,T,T,T,T,T,T,T,T,T,T,T,T,T,T,T,T,F,F,F,F] (any_of HT_.out z16_0) ?_
    refine pu (i:=24) (N:=some 7) #[T,T,T,T,T,T,T,T,T,T,T,T,T,T,T,T,T,T,T,T,T,T,T,F,T,F,F] (any_of HT_.out z16_0) ?_
    refine pu (i:=25) (N:=some 8) #[T,T,T,T,T,T,T,T,T,T,T,T,T,T,T,T,T,T,T,T,T,T,T,F,T,T,F] (any_of HT_.out z16_0) ?_
    refine take_ (i:=23) (N:=some 56) (v:=?_) (a':=?_) #[T,T,T,T,T,T,T,T,T,T,T,T,T,T,T,T,T,T,T,T,T,T,T,T,T,T,F] rfl rfl (take_ofW HT_.out HW_.out z16_0) (fun _ _ _ h=>h) (Or.inl ⟨by rfl,?_⟩) hHeld ?_ ?_
    rotate_left
    ·rintro w' ⟨s0,s1,s2,s3,s4,s5⟩
     go_simp
     with_reducible rfl
    rotate_left
    ·exact acq
    refine pu (i:=26) (N:=some 9) #[T,T,T,T,T,T,T,T,T,T,T,T,T,T,T,T,T,T,T,T,T,T,T,T,T,T,T] (any_of HT_.out z16_0) ?_
    refine done_ (done_of HT_.out z16_0) ?_
    try go_wp2
    go_ret
    exact⟨by first|rfl|(simp[eWn,eWs] <;> rfl)|(simp only[←By, ←Bt, ←Br];first|rfl|(simp[eWn,eWs] <;> rfl))|(simp[*,eWn,eWs] <;> rfl),bw_16⟩
   rw[ig Dh]at H
   have Do:decide ((wrap64 ((rd l1 (Ap))+(rd l1 (Au))))<(rd l1 (As)))=false:=decide_eq_false Dh
   clear Dh
   by_cases Di:(rd l1 (Au))>(wrap64 ((rd l1 (Ap))+(rd l1 (As))))
   ·rw[ip Di]at H
    have Dp:decide ((wrap64 ((rd l1 (Ap))+(rd l1 (As))))<(rd l1 (Au)))=true:=ode Di
    clear Di
    obtain rfl:=Option.some.inj H
    have Bb:0≤(Aa:Int):=od
    have Bc:Aa<(l0.length:Int):=od
    obtain⟨Cp,Cd,Ce,Cf,Aw,Ax,Ay⟩:=at_L1 Cv.out Aa Bb Bc
    cases Cf
    replace Aw:=kc HB Aw
    have Aq:=Az.mk Ay
    have Bz:=Az.mk Ax
    clear Ay Ax
    replace Bb:=ets Bb
    replace Bc:=ets Bc
    try go_wp2
    replace HB:=Az.mk (bwD HB.out)
    have Bd:0≤(0:Int):=(by omega)
    have Bf:0<((rd_L1 l0 Aa).length:Int):=od
    obtain⟨Ao,Cg,Ae⟩:=Kd.at_int Aq.out 0 Bd Bf
    have Ab:=Ae
    (try rw[show((0:Int)).toNat=0 from rfl]at Ab)
    (try rw[show 0*1=0 from rfl]at Ab)
    (try rw[Addr.add_zero']at Ab)
    cases Cg
    have Cq:(0<(rd_L1 l0 Aa).length)=True:=ets (by omega)
    (try rw[show((0:Int)).toNat=0 from rfl]at Ae)
    (try rw[Addr.add_zero']at Ae)
    replace Ae:=kc HB Ae
    replace Bd:=ets Bd
    replace Bf:=ets Bf
    have Bh:0≤(1:Int):=(by omega)
    have Bi:1<((rd_L1 l0 Aa).length:Int):=od
    obtain⟨Bu,Ch,Af⟩:=Kd.at_int Aq.out 1 Bh Bi
    have Ac:=Af
    (try rw[show((1:Int)).toNat=1 from rfl]at Ac)
    (try rw[show 1*1=1 from rfl]at Ac)
    (try simp only[Nat.reduceMul,Nat.reduceEqDiff,Go.Addr.add, ↓reduceIte]at Ac)
    obtain rfl:Ao=Bu:=(by injection Ch)
    (try simp only[show(1:Int).toNat=1 from rfl,Nat.reduceMul,Nat.reduceEqDiff,Go.Addr.add, ↓reduceIte]at Af)
    have Cs:(1<(rd_L1 l0 Aa).length)=True:=ets (by omega)
    (try rw[show((1:Int)).toNat=1 from rfl]at Af)
    replace Af:=kc HB Af
    replace Bh:=ets Bh
    replace Bi:=ets Bi
    have Bj:0≤(2:Int):=(by omega)
    have Bk:2<((rd_L1 l0 Aa).length:Int):=od
    obtain⟨Bv,Ci,Ag⟩:=Kd.at_int Aq.out 2 Bj Bk
    have Ad:=Ag
    (try rw[show((2:Int)).toNat=2 from rfl]at Ad)
    (try rw[show 2*1=2 from rfl]at Ad)
    (try simp only[Nat.reduceMul,Nat.reduceEqDiff,Go.Addr.add, ↓reduceIte]at Ad)
    obtain rfl:Ao=Bv:=(by injection Ci)
    (try simp only[show(2:Int).toNat=2 from rfl,Nat.reduceMul,Nat.reduceEqDiff,Go.Addr.add, ↓reduceIte]at Ag)
    have Ct:(2<(rd_L1 l0 Aa).length)=True:=ets (by omega)
    (try rw[show((2:Int)).toNat=2 from rfl]at Ag)
    replace Ag:=kc HB Ag
    replace Bj:=ets Bj
    replace Bk:=ets Bk
    have Bl:0≤((Ap):Int):=od
    have Bm:(Ap)<(l1.length:Int):=od
    obtain⟨Av,Cj,Ah⟩:=Kd.at_int HR1.out (Ap) Bl Bm
    have Ai:=Ah
    cases Cj
    replace Ah:=kc HB Ah
    replace Bl:=ets Bl
    replace Bm:=ets Bm
    have Bn:0≤((As):Int):=od
    have Bo:(As)<(l1.length:Int):=od
    obtain⟨Bw,Ck,Aj⟩:=Kd.at_int HR1.out (As) Bn Bo
    have Ak:=Aj
    obtain rfl:Av=Bw:=(by injection Ck)
    replace Aj:=kc HB Aj
    replace Bn:=ets Bn
    replace Bo:=ets Bo
    have Bp:0≤((Au):Int):=od
    have Bq:(Au)<(l1.length:Int):=od
    obtain⟨Bx,Cl,Al⟩:=Kd.at_int HR1.out (Au) Bp Bq
    have Am:=Al
    obtain rfl:Av=Bx:=(by injection Cl)
    replace Al:=kc HB Al
    replace Bp:=ets Bp
    replace Bq:=ets Bq
    refine start_ (n:=27) (S:=fun w'=>w'.cell? Ao=some (.int .i64 (rd (rd_L1 l0 Aa) 0))∧w'.cell? ⟨Ao.block,Ao.off+1,none⟩=some (.int .i64 (rd (rd_L1 l0 Aa) 1))∧w'.cell? ⟨Ao.block,Ao.off+2,none⟩=some (.int .i64 (rd (rd_L1 l0 Aa) 2))∧w'.cell? (Av.add ((Ap)).toNat)=some (.int .i64 (rd l1 (Ap)))∧w'.cell? (Av.add ((As)).toNat)=some (.int .i64 (rd l1 (As)))∧w'.cell? (Av.add ((Au)).toNat)=some (.int .i64 (rd l1 (Au)))) (ds:=[]) #[F,F,F,F,F,F,F,F,F,F,F,F,F,F,F,F,F,F,F,F,F,F,F,F,F,F,F] z16_0 rfl rfl ⟨(kc HB Ab),(kc HB Ac),(kc HB Ad),(kc HB Ai),(kc HB Ak),(kc HB Am)⟩ (fun hHeld=>?_);refine with_tabW fH.tab6 fH.bits6 (fun HT_ HW_=>?_)
    generalize wr.drew=Gq at HB Ae Ah Af Aj Ag Al hHeld ⊢
    refine pu (i:=0) (N:=some 33) #[T,F,F,F,F,F,F,F,F,F,F,F,F,F,F,F,F,F,F,F,F,F,F,F,F,F,F] (any_of HT_.out z16_0) ?_
    refine pu (i:=1) (N:=some 34) #[T,T,F,F,F,F,F,F,F,F,F,F,F,F,F,F,F,F,F,F,F,F,F,F,F,F,F] (any_of HT_.out z16_0) ?_
    refine pu (i:=2) (N:=some 35) #[T,T,T,F,F,F,F,F,F,F,F,F,F,F,F,F,F,F,F,F,F,F,F,F,F,F,F] (any_of HT_.out z16_0) ?_
    refine pu (i:=8) (N:=some 41) #[T,T,T,F,F,F,F,F,T,F,F,F,F,F,F,F,F,F,F,F,F,F,F,F,F,F,F] (any_of HT_.out z16_0) ?_
    refine pu (i:=9) (N:=some 42) #[T,T,T,F,F,F,F,F,T,T,F,F,F,F,F,F,F,F,F,F,F,F,F,F,F,F,F] (any_of HT_.out z16_0) ?_
    refine pu (i:=10) (N:=some 43) #[T,T,T,F,F,F,F,F,T,T,T,F,F,F,F,F,F,F,F,F,F,F,F,F,F,F,F] (any_of HT_.out z16_0) ?_
    refine pu (i:=16) (N:=some 49) #[T,T,T,F,F,F,F,F,T,T,T,F,F,F,F,F,T,F,F,F,F,F,F,F,F,F,F] (any_of HT_.out z16_0) ?_
    refine pu (i:=17) (N:=some 50) #[T,T,T,F,F,F,F,F,T,T,T,F,F,F,F,F,T,T,F,F,F,F,F,F,F,F,F] (any_of HT_.out z16_0) ?_
    refine pu (i:=18) (N:=some 51) #[T,T,T,F,F,F,F,F,T,T,T,F,F,F,F,F,T,T,T,F,F,F,F,F,F,F,F] (any_of HT_.out z16_0) ?_
    refine take_ (i:=3) (N:=some 36) (v:=?_) (a':=?_) #[T,T,T,T,F,F,F,F,T,T,T,F,F,F,F,F,T,T,T,F,F,F,F,F,F,F,F] rfl rfl (take_ofW HT_.out HW_.out z16_0) (fun _ _ _ h=>h) (Or.inl ⟨by rfl,?_⟩) hHeld ?_ ?_
    rotate_left
    ·rintro w' ⟨s0,s1,s2,s3,s4,s5⟩
     go_simp
     with_reducible rfl
    rotate_left
    ·exact acq
    refine take_ (i:=11) (N:=some 44) (v:=?_) (a':=?_) #[T,T,T,T,F,F,F,F,T,T,T,T,F,F,F,F,T,T,T,F,F,F,F,F,F,F,F] rfl rfl (take_ofW HT_.out HW_.out z16_0) (fun _ _ _ h=>h) (Or.inl ⟨by rfl,?_⟩) hHeld ?_ ?_
    rotate_left
    ·rintro w' ⟨s0,s1,s2,s3,s4,s5⟩
     go_simp
     with_reducible rfl
    rotate_left
    ·exact acq
    refine take_ (i:=19) (N:=some 52) (v:=?_) (a':=?_) #[T,T,T,T,F,F,F,F,T,T,T,T,F,F,F,F,T,T,T,T,F,F,F,F,F,F,F] rfl rfl (take_ofW HT_.out HW_.out z16_0) (fun _ _ _ h=>h) (Or.inl ⟨by rfl,?_⟩) hHeld ?_ ?_
    rotate_left
    ·rintro w' ⟨s0,s1,s2,s3,s4,s5⟩
     go_simp
     with_reducible rfl
    rotate_left
    ·exact acq
    refine one_ (i:=4) (N:=some 37) #[T,T,T,T,T,F,F,F,T,T,T,T,F,F,F,F,T,T,T,T,F,F,F,F,F,F,F] rfl rfl (one_of HT_.out z16_0) (by decide) (fun K hK=>?_)
    refine goes_ Try.func70 z16_0 rfl #[.int .i64 (rd (rd_L1 l0 Aa) 0)] (by rfl) rfl rfl ln_16 ?_
    with_reducible refine(gP.calls (rd (rd_L1 l0 Aa) 0) Cn _ Cw.out).mono ?_
    rintro e Gr ⟨rfl,hb⟩
    refine⟨_,rfl,?_⟩
    replace HB:=Az.mk (bwT bw_16 hb)
    (try clear hb)
    (try clear hb2)
    (try clear hk)
    (try clear hi)
    refine hK.out _ _ ⟨(kc HB Ab),(kc HB Ac),(kc HB Ad),(kc HB Ai),(kc HB Ak),(kc HB Am)⟩ (fun hHeld=>?_)
    clear hK K
    refine norm_ (a':=?_) ?_ ?_
    rotate_left
    ·show Act.put _ (some 37) _=_
     exact acq
    refine pu (i:=5) (N:=some 38) #[T,T,T,T,T,T,F,F,T,T,T,T,F,F,F,F,T,T,T,T,F,F,F,F,F,F,F] (any_of HT_.out z16_0) ?_
    refine pu (i:=6) (N:=some 39) #[T,T,T,T,T,T,T,F,T,T,T,T,F,F,F,F,T,T,T,T,F,F,F,F,F,F,F] (any_of HT_.out z16_0) ?_
    refine take_ (i:=7) (N:=some 40) (v:=?_) (a':=?_) #[T,T,T,T,T,T,T,T,T,T,T,T,F,F,F,F,T,T,T,T,F,F,F,F,F,F,F] rfl rfl (take_ofW HT_.out HW_.out z16_0) (fun _ _ _ h=>h) (Or.inl ⟨by rfl,?_⟩) hHeld ?_ ?_
    rotate_left
    ·rintro w' ⟨s0,s1,s2,s3,s4,s5⟩
     go_simp
     with_reducible rfl
    rotate_left
    ·exact acq
    refine one_ (i:=12) (N:=some 45) #[T,T,T,T,T,T,T,T,T,T,T,T,T,F,F,F,T,T,T,T,F,F,F,F,F,F,F] rfl rfl (one_of HT_.out z16_0) (by decide) (fun K hK=>?_)
    refine goes_ Try.func70 z16_0 rfl #[.int .i64 (rd (rd_L1 l0 Aa) 1)] (by rfl) rfl rfl ln_16 ?_
    with_reducible refine(gP.calls (rd (rd_L1 l0 Aa) 1) Bs _ Dc.out).mono ?_
    rintro e Gs ⟨rfl,hb⟩
    refine⟨_,rfl,?_⟩
    replace HB:=Az.mk (bwT bw_16 hb)
    (try clear hb)
    (try clear hb2)
    (try clear hk)
    (try clear hi)
    refine hK.out _ _ ⟨(kc HB Ab),(kc HB Ac),(kc HB Ad),(kc HB Ai),(kc HB Ak),(kc HB Am)⟩ (fun hHeld=>?_)
    clear hK K
    refine norm_ (a':=?_) ?_ ?_
    rotate_left
    ·show Act.put _ (some 45) _=_
     exact acq
    refine pu (i:=13) (N:=some 46) #[T,T,T,T,T,T,T,T,T,T,T,T,T,T,F,F,T,T,T,T,F,F,F,F,F,F,F] (any_of HT_.out z16_0) ?_
    refine pu (i:=14) (N:=some 47) #[T,T,T,T,T,T,T,T,T,T,T,T,T,T,T,F,T,T,T,T,F,F,F,F,F,F,F] (any_of HT_.out z16_0) ?_
    refine take_ (i:=15) (N:=some 48) (v:=?_) (a':=?_) #[T,T,T,T,T,T,T,T,T,T,T,T,T,T,T,T,T,T,T,T,F,F,F,F,F,F,F] rfl rfl (take_ofW HT_.out HW_.out z16_0) (fun _ _ _ h=>h) (Or.inl ⟨by rfl,?_⟩) hHeld ?_ ?_
    rotate_left
    ·rintro w' ⟨s0,s1,s2,s3,s4,s5⟩
     go_simp
     with_reducible rfl
    rotate_left
    ·exact acq
    refine one_ (i:=20) (N:=some 53) #[T,T,T,T,T,T,T,T,T,T,T,T,T,T,T,T,T,T,T,T,T,F,F,F,F,F,F] rfl rfl (one_of HT_.out z16_0) (by decide) (fun K hK=>?_)
    refine goes_ Try.func70 z16_0 rfl #[.int .i64 (rd (rd_L1 l0 Aa) 2)] (by rfl) rfl rfl ln_16 ?_
    with_reducible refine(gP.calls (rd (rd_L1 l0 Aa) 2) Ba _ Df.out).mono ?_
    rintro e Gt ⟨rfl,hb⟩
    refine⟨_,rfl,?_⟩
    replace HB:=Az.mk (bwT bw_16 hb)
    (try clear hb)
    (try clear hb2)
    (try clear hk)
    (try clear hi)
    refine hK.out _ _ ⟨(kc HB Ab),(kc HB Ac),(kc HB Ad),(kc HB Ai),(kc HB Ak),(kc HB Am)⟩ (fun hHeld=>?_)
    clear hK K
    refine norm_ (a':=?_) ?_ ?_
    rotate_left
    ·show Act.put _ (some 53) _=_
     exact acq
    refine pu (i:=21) (N:=some 54) #[T,T,T,T,T,T,T,T,T,T,T,T,T,T,T,T,T,T,T,T,T,T,F,F,F,F,F] (any_of HT_.out z16_0) ?_
    refine pu (i:=22) (N:=some 55) #[T,T,T,T,T,T,T,T,T,T,T,T,T,T,T,T,T,T,T,T,T,T,T,F,F,F,F] (any_of HT_.out z16_0) ?_
    refine pu (i:=24) (N:=some 7) #[T,T,T,T,T,T,T,T,T,T,T,T,T,T,T,T,T,T,T,T,T,T,T,F,T,F,F] (any_of HT_.out z16_0) ?_
    refine pu (i:=25) (N:=some 8) #[T,T,T,T,T,T,T,T,T,T,T,T,T,T,T,T,T,T,T,T,T,T,T,F,T,T,F] (any_of HT_.out z16_0) ?_
    refine take_ (i:=23) (N:=some 56) (v:=?_) (a':=?_) #[T,T,T,T,T,T,T,T,T,T,T,T,T,T,T,T,T,T,T,T,T,T,T,T,T,T,F] rfl rfl (take_ofW HT_.out HW_.out z16_0) (fun _ _ _ h=>h) (Or.inl ⟨by rfl,?_⟩) hHeld ?_ ?_
    rotate_left
    ·rintro w' ⟨s0,s1,s2,s3,s4,s5⟩
     go_simp
     with_reducible rfl
    rotate_left
    ·exact acq
    refine pu (i:=26) (N:=some 9) #[T,T,T,T,T,T,T,T,T,T,T,T,T,T,T,T,T,T,T,T,T,T,T,T,T,T,T] (any_of HT_.out z16_0) ?_
    refine done_ (done_of HT_.out z16_0) ?_
    try go_wp2
    go_ret
    exact⟨by first|rfl|(simp[eWn,eWs] <;> rfl)|(simp only[←By, ←Bt, ←Br];first|rfl|(simp[eWn,eWs] <;> rfl))|(simp[*,eWn,eWs] <;> rfl),bw_16⟩
   rw[ig Di]at H
   have Dp:decide ((wrap64 ((rd l1 (Ap))+(rd l1 (As))))<(rd l1 (Au)))=false:=decide_eq_false Di
   clear Di
   have H':=Az.mk H
   clear H
   have Bb:0≤(Aa:Int):=od
   have Bc:Aa<(l0.length:Int):=od
   obtain⟨Cp,Cd,Ce,Cf,Aw,Ax,Ay⟩:=at_L1 Cv.out Aa Bb Bc
   cases Cf
   replace Aw:=kc HB Aw
   have Aq:=Az.mk Ay
   have Bz:=Az.mk Ax
   clear Ay Ax
   replace Bb:=ets Bb
   replace Bc:=ets Bc
   try go_wp2
   replace HB:=Az.mk (bwD HB.out)
   have Bd:0≤(0:Int):=(by omega)
   have Bf:0<((rd_L1 l0 Aa).length:Int):=od
   obtain⟨Ao,Cg,Ae⟩:=Kd.at_int Aq.out 0 Bd Bf
   have Ab:=Ae
   (try rw[show((0:Int)).toNat=0 from rfl]at Ab)
   (try rw[show 0*1=0 from rfl]at Ab)
   (try rw[Addr.add_zero']at Ab)
   cases Cg
   have Cq:(0<(rd_L1 l0 Aa).length)=True:=ets (by omega)
   (try rw[show((0:Int)).toNat=0 from rfl]at Ae)
   (try rw[Addr.add_zero']at Ae)
   replace Ae:=kc HB Ae
   replace Bd:=ets Bd
   replace Bf:=ets Bf
   have Bh:0≤(1:Int):=(by omega)
   have Bi:1<((rd_L1 l0 Aa).length:Int):=od
   obtain⟨Bu,Ch,Af⟩:=Kd.at_int Aq.out 1 Bh Bi
   have Ac:=Af
   (try rw[show((1:Int)).toNat=1 from rfl]at Ac)
   (try rw[show 1*1=1 from rfl]at Ac)
   (try simp only[Nat.reduceMul,Nat.reduceEqDiff,Go.Addr.add, ↓reduceIte]at Ac)
   obtain rfl:Ao=Bu:=(by injection Ch)
   (try simp only[show(1:Int).toNat=1 from rfl,Nat.reduceMul,Nat.reduceEqDiff,Go.Addr.add, ↓reduceIte]at Af)
   have Cs:(1<(rd_L1 l0 Aa).length)=True:=ets (by omega)
   (try rw[show((1:Int)).toNat=1 from rfl]at Af)
   replace Af:=kc HB Af
   replace Bh:=ets Bh
   replace Bi:=ets Bi
   have Bj:0≤(2:Int):=(by omega)
   have Bk:2<((rd_L1 l0 Aa).length:Int):=od
   obtain⟨Bv,Ci,Ag⟩:=Kd.at_int Aq.out 2 Bj Bk
   have Ad:=Ag
   (try rw[show((2:Int)).toNat=2 from rfl]at Ad)
   (try rw[show 2*1=2 from rfl]at Ad)
   (try simp only[Nat.reduceMul,Nat.reduceEqDiff,Go.Addr.add, ↓reduceIte]at Ad)
   obtain rfl:Ao=Bv:=(by injection Ci)
   (try simp only[show(2:Int).toNat=2 from rfl,Nat.reduceMul,Nat.reduceEqDiff,Go.Addr.add, ↓reduceIte]at Ag)
   have Ct:(2<(rd_L1 l0 Aa).length)=True:=ets (by omega)
   (try rw[show((2:Int)).toNat=2 from rfl]at Ag)
   replace Ag:=kc HB Ag
   replace Bj:=ets Bj
   replace Bk:=ets Bk
   have Bl:0≤((Ap):Int):=od
   have Bm:(Ap)<(l1.length:Int):=od
   obtain⟨Av,Cj,Ah⟩:=Kd.at_int HR1.out (Ap) Bl Bm
   have Ai:=Ah
   cases Cj
   replace Ah:=kc HB Ah
   replace Bl:=ets Bl
   replace Bm:=ets Bm
   have Bn:0≤((As):Int):=od
   have Bo:(As)<(l1.length:Int):=od
   obtain⟨Bw,Ck,Aj⟩:=Kd.at_int HR1.out (As) Bn Bo
   have Ak:=Aj
   obtain rfl:Av=Bw:=(by injection Ck)
   replace Aj:=kc HB Aj
   replace Bn:=ets Bn
   replace Bo:=ets Bo
   have Bp:0≤((Au):Int):=od
   have Bq:(Au)<(l1.length:Int):=od
   obtain⟨Bx,Cl,Al⟩:=Kd.at_int HR1.out (Au) Bp Bq
   have Am:=Al
   obtain rfl:Av=Bx:=(by injection Cl)
   replace Al:=kc HB Al
   replace Bp:=ets Bp
   replace Bq:=ets Bq
   refine start_ (n:=27) (S:=fun w'=>w'.cell? Ao=some (.int .i64 (rd (rd_L1 l0 Aa) 0))∧w'.cell? ⟨Ao.block,Ao.off+1,none⟩=some (.int .i64 (rd (rd_L1 l0 Aa) 1))∧w'.cell? ⟨Ao.block,Ao.off+2,none⟩=some (.int .i64 (rd (rd_L1 l0 Aa) 2))∧w'.cell? (Av.add ((Ap)).toNat)=some (.int .i64 (rd l1 (Ap)))∧w'.cell? (Av.add ((As)).toNat)=some (.int .i64 (rd l1 (As)))∧w'.cell? (Av.add ((Au)).toNat)=some (.int .i64 (rd l1 (Au)))) (ds:=[]) #[F,F,F,F,F,F,F,F,F,F,F,F,F,F,F,F,F,F,F,F,F,F,F,F,F,F,F] z16_0 rfl rfl ⟨(kc HB Ab),(kc HB Ac),(kc HB Ad),(kc HB Ai),(kc HB Ak),(kc HB Am)⟩ (fun hHeld=>?_);refine with_tabW fH.tab6 fH.bits6 (fun HT_ HW_=>?_)
   generalize wr.drew=Gu at HB Ae Ah Af Aj Ag Al hHeld ⊢
   refine pu (i:=0) (N:=some 33) #[T,F,F,F,F,F,F,F,F,F,F,F,F,F,F,F,F,F,F,F,F,F,F,F,F,F,F] (any_of HT_.out z16_0) ?_
   refine pu (i:=1) (N:=some 34) #[T,T,F,F,F,F,F,F,F,F,F,F,F,F,F,F,F,F,F,F,F,F,F,F,F,F,F] (any_of HT_.out z16_0) ?_
   refine pu (i:=2) (N:=some 35) #[T,T,T,F,F,F,F,F,F,F,F,F,F,F,F,F,F,F,F,F,F,F,F,F,F,F,F] (any_of HT_.out z16_0) ?_
   refine pu (i:=8) (N:=some 41) #[T,T,T,F,F,F,F,F,T,F,F,F,F,F,F,F,F,F,F,F,F,F,F,F,F,F,F] (any_of HT_.out z16_0) ?_
   refine pu (i:=9) (N:=some 42) #[T,T,T,F,F,F,F,F,T,T,F,F,F,F,F,F,F,F,F,F,F,F,F,F,F,F,F] (any_of HT_.out z16_0) ?_
   refine pu (i:=10) (N:=some 43) #[T,T,T,F,F,F,F,F,T,T,T,F,F,F,F,F,F,F,F,F,F,F,F,F,F,F,F] (any_of HT_.out z16_0) ?_
   refine pu (i:=16) (N:=some 49) #[T,T,T,F,F,F,F,F,T,T,T,F,F,F,F,F,T,F,F,F,F,F,F,F,F,F,F] (any_of HT_.out z16_0) ?_
   refine pu (i:=17) (N:=some 50) #[T,T,T,F,F,F,F,F,T,T,T,F,F,F,F,F,T,T,F,F,F,F,F,F,F,F,F] (any_of HT_.out z16_0) ?_
   refine pu (i:=18) (N:=some 51) #[T,T,T,F,F,F,F,F,T,T,T,F,F,F,F,F,T,T,T,F,F,F,F,F,F,F,F] (any_of HT_.out z16_0) ?_
   refine take_ (i:=3) (N:=some 36) (v:=?_) (a':=?_) #[T,T,T,T,F,F,F,F,T,T,T,F,F,F,F,F,T,T,T,F,F,F,F,F,F,F,F] rfl rfl (take_ofW HT_.out HW_.out z16_0) (fun _ _ _ h=>h) (Or.inl ⟨by rfl,?_⟩) hHeld ?_ ?_
   rotate_left
   ·rintro w' ⟨s0,s1,s2,s3,s4,s5⟩
    go_simp
    with_reducible rfl
   rotate_left
   ·exact acq
   refine take_ (i:=11) (N:=some 44) (v:=?_) (a':=?_) #[T,T,T,T,F,F,F,F,T,T,T,T,F,F,F,F,T,T,T,F,F,F,F,F,F,F,F] rfl rfl (take_ofW HT_.out HW_.out z16_0) (fun _ _ _ h=>h) (Or.inl ⟨by rfl,?_⟩) hHeld ?_ ?_
   rotate_left
   ·rintro w' ⟨s0,s1,s2,s3,s4,s5⟩
    go_simp
    with_reducible rfl
   rotate_left
   ·exact acq
   refine take_ (i:=19) (N:=some 52) (v:=?_) (a':=?_) #[T,T,T,T,F,F,F,F,T,T,T,T,F,F,F,F,T,T,T,T,F,F,F,F,F,F,F] rfl rfl (take_ofW HT_.out HW_.out z16_0) (fun _ _ _ h=>h) (Or.inl ⟨by rfl,?_⟩) hHeld ?_ ?_
   rotate_left
   ·rintro w' ⟨s0,s1,s2,s3,s4,s5⟩
    go_simp
    with_reducible rfl
   rotate_left
   ·exact acq
   refine one_ (i:=4) (N:=some 37) #[T,T,T,T,T,F,F,F,T,T,T,T,F,F,F,F,T,T,T,T,F,F,F,F,F,F,F] rfl rfl (one_of HT_.out z16_0) (by decide) (fun K hK=>?_)
   refine goes_ Try.func70 z16_0 rfl #[.int .i64 (rd (rd_L1 l0 Aa) 0)] (by rfl) rfl rfl ln_16 ?_
   with_reducible refine(gP.calls (rd (rd_L1 l0 Aa) 0) Cn _ Cw.out).mono ?_
   rintro e Gv ⟨rfl,hb⟩
   refine⟨_,rfl,?_⟩
   replace HB:=Az.mk (bwT bw_16 hb)
   (try clear hb)
   (try clear hb2)
   (try clear hk)
   (try clear hi)
   refine hK.out _ _ ⟨(kc HB Ab),(kc HB Ac),(kc HB Ad),(kc HB Ai),(kc HB Ak),(kc HB Am)⟩ (fun hHeld=>?_)
   clear hK K
   refine norm_ (a':=?_) ?_ ?_
   rotate_left
   ·show Act.put _ (some 37) _=_
    exact acq
   refine pu (i:=5) (N:=some 38) #[T,T,T,T,T,T,F,F,T,T,T,T,F,F,F,F,T,T,T,T,F,F,F,F,F,F,F] (any_of HT_.out z16_0) ?_
   refine pu (i:=6) (N:=some 39) #[T,T,T,T,T,T,T,F,T,T,T,T,F,F,F,F,T,T,T,T,F,F,F,F,F,F,F] (any_of HT_.out z16_0) ?_
   refine take_ (i:=7) (N:=some 40) (v:=?_) (a':=?_) #[T,T,T,T,T,T,T,T,T,T,T,T,F,F,F,F,T,T,T,T,F,F,F,F,F,F,F] rfl rfl (take_ofW HT_.out HW_.out z16_0) (fun _ _ _ h=>h) (Or.inl ⟨by rfl,?_⟩) hHeld ?_ ?_
   rotate_left
   ·rintro w' ⟨s0,s1,s2,s3,s4,s5⟩
    go_simp
    with_reducible rfl
   rotate_left
   ·exact acq
   refine one_ (i:=12) (N:=some 45) #[T,T,T,T,T,T,T,T,T,T,T,T,T,F,F,F,T,T,T,T,F,F,F,F,F,F,F] rfl rfl (one_of HT_.out z16_0) (by decide) (fun K hK=>?_)
   refine goes_ Try.func70 z16_0 rfl #[.int .i64 (rd (rd_L1 l0 Aa) 1)] (by rfl) rfl rfl ln_16 ?_
   with_reducible refine(gP.calls (rd (rd_L1 l0 Aa) 1) Bs _ Dc.out).mono ?_
   rintro e Gw ⟨rfl,hb⟩
   refine⟨_,rfl,?_⟩
   replace HB:=Az.mk (bwT bw_16 hb)
   (try clear hb)
   (try clear hb2)
   (try clear hk)
   (try clear hi)
   refine hK.out _ _ ⟨(kc HB Ab),(kc HB Ac),(kc HB Ad),(kc HB Ai),(kc HB Ak),(kc HB Am)⟩ (fun hHeld=>?_)
   clear hK K
   refine norm_ (a':=?_) ?_ ?_
   rotate_left
   ·show Act.put _ (some 45) _=_
    exact acq
   refine pu (i:=13) (N:=some 46) #[T,T,T,T,T,T,T,T,T,T,T,T,T,T,F,F,T,T,T,T,F,F,F,F,F,F,F] (any_of HT_.out z16_0) ?_
   refine pu (i:=14) (N:=some 47) #[T,T,T,T,T,T,T,T,T,T,T,T,T,T,T,F,T,T,T,T,F,F,F,F,F,F,F] (any_of HT_.out z16_0) ?_
   refine take_ (i:=15) (N:=some 48) (v:=?_) (a':=?_) #[T,T,T,T,T,T,T,T,T,T,T,T,T,T,T,T,T,T,T,T,F,F,F,F,F,F,F] rfl rfl (take_ofW HT_.out HW_.out z16_0) (fun _ _ _ h=>h) (Or.inl ⟨by rfl,?_⟩) hHeld ?_ ?_
   rotate_left
   ·rintro w' ⟨s0,s1,s2,s3,s4,s5⟩
    go_simp
    with_reducible rfl
   rotate_left
   ·exact acq
   refine one_ (i:=20) (N:=some 53) #[T,T,T,T,T,T,T,T,T,T,T,T,T,T,T,T,T,T,T,T,T,F,F,F,F,F,F] rfl rfl (one_of HT_.out z16_0) (by decide) (fun K hK=>?_)
   refine goes_ Try.func70 z16_0 rfl #[.int .i64 (rd (rd_L1 l0 Aa) 2)] (by rfl) rfl rfl ln_16 ?_
   with_reducible refine(gP.calls (rd (rd_L1 l0 Aa) 2) Ba _ Df.out).mono ?_
   rintro e Gx ⟨rfl,hb⟩
   refine⟨_,rfl,?_⟩
   replace HB:=Az.mk (bwT bw_16 hb)
   (try clear hb)
   (try clear hb2)
   (try clear hk)
   (try clear hi)
   refine hK.out _ _ ⟨(kc HB Ab),(kc HB Ac),(kc HB Ad),(kc HB Ai),(kc HB Ak),(kc HB Am)⟩ (fun hHeld=>?_)
   clear hK K
   refine norm_ (a':=?_) ?_ ?_
   rotate_left
   ·show Act.put _ (some 53) _=_
    exact acq
   refine pu (i:=21) (N:=some 54) #[T,T,T,T,T,T,T,T,T,T,T,T,T,T,T,T,T,T,T,T,T,T,F,F,F,F,F] (any_of HT_.out z16_0) ?_
   refine pu (i:=22) (N:=some 55) #[T,T,T,T,T,T,T,T,T,T,T,T,T,T,T,T,T,T,T,T,T,T,T,F,F,F,F] (any_of HT_.out z16_0) ?_
   refine pu (i:=24) (N:=some 7) #[T,T,T,T,T,T,T,T,T,T,T,T,T,T,T,T,T,T,T,T,T,T,T,F,T,F,F] (any_of HT_.out z16_0) ?_
   refine pu (i:=25) (N:=some 8) #[T,T,T,T,T,T,T,T,T,T,T,T,T,T,T,T,T,T,T,T,T,T,T,F,T,T,F] (any_of HT_.out z16_0) ?_
   refine take_ (i:=23) (N:=some 56) (v:=?_) (a':=?_) #[T,T,T,T,T,T,T,T,T,T,T,T,T,T,T,T,T,T,T,T,T,T,T,T,T,T,F] rfl rfl (take_ofW HT_.out HW_.out z16_0) (fun _ _ _ h=>h) (Or.inl ⟨by rfl,?_⟩) hHeld ?_ ?_
   rotate_left
   ·rintro w' ⟨s0,s1,s2,s3,s4,s5⟩
    go_simp
    with_reducible rfl
   rotate_left
   ·exact acq
   refine pu (i:=26) (N:=some 9) #[T,T,T,T,T,T,T,T,T,T,T,T,T,T,T,T,T,T,T,T,T,T,T,T,T,T,T] (any_of HT_.out z16_0) ?_
   refine done_ (done_of HT_.out z16_0) ?_
   try go_wp2
   go_roundg k2
   case measure=>have:=Eh.out;have:=HK2.out;omega
   case rel=>exact⟨(wrap64 (Aa+1)),rq2,H',⟨by have:=Eh.out;have:=HK2.out;omega⟩,⟨bw_16⟩⟩
end
/-- What lies behind a joiner's pointer: block p holds the slice, its row is owned, apart from p. -/
structure Jn (w:World) (base p:Nat) (A:Option Addr) (c:Nat) (xs:List Int):Prop where
 lo:base≤p
 cell:w.cell? ⟨p,0,none⟩=some (.slice A xs.length c)
 row:Kd.R (Kd.int .i64) 3 w base (fun k=>k≠p) (.slice A xs.length c) xs
theorem Jn.below {w w':World}{base p:Nat}{A:Option Addr}{c:Nat}{xs:List Int} (h:Jn w base p A c xs) (hb:Below w.heap.size w w'):Jn w' base p A c xs:=
 ⟨h.lo,(hb.cell (World.block_lt_of_cell? w _ h.cell)).trans h.cell,Kd.R_below h.row hb⟩
theorem Jn.drewN {w:World}{base p:Nat}{A:Option Addr}{c:Nat}{xs:List Int} (h:Jn w base p A c xs) (n:Nat):Jn (w.drewN n) base p A c xs:=h.below (pbN (Below.refl _ _) n)
theorem Jn.C {w:World}{base p:Nat}{A:Option Addr}{c:Nat}{xs:List Int} (h:Jn w base p A c xs):Kd.C (Kd.int .i64) w A xs.length xs:=(Kd.R_reads' h.row).2.2
theorem Jn.lower {w:World}{base base' p:Nat}{A:Option Addr}{c:Nat}{xs:List Int} (h:Jn w base p A c xs) (hb:base'≤base):Jn w base' p A c xs:=⟨Nat.le_trans hb h.lo,h.cell,Kd.R_lower h.row hb⟩
def joiner_top.l0:Nat→List Int→Int→Option Int
 |0,_,_=>none
 |k+1,xs,i=>if 0≤i then(if i<(xs.length:Int) then(if rd xs i=i then some i else joiner_top.l0 k xs (rd xs i))else none)else none
theorem joiner_top.calls (k:Nat) (p:Addr) (A:Option Addr) (c:Nat) (xs:List Int) (i r:Int) (w:World) (hp:w.cell? p=some (.slice A xs.length c)) (hr:Kd.C (Kd.int .i64) w A xs.length xs) (h:joiner_top.l0 k xs i=some r):
  Calls Try.prog 40 #[.pointer (some p), .int .i64 i] w fun e w'=>e= .returned (.int .i64 r)∧Drawn0 w w':=by
 have HR:=Az.mk hr
 have H':=Az.mk h
 clear hr h
 go_enter Try.func40,Try.ntmps40
 go_wp2
 go_loopg [1] k (fun kq v1 w'=>∃i_1:Int,v1= .int .i64 i_1∧Az (joiner_top.l0 kq xs i_1=some r)∧Az (kq≤k)∧Drawn0 w w')
 case atStart=>exact⟨i,rfl,H',⟨Nat.le_refl _⟩,Drawn0.refl _⟩
 clear H'
 obtain⟨i_1,rfl,HA,HK1,⟨m1,rfl⟩⟩:=hrel
 cases gk with
 |zero=>exact absurd HA.out (by simp[joiner_top.l0])
 |succ k1=>
  have H:=HA.out
  clear HA
  simp only[joiner_top.l0]at H
  by_cases b1:0≤i_1
  rotate_left
  ·rw[ig b1]at H
   exact absurd H (by simp)
  rw[ip b1]at H
  by_cases b2:i_1<(xs.length:Int)
  rotate_left
  ·rw[ig b2]at H
   exact absurd H (by simp)
  rw[ip b2]at H
  obtain⟨ad,rfl,hx⟩:=Kd.at_int HR.out i_1 b1 b2
  replace b1:=ets b1
  replace b2:=ets b2
  obtain⟨X,hX⟩:∃j_:Int,rd xs i_1=j_:=⟨_,rfl⟩
  rw[hX]at H hx
  clear hX
  by_cases b3:X=i_1
  ·rw[ip b3]at H
   have b3b:(X != i_1)=false:=bne_eq_false_iff_eq.mpr b3
   clear b3
   obtain rfl:=Option.some.inj H
   go_wp2
   go_ret
   exact⟨rfl,kd⟩
  rw[ig b3]at H
  have b3b:(X != i_1)=true:=bne_iff_ne.mpr b3
  clear b3
  have H':=Az.mk H
  clear H
  go_wp2
  go_roundg k1
  case measure=>have:=HK1.out;omega
  case rel=>exact⟨X,rfl,H',⟨by have:=HK1.out;omega⟩,kd⟩
def joiner_join.put (xs:List Int) (p q:Int):Option (List Int):=if 0≤p then(if p<(xs.length:Int)then some (xs.set p.toNat q)else none)else none
def joiner_join.f (k:Nat) (xs:List Int) (a b:Int):Option (List Int):=(joiner_top.l0 k xs a).bind fun p=>((joiner_top.l0 k xs b).bind fun q=>(if p>q then joiner_join.put xs p q else joiner_join.put xs q p))
theorem joiner_join.put_len {xs ys:List Int}{p q:Int} (h:joiner_join.put xs p q=some ys):ys.length=xs.length:=by
 unfold joiner_join.put at h
 by_cases b1:0≤p
 rotate_left
 ·rw[ig b1]at h
  exact absurd h (by simp)
 rw[ip b1]at h
 by_cases b2:p<(xs.length:Int)
 ·rw[ip b2]at h
  obtain rfl:=Option.some.inj h
  exact List.length_set ..
 rw[ig b2]at h
 exact absurd h (by simp)
theorem joiner_join.calls (k:Nat) (p:Nat) (A:Option Addr) (c:Nat) (xs ys:List Int) (a b:Int) (w0 w:World) (hB:Below w0.heap.size w0 w) (hJ:Jn w w0.heap.size p A c xs) (h:joiner_join.f k xs a b=some ys):
  Calls Try.prog 55 #[.pointer (some ⟨p,0,none⟩), .int .i64 a, .int .i64 b] w fun e w'=>e= .returned (.tuple #[])∧Jn w' w0.heap.size p A c ys∧Below w0.heap.size w0 w':=by
 have HB:=Az.mk hB
 have HJ:=Az.mk hJ
 clear hB hJ
 unfold joiner_join.f at h
 obtain⟨P,T1,h⟩:=be.mp h
 obtain⟨Q,T2,h⟩:=be.mp h
 have T1:=Az.mk T1
 have T2:=Az.mk T2
 have K:∀(i r:Int),joiner_top.l0 k xs i=some r→∀W,Drawn0 w W→Calls Try.prog 40 #[.pointer (some ⟨p,0,none⟩), .int .i64 i] W fun e w'=>e= .returned (.int .i64 r)∧Drawn0 W w':=by
  rintro i r ht W ⟨n,rfl⟩
  have J:=HJ.out.drewN n
  exact joiner_top.calls k _ A c xs i r _ J.cell J.C ht
 have K1:=K _ _ T1.out
 have K2:=K _ _ T2.out
 clear K T1 T2
 have key:∀(u v:Int),joiner_join.put xs u v=some ys→∃g:Nat,A=some ⟨g,0,none⟩∧(0≤u∧u<(xs.length:Int))∧w.cell? ⟨g,u.toNat,none⟩=some (.int .i64 (rd xs u))∧w.frozen? ⟨g,u.toNat,none⟩=false∧∀W,Drawn0 w W→Jn (W.setCell ⟨g,u.toNat,none⟩ (.int .i64 v)) w0.heap.size p A c ys∧Below w0.heap.size w0 (W.setCell ⟨g,u.toNat,none⟩ (.int .i64 v)):=by
  intro u v hput
  have hlen:=joiner_join.put_len hput
  unfold joiner_join.put at hput
  by_cases b1:0≤u
  rotate_left
  ·rw[ig b1]at hput
   exact absurd hput (by simp)
  rw[ip b1]at hput
  by_cases b2:u<(xs.length:Int)
  rotate_left
  ·rw[ig b2]at hput
   exact absurd hput (by simp)
  rw[ip b2]at hput
  obtain rfl:=Option.some.inj hput
  obtain⟨g,cap,eg,hg1,_⟩:=Kd.R_form HJ.out.row (by omega)
  injection eg with ea en ec
  subst ea
  subst ec
  have hne:g≠p:=HJ.out.row.1 g rfl
  obtain⟨hx,hf⟩:=Kd.R_celln 0 HJ.out.row u b1 b2
  refine⟨g,rfl,⟨b1,b2⟩,hx,hf,?_⟩
  rintro W ⟨n,rfl⟩
  have J:=HJ.out.drewN n
  have HP:=Kd.R_putg J.row u v
  refine⟨⟨J.lo,?_,?_⟩,bwS (pbN HB.out n) hg1⟩
  ·rw[hlen]
   exact(cell_far (fun e=>hne e.symm) _).trans J.cell
  rw[hlen]
  exact HP.1
 have hcell:=HJ.out.cell
 by_cases b:P>Q
 ·rw[ip b]at h
  obtain⟨g,rfl,⟨b1,b2⟩,hx,hf,fin⟩:=key P Q h
  have FIN:=Az.mk fin
  have bb:decide (P>Q)=true:=ode b
  have bb':decide (Q<P)=true:=ode b
  replace b1:=ets b1
  replace b2:=ets b2
  clear key fin h b HJ HB
  go_enter Try.func55,Try.ntmps55
  go_wp2_with (first
   |(go_at_call 40;refine(K1 _ (by repeat(first|exact Drawn0.refl _|apply Drawn0.step))).mono ?_;rintro e w' ⟨rfl,⟨nd1,rfl⟩⟩;clear K1)
   |(go_at_call 40;refine(K2 _ (by repeat(first|exact Drawn0.refl _|apply Drawn0.step))).mono ?_;rintro e w' ⟨rfl,⟨nd2,rfl⟩⟩;clear K2))
  first|go_end0|((try simp only[Exit.inBlock,Exit.then]);refine bodyPost_ret (results_none rfl _ _ _) rfl ?_)
  exact⟨rfl,(FIN.out _ ⟨_,rfl⟩).1,(FIN.out _ ⟨_,rfl⟩).2⟩
 rw[ig b]at h
 obtain⟨g,rfl,⟨b1,b2⟩,hx,hf,fin⟩:=key Q P h
 have FIN:=Az.mk fin
 have bb:decide (P>Q)=false:=decide_eq_false b
 have bb':decide (Q<P)=false:=decide_eq_false b
 replace b1:=ets b1
 replace b2:=ets b2
 clear key fin h b HJ HB
 go_enter Try.func55,Try.ntmps55
 go_wp2_with (first
  |(go_at_call 40;refine(K1 _ (by repeat(first|exact Drawn0.refl _|apply Drawn0.step))).mono ?_;rintro e w' ⟨rfl,⟨nd1,rfl⟩⟩;clear K1)
  |(go_at_call 40;refine(K2 _ (by repeat(first|exact Drawn0.refl _|apply Drawn0.step))).mono ?_;rintro e w' ⟨rfl,⟨nd2,rfl⟩⟩;clear K2))
 first|go_end0|((try simp only[Exit.inBlock,Exit.then]);refine bodyPost_ret (results_none rfl _ _ _) rfl ?_)
 exact⟨rfl,(FIN.out _ ⟨_,rfl⟩).1,(FIN.out _ ⟨_,rfl⟩).2⟩
def gT.l0:Nat→Int→List Int→Int→Option (List Int)
 |0,_,_,_=>none
 |k+1,n,xs,i=>if i<n then(if xs.length<17592186044415 then gT.l0 k n (xs ++ [i]) (wrap64 (i+1))else none)else some xs
structure Jh (w:World) (base p:Nat) (A:Option Addr) (c:Nat) (xs:List Int):Prop where
 lo:base≤p
 blk:w.heap[p]?= some (.cells #[.slice A xs.length c] 62 (0,0))
 row:Kd.R (Kd.int .i64) 3 w base (fun k=>k≠p) (.slice A xs.length c) xs
theorem jnblk_cell {w:World}{p t:Nat}{v:Value} (h:w.heap[p]?= some (.cells #[v] t (0,0))):w.cell? ⟨p,0,none⟩=some v∧w.frozen? ⟨p,0,none⟩=false:=by
 unfold World.cell? World.frozen?
 rw[h]
 exact⟨rfl,rfl⟩
theorem jnblk_set {w:World}{p t:Nat}{v:Value} (u:Value) (h:w.heap[p]?= some (.cells #[v] t (0,0))):(w.setCell ⟨p,0,none⟩ u).heap[p]?= some (.cells #[u] t (0,0)):=by
 unfold World.setCell
 show(w.heap.modify p _)[p]?= _
 rw[Array.getElem?_modify,ip rfl,h]
 rfl
theorem Jh.J {w:World}{base p:Nat}{A:Option Addr}{c:Nat}{xs:List Int} (h:Jh w base p A c xs):Jn w base p A c xs:=⟨h.lo,(jnblk_cell h.blk).1,h.row⟩
theorem gT.calls (k:Nat) (n:Int) (xs:List Int) (w0 w:World) (hB:Below w0.heap.size w0 w) (h:gT.l0 k n [] 0=some xs):
  Calls Try.prog 53 #[.int .i64 n] w fun e w'=>∃(p:Nat) (A:Option Addr) (c:Nat),e= .returned (.pointer (some ⟨p,0,none⟩))∧Jn w' w0.heap.size p A c xs∧Below w0.heap.size w0 w'∧w.heap.size≤p:=by
 have HB:=Az.mk hB
 clear hB
 have H':=Az.mk h
 clear h
 go_enter Try.func53,Try.ntmps53
 go_wp2
 go_loopg [8] k (fun kq v8 w'=>∃(ys:List Int) (i_1:Int) (A:Option Addr) (c:Nat),v8= .int .i64 i_1∧Az (gT.l0 kq n ys i_1=some xs)∧Az (kq≤k)∧Az (Jh w' w0.heap.size w.heap.size A c ys)∧Az (Below w0.heap.size w0 w')∧Az (w.heap.size<w'.heap.size))
 case atStart=>
  refine⟨[],0,none,0,rfl,H',⟨Nat.le_refl _⟩,⟨⟨?_,?_,Kd.R_nil _ _ _ _ _⟩⟩,⟨?_⟩,⟨?_⟩⟩
  ·exact HB.out.size
  ·exact Array.getElem?_push_size
  ·exact HB.out.alloc HB.out.size _
  exact Nat.lt_of_lt_of_eq (Nat.lt_succ_self _) (Array.size_push _).symm
 clear H' HB
 obtain⟨ys,i_1,A,c,rfl,HA,HK1,HJ,HB,HL⟩:=hrel
 cases gk with
 |zero=>exact absurd HA.out (by simp[gT.l0])
 |succ k1=>
  have H:=HA.out
  clear HA
  simp only[gT.l0]at H
  have hx:=(jnblk_cell HJ.out.blk).1
  have hf:=(jnblk_cell HJ.out.blk).2
  by_cases b1:i_1<n
  rotate_left
  ·rw[ig b1]at H
   have b1b:decide (i_1<n)=false:=decide_eq_false b1
   clear b1
   obtain rfl:=Option.some.inj H
   go_wp2
   go_ret
   exact⟨_,rfl,⟨A,c,HJ.out.J⟩,HB.out,Nat.le_refl _⟩
  rw[ip b1]at H
  by_cases b2:ys.length<17592186044415
  rotate_left
  ·rw[ig b2]at H
   exact absurd H (by simp)
  rw[ip b2]at H
  have H':=Az.mk H
  have LM:=Az.mk b2
  have b1b:=ode b1
  clear H b1 b2
  go_wp2_with (first|((with_reducible refine gate_builtin (b:= .append) (xs:= #[.tmp 15, .tmp 17]) rfl ?_);at_builtin;refine Kd.R_append (Kd.int .i64) (w0:=w0) w0.heap.size rfl (.tmp 15) (.tmp 17) 25 3 (.int .i64 0) 8 rfl Try.underlying25 info3 rfl (by decide) (by omega) (.slice A ys.length c) ys i_1 [.int .i64 i_1] (fun k=>k≠w.heap.size) (fun _=>False) rfl rfl ?aP (fun _ hk=>hk.elim) ?aF ?aO ?aB ?aS ?aL ?_;(case aP=>exact rfl);(case aB=>exact(by repeat(first|(with_reducible first|exact HB.out|apply pbN)|exact HB.out)));(case aF=>exact(fun k_ hk_ e_=>by subst e_;exact absurd (Nat.lt_of_lt_of_le HL.out hk_) (Nat.lt_irrefl _)));(case aO=>exact(by(with_reducible repeat(first|apply Kd.R_alloc|apply Kd.R_drewN|apply Kd.R_drew));exact HJ.out.row));(case aS=>exact HB.out.size);(case aL=>have:=LM.out;omega);intro v1 w6 ho hb hg hat;obtain⟨A2,c2,e2⟩:=Kd.R_slice ho;subst e2;have hk2:=(hg.block w.heap.size HL.out (fun e_=>HJ.out.row.1 w.heap.size e_.symm rfl)).trans HJ.out.blk;have Aa:=Az.mk ho;have HB2:=Az.mk hb;have Ab:=Az.mk (blk_lt hk2);have HK:=Az.mk hk2;have Ac:=(jnblk_cell hk2).1;have Ad:=(jnblk_cell hk2).2;clear ho hb hg hat hk2 hx hf))
  go_roundg k1
  case measure=>have:=HK1.out;omega
  case rel=>
   refine⟨ys ++ [i_1],_,A2,c2,rfl,H',⟨by have:=HK1.out;omega⟩,⟨⟨HJ.out.lo,?_,?_⟩⟩,⟨?_⟩,⟨?_⟩⟩
   ·rw[List.length_append]
    exact jnblk_set _ HK.out
   ·exact Kd.R_far (p:=⟨w.heap.size,0,none⟩) Aa.out (fun k_ hk_=>hk_) _
   ·exact bwS HB2.out HJ.out.lo
   exact Nat.lt_of_lt_of_eq Ab.out (Array.size_modify ..).symm
-- NOT PRINTED: function 40 (impl_joiner_top)
-- NOT PRINTED: function 55 (impl_joiner_join)
theorem size_still (a0:Int) (r:Int) (w:World) (h:gP.f a0=some r):
  Calls Try.prog 70 #[.int .i64 a0] w fun e w'=>e= .returned (.int .i64 r)∧w'=w:=by
 have H:(some (mx a0 (wrap64 (-a0))))=some r:=h
 clear h
 obtain⟨Ab,Aa⟩:∃j_:Int,(mx a0 (wrap64 (-a0)))=j_:=⟨_,rfl⟩
 replace H:(some Ab)=some r:=by first|(rw[Aa]at H;exact H)|(simp only[Aa]at H ⊢;exact H)
 have hji2_:(if a0<(wrap64 (-a0)) then(wrap64 (-a0))else a0)=Ab:=Aa
 obtain rfl:=Option.some.inj H
 go_enter Try.func70,Try.ntmps70
 go_wp2
 go_ret
 exact⟨by first|rfl|(simp[eWn,eWs] <;> rfl)|(simp only[←Aa];first|rfl|(simp[eWn,eWs] <;> rfl))|(simp[*,eWn,eWs] <;> rfl),rfl⟩
/-- The coordinate at a side of a triangle: the closure's own contract. -/
def arcsAt.f (l0:List (List Int)) (l1:List Int) (a2 i:Int):Option Int:=
 if 0≤a2 then(if a2<(l0.length:Int) then(if 0≤Int.tmod i 3 then(if Int.tmod i 3<((rd_L1 l0 a2).length:Int) then((gP.f (rd (rd_L1 l0 a2) (Int.tmod i 3))).bind fun s=>if 0≤wrap64 (s - 1) then(if wrap64 (s - 1)<(l1.length:Int)then some (rd l1 (wrap64 (s - 1)))else none)else none)else none)else none)else none)else none
theorem arcsAt.calls (i:Int) (p1 p2 p3:Addr) (A0:Option Addr) (c0:Nat) (l0:List (List Int)) (A1:Option Addr) (c1:Nat) (l1:List Int) (a2:Int) (r:Int) (w:World)
  (h1:w.cell? p1=some (.slice A1 l1.length c1)) (h2:w.cell? p2=some (.slice A0 l0.length c0)) (h3:w.cell? p3=some (.int .i64 a2))
  (Aa:Kd.C (Kd.slice 3 (Kd.int .i64)) w A0 l0.length l0) (Ab:Kd.C (Kd.int .i64) w A1 l1.length l1) (h:arcsAt.f l0 l1 a2 i=some r):
  Calls Try.prog 84 #[.int .i64 i, .pointer (some p1), .pointer (some p2), .pointer (some p3)] w fun e w'=>e= .returned (.int .i64 r)∧Drawn0 w w':=by
 have Ad:=Az.mk Aa
 have HR1:=Az.mk Ab
 clear Aa Ab
 unfold arcsAt.f at h
 by_cases b1:0≤a2
 rotate_left
 ·rw[ig b1]at h;exact absurd h (by simp)
 rw[ip b1]at h
 by_cases b2:a2<(l0.length:Int)
 rotate_left
 ·rw[ig b2]at h;exact absurd h (by simp)
 rw[ip b2]at h
 by_cases b3:0≤Int.tmod i 3
 rotate_left
 ·rw[ig b3]at h;exact absurd h (by simp)
 rw[ip b3]at h
 by_cases b4:Int.tmod i 3<((rd_L1 l0 a2).length:Int)
 rotate_left
 ·rw[ig b4]at h;exact absurd h (by simp)
 rw[ip b4]at h
 obtain⟨s,hs,h⟩:=be.mp h
 by_cases b5:0≤wrap64 (s - 1)
 rotate_left
 ·rw[ig b5]at h;exact absurd h (by simp)
 rw[ip b5]at h
 by_cases b6:wrap64 (s - 1)<(l1.length:Int)
 rotate_left
 ·rw[ig b6]at h;exact absurd h (by simp)
 rw[ip b6]at h
 obtain rfl:=Option.some.inj h
 obtain⟨Ag,A2,c2,rfl,Ah,_,Ae⟩:=at_L1 Ad.out a2 b1 b2
 obtain⟨Ai,rfl,Ac⟩:=Kd.at_int Ae (Int.tmod i 3) b3 b4
 obtain⟨Aj,rfl,Af⟩:=Kd.at_int HR1.out (wrap64 (s - 1)) b5 b6
 have HS:=Az.mk hs
 clear hs
 obtain⟨X,hX⟩:∃j_:Int,rd (rd_L1 l0 a2) (Int.tmod i 3)=j_:=⟨_,rfl⟩
 obtain⟨Y,hY⟩:∃j_:Int,Int.tmod i 3=j_:=⟨_,rfl⟩
 obtain⟨Z,hZ⟩:∃j_:Int,wrap64 (s - 1)=j_:=⟨_,rfl⟩
 have hZw:(IntKind.i64.wrap (s - 1))=Z:=(i64_w _).trans hZ
 rw[hX]at Ac
 rw[hY]at b3 b4 Ac
 rw[hZ]at b5 b6 Af
 have SS:Az (gP.f X=some s):=⟨by rw[←hX];exact HS.out⟩
 clear HS hX
 replace b1:=ets b1
 replace b2:=ets b2
 replace b3:=ets b3
 replace b4:=ets b4
 replace b5:=ets b5
 replace b6:=ets b6
 go_enter Try.func84,Try.ntmps84
 go_wp2
 go_quiet ((go_at_call 70;refine Calls.quiet_of_same (size_still X s _ SS.out)))
 go_wp2
 go_ret
 exact⟨by rw[hZ];rfl,⟨⟨_,rfl⟩⟩⟩
theorem arcs_drewN (w:World) (n:Nat) (a:Addr):(w.drewN n).cell? a=w.cell? a:=by simp
theorem arcs_new (w:World) (v:Value) (t:TypeId):(w.alloc (.cells #[v] t)).cell? ⟨w.heap.size,0,none⟩=some v:=by
 have h:=cell_one_new w v t 0 v rfl
 exact h
theorem arcs_old {w:World}{a:Addr}{v:Value} (h:w.cell? a=some v) (o:Obj):(w.alloc o).cell? a=some v:=
 ((Below.alloc (Below.refl w.heap.size w) (Nat.le_refl _) o).cell (World.block_lt_of_cell? w _ h)).trans h
def jG.f (l0:List (List Int)) (l1:List Int) (a2 a3:Int):Option Int:=
 (arcsAt.f l0 l1 a2 a3).bind fun t1=>((arcsAt.f l0 l1 a2 (wrap64 (a3+1))).bind fun t2=>((arcsAt.f l0 l1 a2 (wrap64 (a3+2))).bind fun t3=>(some (wrap64 (Int.tdiv (wrap64 ((wrap64 (t1+t2)) - t3)) 2)))))
theorem jG.calls (A0:Option Addr) (c0:Nat) (l0:List (List Int)) (A1:Option Addr) (c1:Nat) (l1:List Int) (a2:Int) (a3:Int) (r:Int) (w:World) (Aa:Kd.C (Kd.slice 3 (Kd.int .i64)) w A0 l0.length l0) (Ad:l0.length≤c0) (Ab:Kd.C (Kd.int .i64) w A1 l1.length l1) (Ae:l1.length≤c1) (h:jG.f l0 l1 a2 a3=some r):
  Calls Try.prog 68 #[.slice A0 l0.length c0, .slice A1 l1.length c1, .int .i64 a2, .int .i64 a3] w fun e w'=>e= .returned (.int .i64 r)∧Below w.heap.size w w':=by
 have HB:=Az.mk (Below.refl w.heap.size w)
 have Ac:=Az.mk Aa
 have HR1:=Az.mk Ab
 clear Aa Ab
 unfold jG.f at h
 obtain⟨t1,T1,h⟩:=be.mp h
 obtain⟨t2,T2,h⟩:=be.mp h
 obtain⟨t3,T3,h⟩:=be.mp h
 obtain rfl:=Option.some.inj h
 obtain⟨WW,hWW⟩:∃v,((w.alloc (.cells #[.slice A0 l0.length c0] 24)).alloc (.cells #[.slice A1 l1.length c1] 25)).alloc (.cells #[.int .i64 a2] 3)=v:=⟨_,rfl⟩
 obtain⟨W1,e1⟩:∃v,w.alloc (.cells #[.slice A0 l0.length c0] 24)=v:=⟨_,rfl⟩
 obtain⟨W2,e2⟩:∃v,W1.alloc (.cells #[.slice A1 l1.length c1] 25)=v:=⟨_,rfl⟩
 have e3:W2.alloc (.cells #[.int .i64 a2] 3)=WW:=by rw[←e2, ←e1];exact hWW
 have s1:W1.heap.size=w.heap.size+1:=by rw[←e1];exact Array.size_push _
 have s2:W2.heap.size=w.heap.size+1+1:=by rw[←e2, ←s1];exact Array.size_push _
 have g2:WW.cell? ⟨w.heap.size,0,none⟩=some (.slice A0 l0.length c0):=by
  rw[←e3];refine arcs_old ?_ _
  rw[←e2];refine arcs_old ?_ _
  rw[←e1];exact arcs_new _ _ _
 have g1:WW.cell? ⟨w.heap.size+1,0,none⟩=some (.slice A1 l1.length c1):=by
  rw[←e3];refine arcs_old ?_ _
  rw[←s1, ←e2];exact arcs_new _ _ _
 have g3:WW.cell? ⟨w.heap.size+1+1,0,none⟩=some (.int .i64 a2):=by
  rw[←e3, ←s2];exact arcs_new _ _ _
 clear e1 e2 e3 s1 s2
 have g4:Kd.C (Kd.slice 3 (Kd.int .i64)) WW A0 l0.length l0:=by
  rw[←hWW]
  exact Kd.C_alloc (Kd.C_alloc (Kd.C_alloc Ac.out _) _) _
 have g5:Kd.C (Kd.int .i64) WW A1 l1.length l1:=by
  rw[←hWW]
  exact Kd.C_alloc (Kd.C_alloc (Kd.C_alloc HR1.out _) _) _
 have hb:Below w.heap.size w WW:=by
  rw[←hWW]
  repeat(first|(with_reducible first|exact HB.out|apply bwA))
 have KK:∀i t,arcsAt.f l0 l1 a2 i=some t→∀W',Drawn0 WW W'→Calls Try.prog 84 #[.int .i64 i, .pointer (some ⟨w.heap.size+1,0,none⟩), .pointer (some ⟨w.heap.size,0,none⟩), .pointer (some ⟨w.heap.size+1+1,0,none⟩)] W' fun e w'=>e= .returned (.int .i64 t)∧Drawn0 W' w':=by
  rintro i t ht W' ⟨n,rfl⟩
  exact arcsAt.calls i _ _ _ A0 c0 l0 A1 c1 l1 a2 t _ ((arcs_drewN _ _ _).trans g1) ((arcs_drewN _ _ _).trans g2) ((arcs_drewN _ _ _).trans g3) (Kd.C_drewN g4 _) (Kd.C_drewN g5 _) ht
 have K1:=KK _ _ T1
 have K2:=KK _ _ T2
 have K3:=KK _ _ T3
 clear KK g1 g2 g3 g4 g5
 go_enter Try.func68,Try.ntmps68
 go_upto_region 2 with (fail)
 go_wp2_with (first
  |(go_at_call 84;refine(K1 _ (by repeat(first|exact Drawn0.refl _|apply Drawn0.step))).mono ?_;rintro e w' ⟨rfl,⟨nd1,rfl⟩⟩;clear K1)
  |(go_at_call 84;refine(K2 _ (by repeat(first|exact Drawn0.refl _|apply Drawn0.step))).mono ?_;rintro e w' ⟨rfl,⟨nd2,rfl⟩⟩;clear K2)
  |(go_at_call 84;refine(K3 _ (by repeat(first|exact Drawn0.refl _|apply Drawn0.step))).mono ?_;rintro e w' ⟨rfl,⟨nd3,rfl⟩⟩;clear K3))
 go_ret
 exact⟨rfl,pbN hb _⟩
section
open Bool renaming true → T, false → F
theorem cv_goes {P:Program}{ops:Array Oper}{Q:Exit→Act→World→Prop}{oi:Oper}{N:Option Tmp}{a:Act}{w:World}{K:Act→World→Prop}{f:FuncId}{fn:Func}{ars:Array Operand}{ts:Array TypeId}{c:Operand}{caps:Array Value} (hf:P.funcs[f]?= some fn) (hname:(fn.name== "runtime.NumGoroutine")=false) (hb:fn.body.isSome=true) (args:Array Value)
  (hw:Region.wanted oi (yielded ops a.tmps)=true) (hN:oi.dst=N) (hop:oi.op= .call { callee:= .value c,args:=ars,argTypes:=ts }) (hc:a.eval c= .func (.func f) #[] caps) (hargs:ars.map a.eval ++ caps=args)
  (h:Calls P f args w fun e w'=>∃v,e= .returned v∧K (a.put N v) w'):if Region.wanted oi (yielded ops a.tmps)=true then Oper.wp P oi a w K Q else K (a.put N undef) w:=by
 refine call_ f args hw hN ?_ h
 have he:=enters_ hf hname hb args w
 unfold execOp
 simp[hop,resolve,Deferred.ofValue,invoke,hc,hargs,he]
def curvesPt.f (fs xs:List Int) (side p:Int):Option Int:=(gP.f side).bind fun z=>(if side<0 then(if 0≤wrap64 (z - 1) then(if wrap64 (z - 1)<(xs.length:Int) then(if wrap64 (z - 1)<(fs.length:Int)then some (wrap64 (rd fs (wrap64 (z - 1))+wrap64 (wrap64 (rd xs (wrap64 (z - 1)) - 1) - p)))else none)else none)else none) else(if 0≤wrap64 (z - 1) then(if wrap64 (z - 1)<(fs.length:Int)then some (wrap64 (rd fs (wrap64 (z - 1))+p))else none)else none))
theorem curvesPt.calls (side p:Int) (p1 p2:Addr) (A1:Option Addr) (c1:Nat) (xs:List Int) (AF:Option Addr) (cF:Nat) (fs:List Int) (r:Int) (w:World) (h1:w.cell? p1=some (.slice A1 xs.length c1)) (h2:w.cell? p2=some (.slice AF fs.length cF)) (Aa:Kd.C (Kd.int .i64) w A1 xs.length xs) (hrF:Kd.C (Kd.int .i64) w AF fs.length fs) (h:curvesPt.f fs xs side p=some r):
  Calls Try.prog 77 #[.int .i64 side, .int .i64 p, .pointer (some p1), .pointer (some p2)] w fun e w'=>e= .returned (.int .i64 r)∧Drawn0 w w':=by
 have HR1:=Az.mk Aa
 have HRF:=Az.mk hrF
 clear Aa hrF
 unfold curvesPt.f at h
 replace h:=be.mp h
 obtain⟨z,hz,h⟩:=h
 have SS:=Az.mk hz
 clear hz
 obtain⟨Z,hZ⟩:∃j_:Int,wrap64 (z - 1)=j_:=⟨_,rfl⟩
 have hZw:IntKind.i64.wrap (z - 1)=Z:=(i64_w _).trans hZ
 rw[hZ]at h
 by_cases b1:side<0
 rotate_left
 ·rw[ig b1]at h
  by_cases b2:0≤Z
  rotate_left
  ·rw[ig b2]at h;exact absurd h (by simp)
  rw[ip b2]at h
  by_cases b4:Z<(fs.length:Int)
  rotate_left
  ·rw[ig b4]at h;exact absurd h (by simp)
  rw[ip b4]at h
  obtain rfl:=Option.some.inj h
  obtain⟨Ab,rfl,Ac⟩:=Kd.at_int HRF.out Z b2 b4
  have b1b:decide (side<0)=false:=decide_eq_false b1
  replace b2:=ets b2
  replace b4:=ets b4
  clear b1
  go_enter Try.func77,Try.ntmps77
  go_wp2_with (first
   |(go_at_call 70;refine(size_still side z _ SS.out).mono ?_;rintro e w' ⟨rfl,hsame⟩;subst hsame))
  go_ret
  exact⟨rfl,by repeat(first|exact Drawn0.refl _|apply Drawn0.step|exact⟨_,rfl⟩)⟩
 rw[ip b1]at h
 by_cases b2:0≤Z
 rotate_left
 ·rw[ig b2]at h;exact absurd h (by simp)
 rw[ip b2]at h
 by_cases b3:Z<(xs.length:Int)
 rotate_left
 ·rw[ig b3]at h;exact absurd h (by simp)
 rw[ip b3]at h
 by_cases b4:Z<(fs.length:Int)
 rotate_left
 ·rw[ig b4]at h;exact absurd h (by simp)
 rw[ip b4]at h
 obtain rfl:=Option.some.inj h
 obtain⟨Ad,rfl,Ae⟩:=Kd.at_int HR1.out Z b2 b3
 obtain⟨Ab,rfl,Ac⟩:=Kd.at_int HRF.out Z b2 b4
 have b1b:decide (side<0)=true:=ode b1
 replace b2:=ets b2
 replace b3:=ets b3
 replace b4:=ets b4
 clear b1
 go_enter Try.func77,Try.ntmps77
 go_wp2_with (first
  |(go_at_call 70;refine(size_still side z _ SS.out).mono ?_;rintro e w' ⟨rfl,hsame⟩;subst hsame))
 go_ret
 exact⟨rfl,by repeat(first|exact Drawn0.refl _|apply Drawn0.step|exact⟨_,rfl⟩)⟩
def fM.l0:Nat→List Int→List Int→Int→Int→Option (List Int × Int)
 |0,_,_,_,_=>none
 |k+1,xs,fs,n,i=>if i<(xs.length:Int) then(if 0≤i then(if fs.length<17592186044415 then fM.l0 k xs (fs ++ [n]) (wrap64 (n+rd xs i)) (wrap64 (i+1))else none)else none)else some (fs,n)
mutual
def fM.l1:Nat→List (List Int)→List Int→List Int→List Int→Int→Option (List Int)
 |0,_,_,_,_,_=>none
 |k+1,t,xs,fs,up,i=>if i<(t.length:Int) then(if 0≤i then(fM.l2 k t xs fs up i 0)else none) else(some up)
def fM.l2:Nat→List (List Int)→List Int→List Int→List Int→Int→Int→Option (List Int)
 |0,_,_,_,_,_,_=>none
 |k+1,t,xs,fs,up,i,j=>if j<3 then(if 0≤j then(if j<((rd_L1 t i).length:Int) then(if 0≤Int.tmod (wrap64 (j+1)) 3 then(if Int.tmod (wrap64 (j+1)) 3<((rd_L1 t i).length:Int) then((jG.f t xs i j).bind fun c=>(fM.l3 k t xs fs up i j (rd (rd_L1 t i) j) (rd (rd_L1 t i) (Int.tmod (wrap64 (j+1)) 3)) c 0))else none)else none)else none)else none) else(fM.l1 k t xs fs up (wrap64 (i+1)))
def fM.l3:Nat→List (List Int)→List Int→List Int→List Int→Int→Int→Int→Int→Int→Int→Option (List Int)
 |0,_,_,_,_,_,_,_,_,_,_=>none
 |k+1,t,xs,fs,up,i,j,a,b,c,m=>if m<c then((gP.f a).bind fun z=>(if 0≤wrap64 (z - 1) then(if wrap64 (z - 1)<(xs.length:Int) then((curvesPt.f fs xs a (wrap64 (wrap64 (rd xs (wrap64 (z - 1)) - 1) - m))).bind fun pa=>((curvesPt.f fs xs b m).bind fun pb=>((joiner_join.f k up pa pb).bind fun zs=>(fM.l3 k t xs fs zs i j a b c (wrap64 (m+1))))))else none)else none)) else(fM.l2 k t xs fs up i (wrap64 (j+1)))
end
def fM.f (k:Nat) (t:List (List Int)) (xs:List Int):Option (List Int):=(fM.l0 k xs [] 0 0).bind fun p=>((gT.l0 k p.2 [] 0).bind fun up=>fM.l1 k t xs p.1 up 0)
theorem R_zero {w:World}{base e g:Nat}{ok:Nat→Prop} (hg:base≤g) (hh:w.heap[g]?= some (.cells #[] e (0,0))) (hok:ok g):Kd.R (Kd.int .i64) e w base ok (.slice (some ⟨g,0,none⟩) 0 0) []:=
 ⟨fun k hk=>by
  have:g=k:=by simpa[Value.ownBlock] using hk
  subst this
  exact hok,[],⟨rfl, .inr ⟨g,0,#[],rfl,hg,hh,Nat.le_refl _,Nat.zero_le _,rfl,rfl⟩⟩,Reps.none _ _⟩
/-- The boxes of the row that came in and of the row of first numbers. -/
structure Cb (w:World) (b:Nat) (vx:Value) (A:Option Addr) (c:Nat) (fs:List Int):Prop where
 bx:w.heap[b]?= some (.cells #[vx] 25 (0,0))
 bf:w.heap[b+2]?= some (.cells #[.slice A fs.length c] 25 (0,0))
 row:Kd.R (Kd.int .i64) 3 w b (fun k=>k≠b∧k≠b+2) (.slice A fs.length c) fs
 lt:b+2<w.heap.size
def fM.T16:Bool × List (List Nat × List Nat):=(true,[([],[]),([],[]),([0,1],[0,1]),([2],[2]),([],[]),([],[]),([5],[5]),([6],[6]),([4,7],[4,7]),([8],[8]),([3,0,1,2,3],[3]),([9,10,0,1,2,3,4,5,6,7,8,9,10],[9])])
def fM.B16:List Nat:=[0,0,3,7,0,0,32,96,240,496,15,2047]
theorem fM.tab16:rtab .any (opsOf Try.f39 16)=fM.T16:=by kernel_rfl
theorem fM.bits16:waitsOk fM.T16.2 fM.B16=true:=by kernel_rfl
def fM.T20:Bool × List (List Nat × List Nat):=(true,[([],[]),([],[]),([],[]),([],[]),([],[]),([4],[4]),([5],[5]),([3,6],[3,6]),([7],[7]),([8],[8]),([],[]),([9,10],[9,10]),([1,2,11,5],[1,2,11]),([],[]),([],[]),([],[]),([13,14,15,12],[13,14,15]),([0,12,16,16],[0,12,16])])
def fM.B20:List Nat:=[0,0,0,0,0,16,48,120,248,504,0,2040,4094,0,0,0,65534,131071]
theorem fM.tab20:rtab .any (opsOf Try.f39 20)=fM.T20:=by kernel_rfl
theorem fM.bits20:waitsOk fM.T20.2 fM.B20=true:=by kernel_rfl
set_option maxHeartbeats 16000000 in
theorem fM.calls (k:Nat) (A0:Option Addr) (c0:Nat) (l0:List (List Int)) (A1:Option Addr) (c1:Nat) (l1:List Int) (xs:List Int) (w:World) (Ad:Kd.C (Kd.slice 3 (Kd.int .i64)) w A0 l0.length l0) (Ae:l0.length≤c0) (Af:Kd.C (Kd.int .i64) w A1 l1.length l1) (Ag:l1.length≤c1) (h:fM.f k l0 l1=some xs):
  Calls Try.prog 39 #[.slice A0 l0.length c0, .slice A1 l1.length c1] w fun e w'=>∃(p:Nat) (A:Option Addr) (c:Nat),e= .returned (.pointer (some ⟨p,0,none⟩))∧Jn w' w.heap.size p A c xs∧Below w.heap.size w w':=by
 have Ah:=Az.mk Ad
 have Al:=Az.mk Ae
 have HR1:=Az.mk Af
 have Am:=Az.mk Ag
 clear Ad Ae Af Ag
 unfold fM.f at h
 replace h:=be.mp h
 obtain⟨⟨fs,nn⟩,T0,h⟩:=h
 dsimp only at h
 replace h:=be.mp h
 obtain⟨ns,T1,h⟩:=h
 have T0:=Az.mk T0
 have T1:=Az.mk T1
 have HM:=Az.mk h
 clear h
 obtain⟨WW,hWW⟩:∃v,((w.alloc (.cells #[.slice A1 l1.length c1] 25)).alloc (.cells #[] 3)).alloc (.cells #[.slice (some ⟨w.heap.size+1,0,none⟩) 0 0] 25)=v:=⟨_,rfl⟩
 obtain⟨Wa,eWa⟩:∃v,w.alloc (.cells #[.slice A1 l1.length c1] 25)=v:=⟨_,rfl⟩
 obtain⟨Wb,eWb⟩:∃v,Wa.alloc (.cells #[] 3)=v:=⟨_,rfl⟩
 have eWc:Wb.alloc (.cells #[.slice (some ⟨w.heap.size+1,0,none⟩) 0 0] 25)=WW:=by rw[←eWb, ←eWa];exact hWW
 have sWa:Wa.heap.size=w.heap.size+1:=by rw[←eWa];exact Array.size_push _
 have sWb:Wb.heap.size=w.heap.size+2:=by rw[←eWb];exact(Array.size_push _).trans (by rw[sWa])
 have sWc:WW.heap.size=w.heap.size+3:=by rw[←eWc];exact(Array.size_push _).trans (by rw[sWb])
 have bWa:Wa.heap[w.heap.size]?= some (.cells #[.slice A1 l1.length c1] 25 (0,0)):=by rw[←eWa];exact Array.getElem?_push_size
 have bWb:Wb.heap[w.heap.size+1]?= some (.cells #[] 3 (0,0)):=by rw[←eWb, ←sWa];exact Array.getElem?_push_size
 have bWc:WW.heap[w.heap.size+2]?= some (.cells #[.slice (some ⟨w.heap.size+1,0,none⟩) 0 0] 25 (0,0)):=by rw[←eWc, ←sWb];exact Array.getElem?_push_size
 have kab:Below Wa.heap.size Wa Wb:=by rw[←eWb];exact bwA (Below.refl _ _) _
 have kbc:Below Wb.heap.size Wb WW:=by rw[←eWc];exact bwA (Below.refl _ _) _
 have bx0:WW.heap[w.heap.size]?= some (.cells #[.slice A1 l1.length c1] 25 (0,0)):=(kbc.block _ (by rw[sWb];omega)).trans ((kab.block _ (by rw[sWa];omega)).trans bWa)
 have br0:WW.heap[w.heap.size+1]?= some (.cells #[] 3 (0,0)):=(kbc.block _ (by rw[sWb];omega)).trans bWb
 have CB0:=Az.mk (show Cb WW w.heap.size (.slice A1 l1.length c1) (some ⟨w.heap.size+1,0,none⟩) 0 [] from⟨bx0,bWc,R_zero (Nat.le_succ _) br0 ⟨by omega,by omega⟩,by rw[sWc];omega⟩)
 have BW0:=Az.mk (show Below w.heap.size w WW from by rw[←hWW];exact bwA (bwA (bwA (Below.refl _ _) _) _) _)
 have hxW:=(jnblk_cell bx0).1
 clear eWa eWb eWc sWa sWb sWc bWa bWb bWc kab kbc bx0 br0
 go_enter Try.func39,Try.ntmps39
 go_wp2
 go_loopg [6,20] k (fun kq v6 Ao w'=>∃(fs_1:List Int) (n_1 i_1:Int) (A:Option Addr) (c:Nat),v6= .int .i64 n_1∧Ao= .int .i64 i_1∧Az (fM.l0 kq l1 fs_1 n_1 i_1=some (fs,nn))∧Az (kq≤k)∧Az (Cb w' w.heap.size (.slice A1 l1.length c1) A c fs_1)∧Az (Below w.heap.size w w'))
 case atStart=>
  exact⟨[],0,0,_,0,rfl,rfl,T0,⟨Nat.le_refl _⟩,(by first|exact CB0|(rw[hWW];exact CB0)),(by first|exact BW0|(rw[hWW];exact BW0))⟩
 clear T0 CB0 BW0 hxW
 obtain⟨fs_1,n_1,i_1,AF,cF,rfl,rfl,HA,HK1,HC,HB⟩:=hrel
 cases gk with
 |zero=>exact absurd HA.out (by simp[fM.l0])
 |succ k1=>
  have H:=HA.out
  clear HA
  simp only[fM.l0]at H
  have hxf:=(jnblk_cell HC.out.bf).1
  have hff:=(jnblk_cell HC.out.bf).2
  by_cases b1:i_1<(l1.length:Int)
  ·rw[ip b1]at H
   by_cases b0:0≤i_1
   rotate_left
   ·rw[ig b0]at H
    exact absurd H (by simp)
   rw[ip b0]at H
   by_cases b2:fs_1.length<17592186044415
   rotate_left
   ·rw[ig b2]at H
    exact absurd H (by simp)
   rw[ip b2]at H
   have H':=Az.mk H
   have LM:=Az.mk b2
   obtain⟨adx,rfl,Aa⟩:=Kd.at_int HR1.out i_1 b0 b1
   replace Aa:=kc HB Aa
   have b1b:=ode b1
   replace b0:=ets b0
   replace b1:=ets b1
   clear H b2
   go_wp2_with (first|((with_reducible refine gate_builtin (b:= .append) (xs:= #[.tmp 24, .tmp 26]) rfl ?_);at_builtin;refine Kd.R_append (Kd.int .i64) (w0:=w) w.heap.size rfl (.tmp 24) (.tmp 26) 25 3 (.int .i64 0) 8 rfl Try.underlying25 info3 rfl (by decide) (by omega) (.slice AF fs_1.length cF) fs_1 n_1 [.int .i64 n_1] (fun k=>k≠w.heap.size∧k≠w.heap.size+2) (fun _=>False) rfl rfl ?aP (fun _ hk=>hk.elim) ?aF ?aO ?aB ?aS ?aL ?_;(case aP=>exact rfl);(case aB=>exact(by repeat(first|(with_reducible first|exact HB.out|apply pbN)|exact HB.out)));(case aF=>exact(fun k_ hk_=>⟨fun e_=>by subst e_;exact absurd (Nat.lt_of_lt_of_le (Nat.lt_of_le_of_lt (Nat.le_add_right _ 2) HC.out.lt) hk_) (Nat.lt_irrefl _),fun e_=>by subst e_;exact absurd (Nat.lt_of_lt_of_le HC.out.lt hk_) (Nat.lt_irrefl _)⟩));(case aO=>exact(by(with_reducible repeat(first|apply Kd.R_alloc|apply Kd.R_drewN|apply Kd.R_drew));exact HC.out.row));(case aS=>exact HB.out.size);(case aL=>have:=LM.out;omega);intro v1 w6 ho hb hg hat;obtain⟨A2,c2,e2⟩:=Kd.R_slice ho;subst e2;have hkx:=(hg.block w.heap.size (Nat.lt_of_le_of_lt (Nat.le_add_right _ 2) HC.out.lt) (fun e_=>(HC.out.row.1 w.heap.size e_.symm).1 rfl)).trans HC.out.bx;have hkf:=(hg.block (w.heap.size+2) HC.out.lt (fun e_=>(HC.out.row.1 (w.heap.size+2) e_.symm).2 rfl)).trans HC.out.bf;have Ap:=Az.mk ho;have HB2:=Az.mk hb;have Aq:=Az.mk (blk_lt hkf);have HKX:=Az.mk hkx;have HKF:=Az.mk hkf;have Ax:=(jnblk_cell hkf).1;have Ay:=(jnblk_cell hkf).2;clear ho hb hg hat hkx hkf hxf hff))
   go_roundg k1
   case measure=>have:=HK1.out;omega
   case rel=>
    refine⟨fs_1 ++ [n_1],_,_,A2,c2,rfl,rfl,H',⟨by have:=HK1.out;omega⟩,⟨⟨?_,?_,?_,?_⟩⟩,⟨?_⟩⟩
    ·exact(Below.heap_setCell _ ⟨w.heap.size+2,0,none⟩ _ w.heap.size (fun e_=>absurd e_ (by show ¬w.heap.size=w.heap.size+2;omega))).trans HKX.out
    ·rw[List.length_append]
     exact jnblk_set _ HKF.out
    ·exact Kd.R_far (p:=⟨w.heap.size+2,0,none⟩) Ap.out (fun k_ hk_=>hk_.2) _
    ·exact Nat.lt_of_lt_of_eq Aq.out (Array.size_modify ..).symm
    exact bwS HB2.out (Nat.le_add_right _ 2)
  rw[ig b1]at H
  have b1b:decide (i_1<(l1.length:Int))=false:=decide_eq_false b1
  clear b1
  rename World=>W1
  have He:=Option.some.inj H
  obtain⟨rfl,rfl⟩:=Prod.mk.injEq .. ▸ He
  clear H He
  have hpx:=Az.mk (jnblk_cell HC.out.bx).1
  have hpf:=Az.mk hxf
  have Ab:=Az.mk (Kd.C_below HR1.out HB.out)
  have HT1:=Az.mk (Kd.C_below Ah.out HB.out)
  have HF1:=Az.mk (Kd.R_reads' HC.out.row).2.2
  have HB0:=HB
  clear Ah HR1 hxf hff HB
  have hpx0:=hpx.out
  go_wp2_with (first
   |(go_at_call 53;refine(gT.calls k _ ns W1 _ (by first|exact Below.refl _ _|exact pbN (Below.refl _ _) _) T1.out).mono ?_;rintro e W2 ⟨p,AJ,cJ,rfl,hj,hb,_⟩;have HJ:=Az.mk hj;have HB:=Az.mk hb;clear hj hb T1 hpx0))
  go_loopg [37] k (fun kq As w'=>∃(up_1:List Int) (i_1:Int),As= .int .i64 i_1∧Az (fM.l1 kq l0 l1 fs_1 up_1 i_1=some xs)∧Az (kq≤k)∧Az (Jn w' W1.heap.size p AJ cJ up_1)∧Az (Below W1.heap.size W1 w'))
  case atStart=>exact⟨ns,0,rfl,HM,⟨Nat.le_refl _⟩,HJ,HB⟩
  clear HM HJ HB
  obtain⟨up_1,i_2,rfl,HA,HK2,HJ,HB⟩:=hrel
  cases gk with
  |zero=>exact absurd HA.out (by simp[fM.l1])
  |succ k2=>
   have H:=HA.out
   clear HA
   simp only[fM.l1]at H
   by_cases b2:i_2<(l0.length:Int)
   rotate_left
   ·rw[ig b2]at H
    have b2b:decide (i_2<(l0.length:Int))=false:=decide_eq_false b2
    clear b2
    obtain rfl:=Option.some.inj H
    go_wp2
    go_ret
    exact⟨_,rfl,⟨_,_,HJ.out.lower HB0.out.size⟩,bwT HB0.out HB.out⟩
   rw[ip b2]at H
   by_cases b1:0≤i_2
   rotate_left
   ·rw[ig b1]at H
    exact absurd H (by simp)
   rw[ip b1]at H
   obtain⟨ad,Ar,cr,er,Aa,Ai,Aj⟩:=at_L1 HT1.out i_2 b1 b2
   subst er
   replace Aa:=(HB.out.cell (World.block_lt_of_cell? W1 _ Aa)).trans Aa
   have HRr:=Az.mk Aj
   have HCr:=Az.mk Ai
   clear Aj Ai
   have H':=Az.mk H
   clear H
   have b2b:=ode b2
   replace b1:=ets b1
   replace b2:=ets b2
   go_wp2
   go_loopg [42] k2 (fun kq Au w'=>∃(up_2:List Int) (j_1:Int),Au= .int .i64 j_1∧Az (fM.l2 kq l0 l1 fs_1 up_2 i_2 j_1=some xs)∧Az (kq≤k2)∧Az (Jn w' W1.heap.size p AJ cJ up_2)∧Az (Below W1.heap.size W1 w'))
   case atStart=>exact⟨up_1,0,rfl,H',⟨Nat.le_refl _⟩,HJ,HB⟩
   clear H' HJ HB Aa
   obtain⟨up_2,j_1,rfl,HA,HK3,HJ,HB⟩:=hrel
   cases gk with
   |zero=>exact absurd HA.out (by simp[fM.l2])
   |succ k3=>
    have H:=HA.out
    clear HA
    simp only[fM.l2]at H
    by_cases d1:j_1<3
    rotate_left
    ·rw[ig d1]at H
     have d1b:decide (j_1<3)=false:=decide_eq_false d1
     clear d1
     have H':=Az.mk H
     clear H
     go_wp2
     go_roundg k3
     case measure=>have:=HK1.out;have:=HK2.out;have:=HK3.out;omega
     case rel=>exact⟨up_2,_,rfl,H',⟨by have:=HK2.out;have:=HK3.out;omega⟩,HJ,HB⟩
    rw[ip d1]at H
    by_cases d2:0≤j_1
    rotate_left
    ·rw[ig d2]at H
     exact absurd H (by simp)
    rw[ip d2]at H
    by_cases d3:j_1<((rd_L1 l0 i_2).length:Int)
    rotate_left
    ·rw[ig d3]at H
     exact absurd H (by simp)
    rw[ip d3]at H
    obtain⟨J1,hJ1⟩:∃j_:Int,wrap64 (j_1+1)=j_:=⟨_,rfl⟩
    have hJ1w:IntKind.i64.wrap (j_1+1)=J1:=(i64_w _).trans hJ1
    rw[hJ1]at H
    obtain⟨P,hP⟩:∃j_:Int,Int.tmod J1 3=j_:=⟨_,rfl⟩
    rw[hP]at H
    by_cases d4:0≤P
    rotate_left
    ·rw[ig d4]at H
     exact absurd H (by simp)
    rw[ip d4]at H
    by_cases d5:P<((rd_L1 l0 i_2).length:Int)
    rotate_left
    ·rw[ig d5]at H
     exact absurd H (by simp)
    rw[ip d5]at H
    replace H:=be.mp H
    obtain⟨cc,Tc,H⟩:=H
    have Tc:=Az.mk Tc
    obtain⟨Ac,e2,hxa⟩:=Kd.at_int HRr.out j_1 d2 d3
    subst e2
    obtain⟨Av,e3,hxb⟩:=Kd.at_int HRr.out P d4 d5
    obtain rfl:Ac=Av:=by injection e3
    replace hxa:=(HB.out.cell (World.block_lt_of_cell? W1 _ hxa)).trans hxa
    replace hxb:=(HB.out.cell (World.block_lt_of_cell? W1 _ hxb)).trans hxb
    obtain⟨Xa,hXa⟩:∃j_:Int,rd (rd_L1 l0 i_2) j_1=j_:=⟨_,rfl⟩
    obtain⟨Xb,hXb⟩:∃j_:Int,rd (rd_L1 l0 i_2) P=j_:=⟨_,rfl⟩
    rw[hXa]at hxa H
    rw[hXb]at hxb H
    clear hXa hXb e3
    have H':=Az.mk H
    clear H
    have d1b:=ode d1
    clear d1
    replace d2:=ets d2
    replace d3:=ets d3
    replace d4:=ets d4
    replace d5:=ets d5
    go_upto_region 16 with (fail)
    refine start_ (n:=12) (S:=fun w'=>w'.cell? (Ac.add j_1.toNat)=some (.int .i64 Xa)∧w'.cell? (Ac.add P.toNat)=some (.int .i64 Xb)) (ds:=[]) #[F,F,F,F,F,F,F,F,F,F,F,F] (by kernel_rfl) rfl rfl ⟨by simpa using hxa,by simpa using hxb⟩ (fun hHeld=>?_)
    refine with_tabW fM.tab16 fM.bits16 (fun HT_ HW_=>?_)
    have HBn:=Az.mk (bwD HB.out)
    have HJn:=Az.mk (HJ.out.below (bwD (Below.refl _ _)))
    clear HB HJ
    have HB:=HBn
    have HJ:=HJn
    clear HBn HJn
    clear hxa hxb
    generalize wr.drew=wd at HB HJ hHeld ⊢
    refine pu (i:=0) (N:=some 45) #[T,F,F,F,F,F,F,F,F,F,F,F] (any_of HT_.out (by kernel_rfl)) ?_
    refine pu (i:=1) (N:=some 46) #[T,T,F,F,F,F,F,F,F,F,F,F] (any_of HT_.out (by kernel_rfl)) ?_
    refine pu (i:=2) (N:=some 47) #[T,T,T,F,F,F,F,F,F,F,F,F] (any_of HT_.out (by kernel_rfl)) ?_
    refine pu (i:=4) (N:=some 49) #[T,T,T,F,T,F,F,F,F,F,F,F] (any_of HT_.out (by kernel_rfl)) ?_
    refine pu (i:=5) (N:=some 50) #[T,T,T,F,T,T,F,F,F,F,F,F] (any_of HT_.out (by kernel_rfl)) ?_
    refine pu (i:=6) (N:=some 51) #[T,T,T,F,T,T,T,F,F,F,F,F] (any_of HT_.out (by kernel_rfl)) ?_
    refine pu (i:=7) (N:=some 52) #[T,T,T,F,T,T,T,T,F,F,F,F] (any_of HT_.out (by kernel_rfl)) ?_
    refine pu (i:=8) (N:=some 53) #[T,T,T,F,T,T,T,T,T,F,F,F] (any_of HT_.out (by kernel_rfl)) ?_
    refine take_ (i:=3) (N:=some 48) (v:=?_) (a':=?_) #[T,T,T,T,T,T,T,T,T,F,F,F] rfl rfl (take_ofW HT_.out HW_.out (by kernel_rfl)) (fun _ _ _ h=>h) (Or.inl ⟨by rfl,?_⟩) hHeld ?_ ?_
    rotate_left
    ·rintro w' ⟨s0,s1⟩
     go_simp
     with_reducible rfl
    rotate_left
    ·exact acq
    refine pu (i:=10) (N:=some 14) #[T,T,T,T,T,T,T,T,T,F,T,F] (any_of HT_.out (by kernel_rfl)) ?_
    refine take_ (i:=9) (N:=some 54) (v:=?_) (a':=?_) #[T,T,T,T,T,T,T,T,T,T,T,F] rfl rfl (take_ofW HT_.out HW_.out (by kernel_rfl)) (fun _ _ _ h=>h) (Or.inl ⟨by rfl,?_⟩) hHeld ?_ ?_
    rotate_left
    ·rintro w' ⟨s0,s1⟩
     go_simp
     with_reducible rfl
    rotate_left
    ·exact acq
    refine pu (i:=11) (N:=some 15) #[T,T,T,T,T,T,T,T,T,T,T,T] (any_of HT_.out (by kernel_rfl)) ?_
    refine done_ (done_of HT_.out (by kernel_rfl)) ?_
    have hpx0:=(HB.out.cell (World.block_lt_of_cell? W1 _ hpx.out)).trans hpx.out
    clear hHeld
    go_wp2_with (first
     |(go_at_call 68;refine(jG.calls _ c0 l0 _ c1 l1 i_2 j_1 cc _ (by first|exact Kd.C_drewN (Kd.C_below HT1.out HB.out) _|exact Kd.C_below HT1.out HB.out) Al.out (by first|exact Kd.C_drewN (Kd.C_below Ab.out HB.out) _|exact Kd.C_below Ab.out HB.out) Am.out Tc.out).mono ?_;rintro e W3 ⟨rfl,hb⟩;have HB3:=Az.mk (bwT (by first|exact HB.out|exact pbN HB.out _) hb);have Ak:=Az.mk (Jn.below (by first|exact HJ.out|exact HJ.out.drewN _) (by first|exact hb));clear hb Tc hpx0 HB HJ;have HB:=HB3;have HJ:=Ak;clear HB3 Ak))
    go_loopg [60] k3 (fun kq Aw w'=>∃(up_3:List Int) (m_1:Int),Aw= .int .i64 m_1∧Az (fM.l3 kq l0 l1 fs_1 up_3 i_2 j_1 Xa Xb cc m_1=some xs)∧Az (kq≤k3)∧Az (Jn w' W1.heap.size p AJ cJ up_3)∧Az (Below W1.heap.size W1 w'))
    case atStart=>exact⟨up_2,0,rfl,H',⟨Nat.le_refl _⟩,HJ,HB⟩
    clear H' HJ HB
    obtain⟨up_3,m_1,rfl,HA,HK4,HJ,HB⟩:=hrel
    cases gk with
    |zero=>exact absurd HA.out (by simp[fM.l3])
    |succ k4=>
     have H:=HA.out
     clear HA
     simp only[fM.l3]at H
     by_cases f1:m_1<cc
     rotate_left
     ·rw[ig f1,hJ1]at H
      have f1b:decide (m_1<cc)=false:=decide_eq_false f1
      clear f1
      have H':=Az.mk H
      clear H
      go_wp2
      go_roundg k4
      case measure=>have:=HK1.out;have:=HK2.out;have:=HK3.out;have:=HK4.out;omega
      case rel=>exact⟨up_3,_,rfl,H',⟨by have:=HK3.out;have:=HK4.out;omega⟩,HJ,HB⟩
     rw[ip f1]at H
     replace H:=be.mp H
     obtain⟨z,Tz,H⟩:=H
     obtain⟨Z,hZ⟩:∃j_:Int,wrap64 (z - 1)=j_:=⟨_,rfl⟩
     have hZw:IntKind.i64.wrap (z - 1)=Z:=(i64_w _).trans hZ
     rw[hZ]at H
     by_cases f2:0≤Z
     rotate_left
     ·rw[ig f2]at H
      exact absurd H (by simp)
     rw[ip f2]at H
     by_cases f3:Z<(l1.length:Int)
     rotate_left
     ·rw[ig f3]at H
      exact absurd H (by simp)
     rw[ip f3]at H
     replace H:=be.mp H
     obtain⟨pa,Ta,H⟩:=H
     replace H:=be.mp H
     obtain⟨pb,Tb,H⟩:=H
     replace H:=be.mp H
     obtain⟨zs,Tj,H⟩:=H
     obtain⟨adx,ex,hxe⟩:=Kd.at_int Ab.out Z f2 f3
     have hxe:=Az.mk hxe
     subst ex
     obtain⟨Xe,hXe⟩:∃j_:Int,rd l1 Z=j_:=⟨_,rfl⟩
     rw[hXe]at hxe Ta
     obtain⟨Q1,hQ1⟩:∃j_:Int,wrap64 (Xe - 1)=j_:=⟨_,rfl⟩
     have hQ1w:IntKind.i64.wrap (Xe - 1)=Q1:=(i64_w _).trans hQ1
     rw[hQ1]at Ta
     obtain⟨Q,hQ⟩:∃j_:Int,wrap64 (Q1 - m_1)=j_:=⟨_,rfl⟩
     have hQw:IntKind.i64.wrap (Q1 - m_1)=Q:=(i64_w _).trans hQ
     rw[hQ]at Ta
     clear hXe
     have Tz:=Az.mk Tz
     have Ta:=Az.mk Ta
     have Tb:=Az.mk Tb
     have Tj:=Az.mk Tj
     have H':=Az.mk H
     clear H
     have f1b:=ode f1
     clear f1
     replace f2:=ets f2
     replace f3:=ets f3
     go_upto_region 20 with (fail)
     refine start_ (n:=18) (S:=fun w'=>w'.cell? ⟨w.heap.size,0,none⟩=some (.slice (some adx) l1.length c1)∧w'.cell? ⟨w.heap.size+2,0,none⟩=some (.slice AF fs_1.length cF)∧w'.cell? (adx.add Z.toNat)=some (.int .i64 Xe)) (ds:=[]) #[F,F,F,F,F,F,F,F,F,F,F,F,F,F,F,F,F,F] (by kernel_rfl) rfl rfl ⟨by simpa using(HB.out.cell (World.block_lt_of_cell? W1 _ hpx.out)).trans hpx.out,by simpa using(HB.out.cell (World.block_lt_of_cell? W1 _ hpf.out)).trans hpf.out,by simpa using(HB.out.cell (World.block_lt_of_cell? W1 _ hxe.out)).trans hxe.out⟩ (fun hHeld=>?_)
     refine with_tabW fM.tab20 fM.bits20 (fun HT_ HW_=>?_)
     have HBn:=Az.mk (bwD HB.out)
     have HJn:=Az.mk (HJ.out.below (bwD (Below.refl _ _)))
     clear HB HJ
     have HB:=HBn
     have HJ:=HJn
     clear HBn HJn
     generalize wr.drew=wd at HB HJ hHeld ⊢
     refine pu (i:=0) (N:=some 63) #[T,F,F,F,F,F,F,F,F,F,F,F,F,F,F,F,F,F] (any_of HT_.out (by kernel_rfl)) ?_
     refine pu (i:=1) (N:=some 64) #[T,T,F,F,F,F,F,F,F,F,F,F,F,F,F,F,F,F] (any_of HT_.out (by kernel_rfl)) ?_
     refine pu (i:=2) (N:=some 65) #[T,T,T,F,F,F,F,F,F,F,F,F,F,F,F,F,F,F] (any_of HT_.out (by kernel_rfl)) ?_
     refine pu (i:=4) (N:=some 67) #[T,T,T,F,T,F,F,F,F,F,F,F,F,F,F,F,F,F] (any_of HT_.out (by kernel_rfl)) ?_
     refine pu (i:=10) (N:=some 73) #[T,T,T,F,T,F,F,F,F,F,T,F,F,F,F,F,F,F] (any_of HT_.out (by kernel_rfl)) ?_
     refine pu (i:=13) (N:=some 76) #[T,T,T,F,T,F,F,F,F,F,T,F,F,T,F,F,F,F] (any_of HT_.out (by kernel_rfl)) ?_
     refine pu (i:=14) (N:=some 77) #[T,T,T,F,T,F,F,F,F,F,T,F,F,T,T,F,F,F] (any_of HT_.out (by kernel_rfl)) ?_
     refine pu (i:=15) (N:=some 78) #[T,T,T,F,T,F,F,F,F,F,T,F,F,T,T,T,F,F] (any_of HT_.out (by kernel_rfl)) ?_
     refine take_ (i:=3) (N:=some 66) (v:=?_) (a':=?_) #[T,T,T,T,T,F,F,F,F,F,T,F,F,T,T,T,F,F] rfl rfl (take_ofW HT_.out HW_.out (by kernel_rfl)) (fun _ _ _ h=>h) (Or.inl ⟨by rfl,?_⟩) hHeld ?_ ?_
     rotate_left
     ·rintro w' ⟨s0,s1,s2⟩
      go_simp
      with_reducible rfl
     rotate_left
     ·exact acq
     refine one_ (i:=5) (N:=some 68) #[T,T,T,T,T,T,F,F,F,F,T,F,F,T,T,T,F,F] rfl rfl (one_of HT_.out (by kernel_rfl)) (by decide) (fun K hK=>?_)
     refine goes_ Try.func70 (by kernel_rfl) rfl #[.int .i64 Xa] (by rfl) rfl rfl (by(try simp only[List.map_toArray,List.map_cons,List.map_nil]);first|done|rfl) ?_
     refine(size_still Xa z _ Tz.out).mono ?_
     rintro e Wc0 ⟨rfl,hsame⟩
     subst hsame
     refine⟨_,rfl,?_⟩
     refine hK.out _ _ ⟨by simpa using hHeld.1,by simpa using hHeld.2.1,by simpa using hHeld.2.2⟩ (fun hHeld=>?_)
     clear hK K
     refine norm_ (a':=?_) ?_ ?_
     rotate_left
     ·show Act.put _ (some 68) _=_
      exact acq
     refine pu (i:=6) (N:=some 69) #[T,T,T,T,T,T,T,F,F,F,T,F,F,T,T,T,F,F] (any_of HT_.out (by kernel_rfl)) ?_
     refine pu (i:=7) (N:=some 70) #[T,T,T,T,T,T,T,T,F,F,T,F,F,T,T,T,F,F] (any_of HT_.out (by kernel_rfl)) ?_
     refine take_ (i:=8) (N:=some 71) (v:=?_) (a':=?_) #[T,T,T,T,T,T,T,T,T,F,T,F,F,T,T,T,F,F] rfl rfl (take_ofW HT_.out HW_.out (by kernel_rfl)) (fun _ _ _ h=>h) (Or.inl ⟨by rfl,?_⟩) hHeld ?_ ?_
     rotate_left
     ·rintro w' ⟨s0,s1,s2⟩
      go_simp
      with_reducible rfl
     rotate_left
     ·exact acq
     refine pu (i:=9) (N:=some 72) #[T,T,T,T,T,T,T,T,T,T,T,F,F,T,T,T,F,F] (any_of HT_.out (by kernel_rfl)) ?_
     refine pu (i:=11) (N:=some 74) #[T,T,T,T,T,T,T,T,T,T,T,T,F,T,T,T,F,F] (any_of HT_.out (by kernel_rfl)) ?_
     refine one_ (i:=12) (N:=some 75) #[T,T,T,T,T,T,T,T,T,T,T,T,T,T,T,T,F,F] rfl rfl (one_of HT_.out (by kernel_rfl)) (by decide) (fun K hK=>?_)
     refine cv_goes Try.func77 (by kernel_rfl) rfl #[.int .i64 Xa, .int .i64 Q, .pointer (some ⟨w.heap.size,0,none⟩), .pointer (some ⟨w.heap.size+2,0,none⟩)] (by rfl) rfl rfl rfl (by simp only[List.map_toArray,List.map_cons,List.map_nil,List.append_toArray,List.cons_append,List.nil_append];first|done|rfl) ?_
     refine(curvesPt.calls Xa Q _ _ (some adx) c1 l1 AF cF fs_1 pa _ hHeld.1 hHeld.2.1 (by repeat(first|exact Kd.C_below Ab.out HB.out|refine Kd.C_drewN ?_ _)) (by repeat(first|exact Kd.C_below HF1.out HB.out|refine Kd.C_drewN ?_ _)) Ta.out).mono ?_
     rintro e Wc1 ⟨rfl,⟨nd1,rfl⟩⟩
     refine⟨_,rfl,?_⟩
     refine hK.out _ _ ⟨by simpa using hHeld.1,by simpa using hHeld.2.1,by simpa using hHeld.2.2⟩ (fun hHeld=>?_)
     clear hK K
     refine norm_ (a':=?_) ?_ ?_
     rotate_left
     ·show Act.put _ (some 75) _=_
      exact acq
     refine one_ (i:=16) (N:=some 79) #[T,T,T,T,T,T,T,T,T,T,T,T,T,T,T,T,T,F] rfl rfl (one_of HT_.out (by kernel_rfl)) (by decide) (fun K hK=>?_)
     refine cv_goes Try.func77 (by kernel_rfl) rfl #[.int .i64 Xb, .int .i64 m_1, .pointer (some ⟨w.heap.size,0,none⟩), .pointer (some ⟨w.heap.size+2,0,none⟩)] (by rfl) rfl rfl rfl (by simp only[List.map_toArray,List.map_cons,List.map_nil,List.append_toArray,List.cons_append,List.nil_append];first|done|rfl) ?_
     refine(curvesPt.calls Xb m_1 _ _ (some adx) c1 l1 AF cF fs_1 pb _ hHeld.1 hHeld.2.1 (by repeat(first|exact Kd.C_below Ab.out HB.out|refine Kd.C_drewN ?_ _)) (by repeat(first|exact Kd.C_below HF1.out HB.out|refine Kd.C_drewN ?_ _)) Tb.out).mono ?_
     rintro e Wc2 ⟨rfl,⟨nd2,rfl⟩⟩
     refine⟨_,rfl,?_⟩
     refine hK.out _ _ ⟨by simpa using hHeld.1,by simpa using hHeld.2.1,by simpa using hHeld.2.2⟩ (fun hHeld=>?_)
     clear hK K
     refine norm_ (a':=?_) ?_ ?_
     rotate_left
     ·show Act.put _ (some 79) _=_
      exact acq
     refine one_ (i:=17) (N:=some 80) #[T,T,T,T,T,T,T,T,T,T,T,T,T,T,T,T,T,T] rfl rfl (one_of HT_.out (by kernel_rfl)) (by decide) (fun K hK=>?_)
     refine goes_ Try.func55 (by kernel_rfl) rfl #[.pointer (some ⟨p,0,none⟩), .int .i64 pa, .int .i64 pb] (by rfl) rfl rfl (by(try simp only[List.map_toArray,List.map_cons,List.map_nil]);first|done|rfl) ?_
     refine(joiner_join.calls k4 p AJ cJ up_3 zs pa pb W1 _ (by repeat(first|exact HB.out|refine pbN ?_ _)) (by repeat(first|exact HJ.out|refine Jn.drewN ?_ _)) Tj.out).mono ?_
     rintro e Wc3 ⟨rfl,hj,hb⟩
     refine⟨_,rfl,?_⟩
     have HJn:=Az.mk hj
     have HBn:=Az.mk hb
     clear HJ HB hj hb
     have HJ:=HJn
     have HB:=HBn
     clear HJn HBn
     refine hK.out _ _ ⟨(HB.out.cell (World.block_lt_of_cell? W1 _ hpx.out)).trans hpx.out,(HB.out.cell (World.block_lt_of_cell? W1 _ hpf.out)).trans hpf.out,(HB.out.cell (World.block_lt_of_cell? W1 _ hxe.out)).trans hxe.out⟩ (fun hHeld=>?_)
     clear hK K
     refine norm_ (a':=?_) ?_ ?_
     rotate_left
     ·show Act.put _ (some 80) _=_
      exact acq
     refine done_ (done_of HT_.out (by kernel_rfl)) ?_
     clear hHeld
     go_wp2
     all_goals (go_roundg k4;(case measure=>have:=HK1.out;have:=HK2.out;have:=HK3.out;have:=HK4.out;omega);(case rel=>exact⟨zs,_,rfl,H',⟨by have:=HK4.out;omega⟩,⟨by repeat(first|exact HJ.out|refine Jn.drewN ?_ _)⟩,⟨by repeat(first|exact HB.out|refine pbN ?_ _)⟩⟩))
end
end Go.Proofs.Ytflbpjijgnmklaa.P

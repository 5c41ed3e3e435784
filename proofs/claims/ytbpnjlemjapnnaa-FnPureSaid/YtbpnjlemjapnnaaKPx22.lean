-- The walks, cut and laid together by this session's tools (prune.py, sq2.py, min.py: shorter names, no needless spaces). Not trusted: Lean checks it.
import Derived.Test.YtbpnjlemjapnnaaKWZip
import Derived.Test.YtbpnjlemjapnnaaKPx17
namespace Go.Proofs.Ytbpnjlemjapnnaa.P
open Go.RowKit Go.Proofs.YtbpnjlemjapnnaaW.PrintWords Go.Proofs.YtbpnjlemjapnnaaW.PrintLast Go.Proofs.YtbpnjlemjapnnaaW.PrintMore
attribute [local go_sem] max2_int min2_int max_two min_two max_three min_three max_four min_four   -- for this text's walks alone
set_option linter.unusedVariables false
set_option linter.unusedSimpArgs false
set_option maxHeartbeats 8000000
set_option maxRecDepth 100000
open Option renaming bind_eq_some_iff → be
section
open Bool renaming true → T, false → F
theorem z22_0 {p:Prop} (h:p:=by kernel_rfl):p:=h
theorem bw_22 {n:Nat}{v v':World} (h:Below n v v':=by repeat(first|(with_reducible first|exact HB.out|apply bwA|apply pbN|apply bwD)|exact HB.out)):Below n v v':=h
theorem ln_22 {P:Prop} (h:P:=by(try simp only[List.map_toArray,List.map_cons,List.map_nil]);first|done|rfl|(simp only[List.length_drop,List.length_take];rfl)):P:=h
mutual
def fP.j0:Nat→List (List Int)→List Int→Bool→Option (Bool)
 |0,_,_,_=>none
 |k+1,x0,x1,x26=>if x26=true then(some false) else(fP.l0 k x1 x0 (x0.length:Int) 0)
def fP.l0:Nat→List Int→List (List Int)→Int→Int→Option (Bool)
 |0,_,_,_,_=>none
 |k+1,x1,x27,x28,x29=>if x29<x28 then(if 0≤x29 then(if x29<(x27.length:Int) then(if 0<((rd_L1 x27 x29).length:Int) then((gM.f (rd (rd_L1 x27 x29) 0)).bind fun t485=>(if 0≤(wrap64 (t485 - 1)) then(if(wrap64 (t485 - 1))<(x1.length:Int) then(if 1<((rd_L1 x27 x29).length:Int) then((gM.f (rd (rd_L1 x27 x29) 1)).bind fun t488=>(if 0≤(wrap64 (t488 - 1)) then(if(wrap64 (t488 - 1))<(x1.length:Int) then(if 2<((rd_L1 x27 x29).length:Int) then((gM.f (rd (rd_L1 x27 x29) 2)).bind fun t491=>(if 0≤(wrap64 (t491 - 1)) then(if(wrap64 (t491 - 1))<(x1.length:Int) then(if(Int.tmod (wrap64 ((wrap64 ((rd x1 (wrap64 (t485 - 1)))+(rd x1 (wrap64 (t488 - 1)))))+(rd x1 (wrap64 (t491 - 1))))) 2)=0 then(if(rd x1 (wrap64 (t485 - 1)))>(wrap64 ((rd x1 (wrap64 (t488 - 1)))+(rd x1 (wrap64 (t491 - 1))))) then(some false) else(if(rd x1 (wrap64 (t488 - 1)))>(wrap64 ((rd x1 (wrap64 (t485 - 1)))+(rd x1 (wrap64 (t491 - 1))))) then(some false) else(if(rd x1 (wrap64 (t491 - 1)))>(wrap64 ((rd x1 (wrap64 (t485 - 1)))+(rd x1 (wrap64 (t488 - 1))))) then(some false) else(fP.l0 k x1 x27 x28 (wrap64 (x29+1)))))) else(some false)) else(none)) else(none))) else(none)) else(none)) else(none))) else(none)) else(none)) else(none))) else(none)) else(none)) else(none)) else(some true)
end
def fP.f (k:Nat) (l0:List (List Int)) (l1:List Int):Option (Bool):=(fE.f k l0).bind fun t481=>(if t481=true then(if(l1.length:Int)=(wrap64 (Int.tdiv (wrap64 (3*(l0.length:Int))) 2)) then((gE.f k l1).bind fun t482=>(fP.j0 k l0 l1 (!t482))) else(fP.j0 k l0 l1 true)) else(fP.j0 k l0 l1 true))
def fP.T6:Bool × List (List Nat × List Nat):=(true,[([],[]),([],[]),([1],[1]),([2],[2]),([3],[3]),([4],[4]),([0,5],[0,5]),([6],[6]),([],[]),([],[]),([9],[9]),([10],[10]),([11,4],[11]),([12],[12]),([8,13],[8,13]),([14],[14]),([],[]),([],[]),([17],[17]),([18],[18]),([19,12],[19]),([20],[20]),([16,21],[16,21]),([22],[22]),([7,20,0,1,2,3,4,5,6,7],[7]),([15,24,0,1,2,3,4,5,6,7,8,9,10,11,12,13,14,15,24],[15]),([23,25,0,1,2,3,4,5,6,7,8,9,10,11,12,13,14,15,16,17,18,19,20,21,22,23,24,25],[23])])
def fP.B6:List Nat:=[0,0,2,6,14,30,63,127,0,0,512,1536,3614,7710,16158,32542,0,0,131072,393216,925214,1973790,4136478,8330782,1974015,18808831,67108863]
theorem fP.tab6:rtab .any (opsOf Try.f28 6)=fP.T6:=by kernel_rfl
theorem fP.bits6:waitsOk fP.T6.2 fP.B6=true:=by kernel_rfl
theorem fP.calls (k:Nat) (A0:Option Addr) (c0:Nat) (l0:List (List Int)) (A1:Option Addr) (c1:Nat) (l1:List Int) (r:Bool) (w:World) (Ec:Kd.C (Kd.slice 3 (Kd.int .i64)) w A0 l0.length l0) (Ed:l0.length≤c0) (Ee:Kd.C (Kd.int .i64) w A1 l1.length l1) (Ef:l1.length≤c1) (h:fP.f k l0 l1=some r):
  Calls Try.prog 28 #[.slice A0 l0.length c0, .slice A1 l1.length c1] w fun e w'=>e= .returned (.bool r)∧Below w.heap.size w w':=by
 have Cx:=Az.mk Ec
 have Ea:=Az.mk Ed
 clear Ec Ed
 have HR1:=Az.mk Ee
 have Ey:=Az.mk Ef
 clear Ee Ef
 have HB:=Az.mk (Below.refl w.heap.size w)
 have H:((fE.f k l0).bind fun Cz=>(if Cz=true then(if(l1.length:Int)=(wrap64 (Int.tdiv (wrap64 (3*(l0.length:Int))) 2)) then((gE.f k l1).bind fun Cw=>(fP.j0 k l0 l1 (!Cw))) else(fP.j0 k l0 l1 true)) else(fP.j0 k l0 l1 true)))=some r:=h
 clear h
 have Eb:=Az.mk H
 clear H
 go_enter Try.func28,Try.ntmps28
 go_upto_region 1 with (fail)
 go_cut [26] (fun Ez wc=>∃(kq:Nat) (Cr:Bool),Ez= .bool Cr∧Az (fP.j0 kq l0 l1 Cr=some r)∧Az (kq≤k)∧Az (Below w.heap.size w wc))
 case first=>
  have H:=Eb.out
  clear Eb
  replace H:=bez H
  obtain⟨Cz,A4,H⟩:=H
  try dsimp only at H
  by_cases c5:Cz=true
  rotate_left
  ·replace c5:=Bool.eq_false_iff.mpr c5
   subst c5
   rw[ig ff]at H
   have H':=Az.mk H
   clear H
   go_wp2_with (first|((with_reducible refine gtC (f:=24) rfl ?_);refine clz Try.func24 (some 11) #[.slice A0 l0.length c0] ?_;(with_reducible refine(fE.calls k _ _ l0 false _ ?Ce ?Cf A4.out).mono ?_);(case Ce=>exact kC (Kd.C_below Cx.out HB.out));(case Cf=>exact Ea.out);rintro e Gb ⟨rfl,hb⟩;refine⟨_,rfl,?_⟩;replace HB:=Az.mk (bwT bw_22 hb);(try clear hb)))
   go_meet
   case rel=>exact⟨_,(true),rq2,H',⟨by first|omega|exact Nat.le_refl _⟩,⟨bw_22⟩⟩
  subst c5
  rw[ip rfl]at H
  by_cases c6:(l1.length:Int)=(wrap64 (Int.tdiv (wrap64 (3*(l0.length:Int))) 2))
  rotate_left
  ·rw[ig c6]at H
   have Cp:=beq_eq_false_iff_ne.mpr c6
   have Da:=bne_iff_ne.mpr c6
   (first|rw[Cp]|(simp only[i64_w,i32_w];rw[Cp])|skip)
   have H':=Az.mk H
   clear H
   go_wp2_with (first|((with_reducible refine gtC (f:=24) rfl ?_);refine clz Try.func24 (some 11) #[.slice A0 l0.length c0] ?_;(with_reducible refine(fE.calls k _ _ l0 true _ ?Ce ?Cf A4.out).mono ?_);(case Ce=>exact kC (Kd.C_below Cx.out HB.out));(case Cf=>exact Ea.out);rintro e w9 ⟨rfl,hb⟩;refine⟨_,rfl,?_⟩;replace HB:=Az.mk (bwT bw_22 hb);(try clear hb)))
   go_meet
   case rel=>exact⟨_,(true),rq2,H',⟨by first|omega|exact Nat.le_refl _⟩,⟨bw_22⟩⟩
  rw[ip c6]at H
  have Cp:=beq_iff_eq.mpr c6
  have Da:=bne_eq_false_iff_eq.mpr c6
  clear c6
  (first|rw[Cp]|(simp only[i64_w,i32_w];rw[Cp])|skip)
  replace H:=bez H
  obtain⟨Cw,A7,H⟩:=H
  try dsimp only at H
  have H':=Az.mk H
  clear H
  go_wp2_with (first|((with_reducible refine gtC (f:=24) rfl ?_);refine clz Try.func24 (some 11) #[.slice A0 l0.length c0] ?_;(with_reducible refine(fE.calls k _ _ l0 true _ ?Ce ?Cf A4.out).mono ?_);(case Ce=>exact kC (Kd.C_below Cx.out HB.out));(case Cf=>exact Ea.out);rintro e w8 ⟨rfl,hb⟩;refine⟨_,rfl,?_⟩;replace HB:=Az.mk (bwT bw_22 hb);(try clear hb))|(go_at_call 59;(with_reducible refine(gE.calls k _ _ l1 Cw _ ?Ce ?Cf A7.out).mono ?_);(case Ce=>exact kC (Kd.C_below HR1.out HB.out));(case Cf=>exact Ey.out);rintro e w' ⟨rfl,⟨nd,rfl⟩⟩))
  go_meet
  case rel=>exact⟨_,(!Cw),rq2,H',⟨by first|omega|exact Nat.le_refl _⟩,⟨bw_22⟩⟩
 clear Eb
 try clear c1
 try clear c5
 try clear c6
 try clear Cp
 try clear Da
 obtain⟨kq,Cr,rfl,HA,Eg,HB⟩:=hcut
 cases kq with
 |zero=>exact absurd HA.out (by simp[fP.j0])
 |succ Eh=>
  have H:=HA.out
  clear HA
  simp only[fP.j0]at H
  by_cases Di:Cr=true
  ·subst Di
   rw[ip rfl]at H
   obtain rfl:=Option.some.inj H
   go_wp2
   go_ret
   exact⟨rq1,bw_22⟩
  replace Di:=Bool.eq_false_iff.mpr Di
  subst Di
  rw[ig ff]at H
  have H':=Az.mk H
  clear H
  go_wp2
  go_loopg [29] Eh (fun kq Ga w'=>∃(Ad:Int),Ga= .int .i64 Ad∧Az (fP.l0 kq l1 l0 (l0.length:Int) Ad=some r)∧Az (kq≤Eh)∧Az (Below w.heap.size w w'))
  case atStart=>exact⟨(0),rq2,H',⟨Nat.le_refl _⟩,⟨bw_22⟩⟩
  clear H'
  try clear c1
  try clear c5
  try clear c6
  try clear Cp
  try clear Da
  try clear Di
  obtain⟨Ad,rfl,HA,HK2,HB⟩:=hrel
  cases gk with
  |zero=>exact absurd HA.out (by simp[fP.l0])
  |succ k2=>
   have H:=HA.out
   clear HA
   simp only[fP.l0]at H
   by_cases Dd:Ad<(l0.length:Int)
   rotate_left
   ·rw[ig Dd]at H
    have Dj:=decide_eq_false Dd
    clear Dd
    obtain rfl:=Option.some.inj H
    go_wp2
    go_ret
    exact⟨rq1,bw_22⟩
   rw[ip Dd]at H
   have Dj:=ode Dd
   clear Dd
   by_cases Dp:0≤Ad
   rotate_left
   ·rw[ig Dp]at H
    exact absurd H (by simp)
   rw[ip Dp]at H
   have Ei:=ode Dp
   clear Dp
   by_cases Dq:Ad<(l0.length:Int)
   rotate_left
   ·rw[ig Dq]at H
    exact absurd H (by simp)
   rw[ip Dq]at H
   have Ej:=ode Dq
   clear Dq
   by_cases Dr:0<((rd_L1 l0 Ad).length:Int)
   rotate_left
   ·rw[ig Dr]at H
    exact absurd H (by simp)
   rw[ip Dr]at H
   have Ek:=ode Dr
   have El:decide (0<(rd_L1 l0 Ad).length)=true:=ode (by omega)
   clear Dr
   replace H:=bez H
   obtain⟨Cq,Cy,H⟩:=H
   try dsimp only at H
   obtain⟨Au,Cc⟩:∃j_:Int,(wrap64 (Cq - 1))=j_:=⟨_,rfl⟩
   replace H:(if 0≤(Au) then(if(Au)<(l1.length:Int) then(if 1<((rd_L1 l0 Ad).length:Int) then((gM.f (rd (rd_L1 l0 Ad) 1)).bind fun Bw=>(if 0≤(wrap64 (Bw - 1)) then(if(wrap64 (Bw - 1))<(l1.length:Int) then(if 2<((rd_L1 l0 Ad).length:Int) then((gM.f (rd (rd_L1 l0 Ad) 2)).bind fun Bf=>(if 0≤(wrap64 (Bf - 1)) then(if(wrap64 (Bf - 1))<(l1.length:Int) then(if(Int.tmod (wrap64 ((wrap64 ((rd l1 (Au))+(rd l1 (wrap64 (Bw - 1)))))+(rd l1 (wrap64 (Bf - 1))))) 2)=0 then(if(rd l1 (Au))>(wrap64 ((rd l1 (wrap64 (Bw - 1)))+(rd l1 (wrap64 (Bf - 1))))) then(some false) else(if(rd l1 (wrap64 (Bw - 1)))>(wrap64 ((rd l1 (Au))+(rd l1 (wrap64 (Bf - 1))))) then(some false) else(if(rd l1 (wrap64 (Bf - 1)))>(wrap64 ((rd l1 (Au))+(rd l1 (wrap64 (Bw - 1))))) then(some false) else(fP.l0 k2 l1 l0 (l0.length:Int) (wrap64 (Ad+1)))))) else(some false)) else(none)) else(none))) else(none)) else(none)) else(none))) else(none)) else(none)) else(none))=some r:=by first|(rw[Cc]at H;exact H)|(simp only[Cc]at H ⊢;exact H)
   (try rw[Cc]at Cy)
   have hji17w:(IntKind.i64.wrap (Cq - 1))=Au:=(i64_w _).trans Cc
   by_cases Ds:0≤(Au)
   rotate_left
   ·rw[ig Ds]at H
    exact absurd H (by simp)
   rw[ip Ds]at H
   have Em:=ode Ds
   clear Ds
   by_cases Dt:(Au)<(l1.length:Int)
   rotate_left
   ·rw[ig Dt]at H
    exact absurd H (by simp)
   rw[ip Dt]at H
   have Eo:=ode Dt
   clear Dt
   by_cases Du:1<((rd_L1 l0 Ad).length:Int)
   rotate_left
   ·rw[ig Du]at H
    exact absurd H (by simp)
   rw[ip Du]at H
   have Ep:=ode Du
   have Er:decide (1<(rd_L1 l0 Ad).length)=true:=ode (by omega)
   clear Du
   replace H:=bez H
   obtain⟨Bw,Db,H⟩:=H
   try dsimp only at H
   obtain⟨Ax,Bx⟩:∃j_:Int,(wrap64 (Bw - 1))=j_:=⟨_,rfl⟩
   replace H:(if 0≤(Ax) then(if(Ax)<(l1.length:Int) then(if 2<((rd_L1 l0 Ad).length:Int) then((gM.f (rd (rd_L1 l0 Ad) 2)).bind fun Bf=>(if 0≤(wrap64 (Bf - 1)) then(if(wrap64 (Bf - 1))<(l1.length:Int) then(if(Int.tmod (wrap64 ((wrap64 ((rd l1 (Au))+(rd l1 (Ax))))+(rd l1 (wrap64 (Bf - 1))))) 2)=0 then(if(rd l1 (Au))>(wrap64 ((rd l1 (Ax))+(rd l1 (wrap64 (Bf - 1))))) then(some false) else(if(rd l1 (Ax))>(wrap64 ((rd l1 (Au))+(rd l1 (wrap64 (Bf - 1))))) then(some false) else(if(rd l1 (wrap64 (Bf - 1)))>(wrap64 ((rd l1 (Au))+(rd l1 (Ax)))) then(some false) else(fP.l0 k2 l1 l0 (l0.length:Int) (wrap64 (Ad+1)))))) else(some false)) else(none)) else(none))) else(none)) else(none)) else(none))=some r:=by first|(rw[Bx]at H;exact H)|(simp only[Bx]at H ⊢;exact H)
   (try rw[Bx]at Cy)
   (try rw[Bx]at Db)
   have hji22w:(IntKind.i64.wrap (Bw - 1))=Ax:=(i64_w _).trans Bx
   by_cases Dv:0≤(Ax)
   rotate_left
   ·rw[ig Dv]at H
    exact absurd H (by simp)
   rw[ip Dv]at H
   have Es:=ode Dv
   clear Dv
   by_cases Dw:(Ax)<(l1.length:Int)
   rotate_left
   ·rw[ig Dw]at H
    exact absurd H (by simp)
   rw[ip Dw]at H
   have Et:=ode Dw
   clear Dw
   by_cases Dx:2<((rd_L1 l0 Ad).length:Int)
   rotate_left
   ·rw[ig Dx]at H
    exact absurd H (by simp)
   rw[ip Dx]at H
   have Eu:=ode Dx
   have Ev:decide (2<(rd_L1 l0 Ad).length)=true:=ode (by omega)
   clear Dx
   replace H:=bez H
   obtain⟨Bf,De,H⟩:=H
   try dsimp only at H
   obtain⟨Ay,Bv⟩:∃j_:Int,(wrap64 (Bf - 1))=j_:=⟨_,rfl⟩
   replace H:(if 0≤(Ay) then(if(Ay)<(l1.length:Int) then(if(Int.tmod (wrap64 ((wrap64 ((rd l1 (Au))+(rd l1 (Ax))))+(rd l1 (Ay)))) 2)=0 then(if(rd l1 (Au))>(wrap64 ((rd l1 (Ax))+(rd l1 (Ay)))) then(some false) else(if(rd l1 (Ax))>(wrap64 ((rd l1 (Au))+(rd l1 (Ay)))) then(some false) else(if(rd l1 (Ay))>(wrap64 ((rd l1 (Au))+(rd l1 (Ax)))) then(some false) else(fP.l0 k2 l1 l0 (l0.length:Int) (wrap64 (Ad+1)))))) else(some false)) else(none)) else(none))=some r:=by first|(rw[Bv]at H;exact H)|(simp only[Bv]at H ⊢;exact H)
   (try rw[Bv]at Cy)
   (try rw[Bv]at Db)
   (try rw[Bv]at De)
   have hji27w:(IntKind.i64.wrap (Bf - 1))=Ay:=(i64_w _).trans Bv
   by_cases Dy:0≤(Ay)
   rotate_left
   ·rw[ig Dy]at H
    exact absurd H (by simp)
   rw[ip Dy]at H
   have Ew:=ode Dy
   clear Dy
   by_cases Dz:(Ay)<(l1.length:Int)
   rotate_left
   ·rw[ig Dz]at H
    exact absurd H (by simp)
   rw[ip Dz]at H
   have Ex:=ode Dz
   clear Dz
   by_cases Dc:(Int.tmod (wrap64 ((wrap64 ((rd l1 (Au))+(rd l1 (Ax))))+(rd l1 (Ay)))) 2)=0
   rotate_left
   ·rw[ig Dc]at H
    have Dk:=beq_eq_false_iff_ne.mpr Dc
    have Dl:=bne_iff_ne.mpr Dc
    obtain rfl:=Option.some.inj H
    have Bh:0≤(Ad:Int):=od
    have Bi:Ad<(l0.length:Int):=od
    obtain⟨Cs,Cg,Ch,Ci,Bb,Bc,Bd⟩:=at_L1 Cx.out Ad Bh Bi
    cases Ci
    replace Bb:=kc HB Bb
    have Av:=Az.mk Bd
    have Cd:=Az.mk Bc
    clear Bd Bc
    replace Bh:=ets Bh
    replace Bi:=ets Bi
    try go_wp2
    replace HB:=Az.mk (bwD HB.out)
    have Bj:0≤(0:Int):=(by omega)
    have Bk:0<((rd_L1 l0 Ad).length:Int):=od
    obtain⟨As,Cj,Ah⟩:=Kd.at_int Av.out 0 Bj Bk
    have Ae:=Ah
    (try rw[show((0:Int)).toNat=0 from rfl]at Ae)
    (try rw[show 0*1=0 from rfl]at Ae)
    (try rw[Addr.add_zero']at Ae)
    cases Cj
    have Ct:(0<(rd_L1 l0 Ad).length)=True:=ets (by omega)
    (try rw[show((0:Int)).toNat=0 from rfl]at Ah)
    (try rw[Addr.add_zero']at Ah)
    replace Ah:=kc HB Ah
    replace Bj:=ets Bj
    replace Bk:=ets Bk
    have Bl:0≤(1:Int):=(by omega)
    have Bm:1<((rd_L1 l0 Ad).length:Int):=od
    obtain⟨By,Ck,Ai⟩:=Kd.at_int Av.out 1 Bl Bm
    have Af:=Ai
    (try rw[show((1:Int)).toNat=1 from rfl]at Af)
    (try rw[show 1*1=1 from rfl]at Af)
    (try simp only[Nat.reduceMul,Nat.reduceEqDiff,Go.Addr.add, ↓reduceIte]at Af)
    obtain rfl:As=By:=(by injection Ck)
    (try simp only[show(1:Int).toNat=1 from rfl,Nat.reduceMul,Nat.reduceEqDiff,Go.Addr.add, ↓reduceIte]at Ai)
    have Cu:(1<(rd_L1 l0 Ad).length)=True:=ets (by omega)
    (try rw[show((1:Int)).toNat=1 from rfl]at Ai)
    replace Ai:=kc HB Ai
    replace Bl:=ets Bl
    replace Bm:=ets Bm
    have Bn:0≤(2:Int):=(by omega)
    have Bo:2<((rd_L1 l0 Ad).length:Int):=od
    obtain⟨Bz,Cl,Aj⟩:=Kd.at_int Av.out 2 Bn Bo
    have Ag:=Aj
    (try rw[show((2:Int)).toNat=2 from rfl]at Ag)
    (try rw[show 2*1=2 from rfl]at Ag)
    (try simp only[Nat.reduceMul,Nat.reduceEqDiff,Go.Addr.add, ↓reduceIte]at Ag)
    obtain rfl:As=Bz:=(by injection Cl)
    (try simp only[show(2:Int).toNat=2 from rfl,Nat.reduceMul,Nat.reduceEqDiff,Go.Addr.add, ↓reduceIte]at Aj)
    have Cv:(2<(rd_L1 l0 Ad).length)=True:=ets (by omega)
    (try rw[show((2:Int)).toNat=2 from rfl]at Aj)
    replace Aj:=kc HB Aj
    replace Bn:=ets Bn
    replace Bo:=ets Bo
    have Bp:0≤((Au):Int):=od
    have Bq:(Au)<(l1.length:Int):=od
    obtain⟨Ba,Cm,Ak⟩:=Kd.at_int HR1.out (Au) Bp Bq
    have Al:=Ak
    cases Cm
    replace Ak:=kc HB Ak
    replace Bp:=ets Bp
    replace Bq:=ets Bq
    have Br:0≤((Ax):Int):=od
    have Bs:(Ax)<(l1.length:Int):=od
    obtain⟨Ca,Cn,Am⟩:=Kd.at_int HR1.out (Ax) Br Bs
    have Ao:=Am
    obtain rfl:Ba=Ca:=(by injection Cn)
    replace Am:=kc HB Am
    replace Br:=ets Br
    replace Bs:=ets Bs
    have Bt:0≤((Ay):Int):=od
    have Bu:(Ay)<(l1.length:Int):=od
    obtain⟨Cb,Co,Ap⟩:=Kd.at_int HR1.out (Ay) Bt Bu
    have Aq:=Ap
    obtain rfl:Ba=Cb:=(by injection Co)
    replace Ap:=kc HB Ap
    replace Bt:=ets Bt
    replace Bu:=ets Bu
    refine start_ (n:=27) (S:=fun w'=>w'.cell? As=some (.int .i64 (rd (rd_L1 l0 Ad) 0))∧w'.cell? ⟨As.block,As.off+1,none⟩=some (.int .i64 (rd (rd_L1 l0 Ad) 1))∧w'.cell? ⟨As.block,As.off+2,none⟩=some (.int .i64 (rd (rd_L1 l0 Ad) 2))∧w'.cell? (Ba.add ((Au)).toNat)=some (.int .i64 (rd l1 (Au)))∧w'.cell? (Ba.add ((Ax)).toNat)=some (.int .i64 (rd l1 (Ax)))∧w'.cell? (Ba.add ((Ay)).toNat)=some (.int .i64 (rd l1 (Ay)))) (ds:=[]) #[F,F,F,F,F,F,F,F,F,F,F,F,F,F,F,F,F,F,F,F,F,F,F,F,F,F,F] z22_0 rfl rfl ⟨(kc HB Ae),(kc HB Af),(kc HB Ag),(kc HB Al),(kc HB Ao),(kc HB Aq)⟩ (fun hHeld=>?_);refine with_tabW fP.tab6 fP.bits6 (fun HT_ HW_=>?_)
    generalize wr.drew=Gc at HB Ah Ak Ai Am Aj Ap hHeld ⊢
    refine pu (i:=0) (N:=some 33) #[T,F,F,F,F,F,F,F,F,F,F,F,F,F,F,F,F,F,F,F,F,F,F,F,F,F,F] (any_of HT_.out z22_0) ?_
    refine pu (i:=1) (N:=some 34) #[T,T,F,F,F,F,F,F,F,F,F,F,F,F,F,F,F,F,F,F,F,F,F,F,F,F,F] (any_of HT_.out z22_0) ?_
    refine pu (i:=2) (N:=some 35) #[T,T,T,F,F,F,F,F,F,F,F,F,F,F,F,F,F,F,F,F,F,F,F,F,F,F,F] (any_of HT_.out z22_0) ?_
    refine pu (i:=8) (N:=some 41) #[T,T,T,F,F,F,F,F,T,F,F,F,F,F,F,F,F,F,F,F,F,F,F,F,F,F,F] (any_of HT_.out z22_0) ?_
    refine pu (i:=9) (N:=some 42) #[T,T,T,F,F,F,F,F,T,T,F,F,F,F,F,F,F,F,F,F,F,F,F,F,F,F,F] (any_of HT_.out z22_0) ?_
    refine pu (i:=10) (N:=some 43) #[T,T,T,F,F,F,F,F,T,T,T,F,F,F,F,F,F,F,F,F,F,F,F,F,F,F,F] (any_of HT_.out z22_0) ?_
    refine pu (i:=16) (N:=some 49) #[T,T,T,F,F,F,F,F,T,T,T,F,F,F,F,F,T,F,F,F,F,F,F,F,F,F,F] (any_of HT_.out z22_0) ?_
    refine pu (i:=17) (N:=some 50) #[T,T,T,F,F,F,F,F,T,T,T,F,F,F,F,F,T,T,F,F,F,F,F,F,F,F,F] (any_of HT_.out z22_0) ?_
    refine pu (i:=18) (N:=some 51) #[T,T,T,F,F,F,F,F,T,T,T,F,F,F,F,F,T,T,T,F,F,F,F,F,F,F,F] (any_of HT_.out z22_0) ?_
    refine take_ (i:=3) (N:=some 36) (v:=?_) (a':=?_) #[T,T,T,T,F,F,F,F,T,T,T,F,F,F,F,F,T,T,T,F,F,F,F,F,F,F,F] rfl rfl (take_ofW HT_.out HW_.out z22_0) (fun _ _ _ h=>h) (Or.inl ⟨by rfl,?_⟩) hHeld ?_ ?_
    rotate_left
    ·rintro w' ⟨s0,s1,s2,s3,s4,s5⟩
     go_simp
     with_reducible rfl
    rotate_left
    ·exact acq
    refine take_ (i:=11) (N:=some 44) (v:=?_) (a':=?_) #[T,T,T,T,F,F,F,F,T,T,T,T,F,F,F,F,T,T,T,F,F,F,F,F,F,F,F] rfl rfl (take_ofW HT_.out HW_.out z22_0) (fun _ _ _ h=>h) (Or.inl ⟨by rfl,?_⟩) hHeld ?_ ?_
    rotate_left
    ·rintro w' ⟨s0,s1,s2,s3,s4,s5⟩
     go_simp
     with_reducible rfl
    rotate_left
    ·exact acq
    refine take_ (i:=19) (N:=some 52) (v:=?_) (a':=?_) #[T,T,T,T,F,F,F,F,T,T,T,T,F,F,F,F,T,T,T,T,F,F,F,F,F,F,F] rfl rfl (take_ofW HT_.out HW_.out z22_0) (fun _ _ _ h=>h) (Or.inl ⟨by rfl,?_⟩) hHeld ?_ ?_
    rotate_left
    ·rintro w' ⟨s0,s1,s2,s3,s4,s5⟩
     go_simp
     with_reducible rfl
    rotate_left
    ·exact acq
    refine one_ (i:=4) (N:=some 37) #[T,T,T,T,T,F,F,F,T,T,T,T,F,F,F,F,T,T,T,T,F,F,F,F,F,F,F] rfl rfl (one_of HT_.out z22_0) (by decide) (fun K hK=>?_)
    refine goes_ Try.func60 z22_0 rfl #[.int .i64 (rd (rd_L1 l0 Ad) 0)] (by rfl) rfl rfl ln_22 ?_
    with_reducible refine(gM.calls (rd (rd_L1 l0 Ad) 0) Cq _ Cy.out).mono ?_
    rintro e Gd ⟨rfl,hb⟩
    refine⟨_,rfl,?_⟩
    replace HB:=Az.mk (bwT bw_22 hb)
    (try clear hb)
    (try clear hb2)
    (try clear hk)
    (try clear hi)
    refine hK.out _ _ ⟨(kc HB Ae),(kc HB Af),(kc HB Ag),(kc HB Al),(kc HB Ao),(kc HB Aq)⟩ (fun hHeld=>?_)
    clear hK K
    refine norm_ (a':=?_) ?_ ?_
    rotate_left
    ·show Act.put _ (some 37) _=_
     exact acq
    refine pu (i:=5) (N:=some 38) #[T,T,T,T,T,T,F,F,T,T,T,T,F,F,F,F,T,T,T,T,F,F,F,F,F,F,F] (any_of HT_.out z22_0) ?_
    refine pu (i:=6) (N:=some 39) #[T,T,T,T,T,T,T,F,T,T,T,T,F,F,F,F,T,T,T,T,F,F,F,F,F,F,F] (any_of HT_.out z22_0) ?_
    refine take_ (i:=7) (N:=some 40) (v:=?_) (a':=?_) #[T,T,T,T,T,T,T,T,T,T,T,T,F,F,F,F,T,T,T,T,F,F,F,F,F,F,F] rfl rfl (take_ofW HT_.out HW_.out z22_0) (fun _ _ _ h=>h) (Or.inl ⟨by rfl,?_⟩) hHeld ?_ ?_
    rotate_left
    ·rintro w' ⟨s0,s1,s2,s3,s4,s5⟩
     go_simp
     with_reducible rfl
    rotate_left
    ·exact acq
    refine one_ (i:=12) (N:=some 45) #[T,T,T,T,T,T,T,T,T,T,T,T,T,F,F,F,T,T,T,T,F,F,F,F,F,F,F] rfl rfl (one_of HT_.out z22_0) (by decide) (fun K hK=>?_)
    refine goes_ Try.func60 z22_0 rfl #[.int .i64 (rd (rd_L1 l0 Ad) 1)] (by rfl) rfl rfl ln_22 ?_
    with_reducible refine(gM.calls (rd (rd_L1 l0 Ad) 1) Bw _ Db.out).mono ?_
    rintro e Ge ⟨rfl,hb⟩
    refine⟨_,rfl,?_⟩
    replace HB:=Az.mk (bwT bw_22 hb)
    (try clear hb)
    (try clear hb2)
    (try clear hk)
    (try clear hi)
    refine hK.out _ _ ⟨(kc HB Ae),(kc HB Af),(kc HB Ag),(kc HB Al),(kc HB Ao),(kc HB Aq)⟩ (fun hHeld=>?_)
    clear hK K
    refine norm_ (a':=?_) ?_ ?_
    rotate_left
    ·show Act.put _ (some 45) _=_
     exact acq
    refine pu (i:=13) (N:=some 46) #[T,T,T,T,T,T,T,T,T,T,T,T,T,T,F,F,T,T,T,T,F,F,F,F,F,F,F] (any_of HT_.out z22_0) ?_
    refine pu (i:=14) (N:=some 47) #[T,T,T,T,T,T,T,T,T,T,T,T,T,T,T,F,T,T,T,T,F,F,F,F,F,F,F] (any_of HT_.out z22_0) ?_
    refine take_ (i:=15) (N:=some 48) (v:=?_) (a':=?_) #[T,T,T,T,T,T,T,T,T,T,T,T,T,T,T,T,T,T,T,T,F,F,F,F,F,F,F] rfl rfl (take_ofW HT_.out HW_.out z22_0) (fun _ _ _ h=>h) (Or.inl ⟨by rfl,?_⟩) hHeld ?_ ?_
    rotate_left
    ·rintro w' ⟨s0,s1,s2,s3,s4,s5⟩
     go_simp
     with_reducible rfl
    rotate_left
    ·exact acq
    refine one_ (i:=20) (N:=some 53) #[T,T,T,T,T,T,T,T,T,T,T,T,T,T,T,T,T,T,T,T,T,F,F,F,F,F,F] rfl rfl (one_of HT_.out z22_0) (by decide) (fun K hK=>?_)
    refine goes_ Try.func60 z22_0 rfl #[.int .i64 (rd (rd_L1 l0 Ad) 2)] (by rfl) rfl rfl ln_22 ?_
    with_reducible refine(gM.calls (rd (rd_L1 l0 Ad) 2) Bf _ De.out).mono ?_
    rintro e Gf ⟨rfl,hb⟩
    refine⟨_,rfl,?_⟩
    replace HB:=Az.mk (bwT bw_22 hb)
    (try clear hb)
    (try clear hb2)
    (try clear hk)
    (try clear hi)
    refine hK.out _ _ ⟨(kc HB Ae),(kc HB Af),(kc HB Ag),(kc HB Al),(kc HB Ao),(kc HB Aq)⟩ (fun hHeld=>?_)
    clear hK K
    refine norm_ (a':=?_) ?_ ?_
    rotate_left
    ·show Act.put _ (some 53) _=_
     exact acq
    refine pu (i:=21) (N:=some 54) #[T,T,T,T,T,T,T,T,T,T,T,T,T,T,T,T,T,T,T,T,T,T,F,F,F,F,F] (any_of HT_.out z22_0) ?_
    refine pu (i:=22) (N:=some 55) #[T,T,T,T,T,T,T,T,T,T,T,T,T,T,T,T,T,T,T,T,T,T,T,F,F,F,F] (any_of HT_.out z22_0) ?_
    refine pu (i:=24) (N:=some 7) #[T,T,T,T,T,T,T,T,T,T,T,T,T,T,T,T,T,T,T,T,T,T,T,F,T,F,F] (any_of HT_.out z22_0) ?_
    refine pu (i:=25) (N:=some 8) #[T,T,T,T,T,T,T,T,T,T,T,T,T,T,T,T,T,T,T,T,T,T,T,F,T,T,F] (any_of HT_.out z22_0) ?_
    refine take_ (i:=23) (N:=some 56) (v:=?_) (a':=?_) #[T,T,T,T,T,T,T,T,T,T,T,T,T,T,T,T,T,T,T,T,T,T,T,T,T,T,F] rfl rfl (take_ofW HT_.out HW_.out z22_0) (fun _ _ _ h=>h) (Or.inl ⟨by rfl,?_⟩) hHeld ?_ ?_
    rotate_left
    ·rintro w' ⟨s0,s1,s2,s3,s4,s5⟩
     go_simp
     with_reducible rfl
    rotate_left
    ·exact acq
    refine pu (i:=26) (N:=some 9) #[T,T,T,T,T,T,T,T,T,T,T,T,T,T,T,T,T,T,T,T,T,T,T,T,T,T,T] (any_of HT_.out z22_0) ?_
    refine done_ (done_of HT_.out z22_0) ?_
    try go_wp2
    go_ret
    exact⟨by first|rfl|(simp[eWn,eWs] <;> rfl)|(simp only[←Cc, ←Bx, ←Bv];first|rfl|(simp[eWn,eWs] <;> rfl))|(simp[*,eWn,eWs] <;> rfl),bw_22⟩
   rw[ip Dc]at H
   have Dk:=beq_iff_eq.mpr Dc
   have Dl:=bne_eq_false_iff_eq.mpr Dc
   clear Dc
   by_cases Df:(rd l1 (Au))>(wrap64 ((rd l1 (Ax))+(rd l1 (Ay))))
   ·rw[ip Df]at H
    have Dm:decide ((wrap64 ((rd l1 (Ax))+(rd l1 (Ay))))<(rd l1 (Au)))=true:=ode Df
    clear Df
    obtain rfl:=Option.some.inj H
    have Bh:0≤(Ad:Int):=od
    have Bi:Ad<(l0.length:Int):=od
    obtain⟨Cs,Cg,Ch,Ci,Bb,Bc,Bd⟩:=at_L1 Cx.out Ad Bh Bi
    cases Ci
    replace Bb:=kc HB Bb
    have Av:=Az.mk Bd
    have Cd:=Az.mk Bc
    clear Bd Bc
    replace Bh:=ets Bh
    replace Bi:=ets Bi
    try go_wp2
    replace HB:=Az.mk (bwD HB.out)
    have Bj:0≤(0:Int):=(by omega)
    have Bk:0<((rd_L1 l0 Ad).length:Int):=od
    obtain⟨As,Cj,Ah⟩:=Kd.at_int Av.out 0 Bj Bk
    have Ae:=Ah
    (try rw[show((0:Int)).toNat=0 from rfl]at Ae)
    (try rw[show 0*1=0 from rfl]at Ae)
    (try rw[Addr.add_zero']at Ae)
    cases Cj
    have Ct:(0<(rd_L1 l0 Ad).length)=True:=ets (by omega)
    (try rw[show((0:Int)).toNat=0 from rfl]at Ah)
    (try rw[Addr.add_zero']at Ah)
    replace Ah:=kc HB Ah
    replace Bj:=ets Bj
    replace Bk:=ets Bk
    have Bl:0≤(1:Int):=(by omega)
    have Bm:1<((rd_L1 l0 Ad).length:Int):=od
    obtain⟨By,Ck,Ai⟩:=Kd.at_int Av.out 1 Bl Bm
    have Af:=Ai
    (try rw[show((1:Int)).toNat=1 from rfl]at Af)
    (try rw[show 1*1=1 from rfl]at Af)
    (try simp only[Nat.reduceMul,Nat.reduceEqDiff,Go.Addr.add, ↓reduceIte]at Af)
    obtain rfl:As=By:=(by injection Ck)
    (try simp only[show(1:Int).toNat=1 from rfl,Nat.reduceMul,Nat.reduceEqDiff,Go.Addr.add, ↓reduceIte]at Ai)
    have Cu:(1<(rd_L1 l0 Ad).length)=True:=ets (by omega)
    (try rw[show((1:Int)).toNat=1 from rfl]at Ai)
    replace Ai:=kc HB Ai
    replace Bl:=ets Bl
    replace Bm:=ets Bm
    have Bn:0≤(2:Int):=(by omega)
    have Bo:2<((rd_L1 l0 Ad).length:Int):=od
    obtain⟨Bz,Cl,Aj⟩:=Kd.at_int Av.out 2 Bn Bo
    have Ag:=Aj
    (try rw[show((2:Int)).toNat=2 from rfl]at Ag)
    (try rw[show 2*1=2 from rfl]at Ag)
    (try simp only[Nat.reduceMul,Nat.reduceEqDiff,Go.Addr.add, ↓reduceIte]at Ag)
    obtain rfl:As=Bz:=(by injection Cl)
    (try simp only[show(2:Int).toNat=2 from rfl,Nat.reduceMul,Nat.reduceEqDiff,Go.Addr.add, ↓reduceIte]at Aj)
    have Cv:(2<(rd_L1 l0 Ad).length)=True:=ets (by omega)
    (try rw[show((2:Int)).toNat=2 from rfl]at Aj)
    replace Aj:=kc HB Aj
    replace Bn:=ets Bn
    replace Bo:=ets Bo
    have Bp:0≤((Au):Int):=od
    have Bq:(Au)<(l1.length:Int):=od
    obtain⟨Ba,Cm,Ak⟩:=Kd.at_int HR1.out (Au) Bp Bq
    have Al:=Ak
    cases Cm
    replace Ak:=kc HB Ak
    replace Bp:=ets Bp
    replace Bq:=ets Bq
    have Br:0≤((Ax):Int):=od
    have Bs:(Ax)<(l1.length:Int):=od
    obtain⟨Ca,Cn,Am⟩:=Kd.at_int HR1.out (Ax) Br Bs
    have Ao:=Am
    obtain rfl:Ba=Ca:=(by injection Cn)
    replace Am:=kc HB Am
    replace Br:=ets Br
    replace Bs:=ets Bs
    have Bt:0≤((Ay):Int):=od
    have Bu:(Ay)<(l1.length:Int):=od
    obtain⟨Cb,Co,Ap⟩:=Kd.at_int HR1.out (Ay) Bt Bu
    have Aq:=Ap
    obtain rfl:Ba=Cb:=(by injection Co)
    replace Ap:=kc HB Ap
    replace Bt:=ets Bt
    replace Bu:=ets Bu
    refine start_ (n:=27) (S:=fun w'=>w'.cell? As=some (.int .i64 (rd (rd_L1 l0 Ad) 0))∧w'.cell? ⟨As.block,As.off+1,none⟩=some (.int .i64 (rd (rd_L1 l0 Ad) 1))∧w'.cell? ⟨As.block,As.off+2,none⟩=some (.int .i64 (rd (rd_L1 l0 Ad) 2))∧w'.cell? (Ba.add ((Au)).toNat)=some (.int .i64 (rd l1 (Au)))∧w'.cell? (Ba.add ((Ax)).toNat)=some (.int .i64 (rd l1 (Ax)))∧w'.cell? (Ba.add ((Ay)).toNat)=some (.int .i64 (rd l1 (Ay)))) (ds:=[]) #[F,F,F,F,F,F,F,F,F,F,F,F,F,F,F,F,F,F,F,F,F,F,F,F,F,F,F] z22_0 rfl rfl ⟨(kc HB Ae),(kc HB Af),(kc HB Ag),(kc HB Al),(kc HB Ao),(kc HB Aq)⟩ (fun hHeld=>?_);refine with_tabW fP.tab6 fP.bits6 (fun HT_ HW_=>?_)
    generalize wr.drew=Gg at HB Ah Ak Ai Am Aj Ap hHeld ⊢
    refine pu (i:=0) (N:=some 33) #[T,F,F,F,F,F,F,F,F,F,F,F,F,F,F,F,F,F,F,F,F,F,F,F,F,F,F] (any_of HT_.out z22_0) ?_
    refine pu (i:=1) (N:=some 34) #[T,T,F,F,F,F,F,F,F,F,F,F,F,F,F,F,F,F,F,F,F,F,F,F,F,F,F] (any_of HT_.out z22_0) ?_
    refine pu (i:=2) (N:=some 35) #[T,T,T,F,F,F,F,F,F,F,F,F,F,F,F,F,F,F,F,F,F,F,F,F,F,F,F] (any_of HT_.out z22_0) ?_
    refine pu (i:=8) (N:=some 41) #[T,T,T,F,F,F,F,F,T,F,F,F,F,F,F,F,F,F,F,F,F,F,F,F,F,F,F] (any_of HT_.out z22_0) ?_
    refine pu (i:=9) (N:=some 42) #[T,T,T,F,F,F,F,F,T,T,F,F,F,F,F,F,F,F,F,F,F,F,F,F,F,F,F] (any_of HT_.out z22_0) ?_
    refine pu (i:=10) (N:=some 43) #[T,T,T,F,F,F,F,F,T,T,T,F,F,F,F,F,F,F,F,F,F,F,F,F,F,F,F] (any_of HT_.out z22_0) ?_
    refine pu (i:=16) (N:=some 49) #[T,T,T,F,F,F,F,F,T,T,T,F,F,F,F,F,T,F,F,F,F,F,F,F,F,F,F] (any_of HT_.out z22_0) ?_
    refine pu (i:=17) (N:=some 50) #[T,T,T,F,F,F,F,F,T,T,T,F,F,F,F,F,T,T,F,F,F,F,F,F,F,F,F] (any_of HT_.out z22_0) ?_
    refine pu (i:=18) (N:=some 51) #[T,T,T,F,F,F,F,F,T,T,T,F,F,F,F,F,T,T,T,F,F,F,F,F,F,F,F] (any_of HT_.out z22_0) ?_
    refine take_ (i:=3) (N:=some 36) (v:=?_) (a':=?_) #[T,T,T,T,F,F,F,F,T,T,T,F,F,F,F,F,T,T,T,F,F,F,F,F,F,F,F] rfl rfl (take_ofW HT_.out HW_.out z22_0) (fun _ _ _ h=>h) (Or.inl ⟨by rfl,?_⟩) hHeld ?_ ?_
    rotate_left
    ·rintro w' ⟨s0,s1,s2,s3,s4,s5⟩
     go_simp
     with_reducible rfl
    rotate_left
    ·exact acq
    refine take_ (i:=11) (N:=some 44) (v:=?_) (a':=?_) #[T,T,T,T,F,F,F,F,T,T,T,T,F,F,F,F,T,T,T,F,F,F,F,F,F,F,F] rfl rfl (take_ofW HT_.out HW_.out z22_0) (fun _ _ _ h=>h) (Or.inl ⟨by rfl,?_⟩) hHeld ?_ ?_
    rotate_left
    ·rintro w' ⟨s0,s1,s2,s3,s4,s5⟩
     go_simp
     with_reducible rfl
    rotate_left
    ·exact acq
    refine take_ (i:=19) (N:=some 52) (v:=?_) (a':=?_) #[T,T,T,T,F,F,F,F,T,T,T,T,F,F,F,F,T,T,T,T,F,F,F,F,F,F,F] rfl rfl (take_ofW HT_.out HW_.out z22_0) (fun _ _ _ h=>h) (Or.inl ⟨by rfl,?_⟩) hHeld ?_ ?_
    rotate_left
    ·rintro w' ⟨s0,s1,s2,s3,s4,s5⟩
     go_simp
     with_reducible rfl
    rotate_left
    ·exact acq
    refine one_ (i:=4) (N:=some 37) #[T,T,T,T,T,F,F,F,T,T,T,T,F,F,F,F,T,T,T,T,F,F,F,F,F,F,F] rfl rfl (one_of HT_.out z22_0) (by decide) (fun K hK=>?_)
    refine goes_ Try.func60 z22_0 rfl #[.int .i64 (rd (rd_L1 l0 Ad) 0)] (by rfl) rfl rfl ln_22 ?_
    with_reducible refine(gM.calls (rd (rd_L1 l0 Ad) 0) Cq _ Cy.out).mono ?_
    rintro e Gh ⟨rfl,hb⟩
    refine⟨_,rfl,?_⟩
    replace HB:=Az.mk (bwT bw_22 hb)
    (try clear hb)
    (try clear hb2)
    (try clear hk)
    (try clear hi)
    refine hK.out _ _ ⟨(kc HB Ae),(kc HB Af),(kc HB Ag),(kc HB Al),(kc HB Ao),(kc HB Aq)⟩ (fun hHeld=>?_)
    clear hK K
    refine norm_ (a':=?_) ?_ ?_
    rotate_left
    ·show Act.put _ (some 37) _=_
     exact acq
    refine pu (i:=5) (N:=some 38) #[T,T,T,T,T,T,F,F,T,T,T,T,F,F,F,F,T,T,T,T,F,F,F,F,F,F,F] (any_of HT_.out z22_0) ?_
    refine pu (i:=6) (N:=some 39) #[T,T,T,T,T,T,T,F,T,T,T,T,F,F,F,F,T,T,T,T,F,F,F,F,F,F,F] (any_of HT_.out z22_0) ?_
    refine take_ (i:=7) (N:=some 40) (v:=?_) (a':=?_) #[T,T,T,T,T,T,T,T,T,T,T,T,F,F,F,F,T,T,T,T,F,F,F,F,F,F,F] rfl rfl (take_ofW HT_.out HW_.out z22_0) (fun _ _ _ h=>h) (Or.inl ⟨by rfl,?_⟩) hHeld ?_ ?_
    rotate_left
    ·rintro w' ⟨s0,s1,s2,s3,s4,s5⟩
     go_simp
     with_reducible rfl
    rotate_left
    ·exact acq
    refine one_ (i:=12) (N:=some 45) #[T,T,T,T,T,T,T,T,T,T,T,T,T,F,F,F,T,T,T,T,F,F,F,F,F,F,F] rfl rfl (one_of HT_.out z22_0) (by decide) (fun K hK=>?_)
    refine goes_ Try.func60 z22_0 rfl #[.int .i64 (rd (rd_L1 l0 Ad) 1)] (by rfl) rfl rfl ln_22 ?_
    with_reducible refine(gM.calls (rd (rd_L1 l0 Ad) 1) Bw _ Db.out).mono ?_
    rintro e Gi ⟨rfl,hb⟩
    refine⟨_,rfl,?_⟩
    replace HB:=Az.mk (bwT bw_22 hb)
    (try clear hb)
    (try clear hb2)
    (try clear hk)
    (try clear hi)
    refine hK.out _ _ ⟨(kc HB Ae),(kc HB Af),(kc HB Ag),(kc HB Al),(kc HB Ao),(kc HB Aq)⟩ (fun hHeld=>?_)
    clear hK K
    refine norm_ (a':=?_) ?_ ?_
    rotate_left
    ·show Act.put _ (some 45) _=_
     exact acq
    refine pu (i:=13) (N:=some 46) #[T,T,T,T,T,T,T,T,T,T,T,T,T,T,F,F,T,T,T,T,F,F,F,F,F,F,F] (any_of HT_.out z22_0) ?_
    refine pu (i:=14) (N:=some 47) #[T,T,T,T,T,T,T,T,T,T,T,T,T,T,T,F,T,T,T,T,F,F,F,F,F,F,F] (any_of HT_.out z22_0) ?_
    refine take_ (i:=15) (N:=some 48) (v:=?_) (a':=?_) #[T,T,T,T,T,T,T,T,T,T,T,T,T,T,T,T,T,T,T,T,F,F,F,F,F,F,F] rfl rfl (take_ofW HT_.out HW_.out z22_0) (fun _ _ _ h=>h) (Or.inl ⟨by rfl,?_⟩) hHeld ?_ ?_
    rotate_left
    ·rintro w' ⟨s0,s1,s2,s3,s4,s5⟩
     go_simp
     with_reducible rfl
    rotate_left
    ·exact acq
    refine one_ (i:=20) (N:=some 53) #[T,T,T,T,T,T,T,T,T,T,T,T,T,T,T,T,T,T,T,T,T,F,F,F,F,F,F] rfl rfl (one_of HT_.out z22_0) (by decide) (fun K hK=>?_)
    refine goes_ Try.func60 z22_0 rfl #[.int .i64 (rd (rd_L1 l0 Ad) 2)] (by rfl) rfl rfl ln_22 ?_
    with_reducible refine(gM.calls (rd (rd_L1 l0 Ad) 2) Bf _ De.out).mono ?_
    rintro e Gj ⟨rfl,hb⟩
    refine⟨_,rfl,?_⟩
    replace HB:=Az.mk (bwT bw_22 hb)
    (try clear hb)
    (try clear hb2)
    (try clear hk)
    (try clear hi)
    refine hK.out _ _ ⟨(kc HB Ae),(kc HB Af),(kc HB Ag),(kc HB Al),(kc HB Ao),(kc HB Aq)⟩ (fun hHeld=>?_)
    clear hK K
    refine norm_ (a':=?_) ?_ ?_
    rotate_left
    ·show Act.put _ (some 53) _=_
     exact acq
    refine pu (i:=21) (N:=some 54) #[T,T,T,T,T,T,T,T,T,T,T,T,T,T,T,T,T,T,T,T,T,T,F,F,F,F,F] (any_of HT_.out z22_0) ?_
    refine pu (i:=22) (N:=some 55) #[T,T,T,T,T,T,T,T,T,T,T,T,T,T,T,T,T,T,T,T,T,T,T,F,F,F,F] (any_of HT_.out z22_0) ?_
    refine pu (i:=24) (N:=some 7) #[T,T,T,T,T,T,T,T,T,T,T,T,T,T,T,T,T,T,T,T,T,T,T,F,T,F,F] (any_of HT_.out z22_0) ?_
    refine pu (i:=25) (N:=some 8) #[T,T,T,T,T,T,T,T,T,T,T,T,T,T,T,T,T,T,T,T,T,T,T,F,T,T,F] (any_of HT_.out z22_0) ?_
    refine take_ (i:=23) (N:=some 56) (v:=?_) (a':=?_) #[T,T,T,T,T,T,T,T,T,T,T,T,T,T,T,T,T,T,T,T,T,T,T,T,T,T,F] rfl rfl (take_ofW HT_.out HW_.out z22_0) (fun _ _ _ h=>h) (Or.inl ⟨by rfl,?_⟩) hHeld ?_ ?_
    rotate_left
    ·rintro w' ⟨s0,s1,s2,s3,s4,s5⟩
     go_simp
     with_reducible rfl
    rotate_left
    ·exact acq
    refine pu (i:=26) (N:=some 9) #[T,T,T,T,T,T,T,T,T,T,T,T,T,T,T,T,T,T,T,T,T,T,T,T,T,T,T] (any_of HT_.out z22_0) ?_
    refine done_ (done_of HT_.out z22_0) ?_
    try go_wp2
    go_ret
    exact⟨by first|rfl|(simp[eWn,eWs] <;> rfl)|(simp only[←Cc, ←Bx, ←Bv];first|rfl|(simp[eWn,eWs] <;> rfl))|(simp[*,eWn,eWs] <;> rfl),bw_22⟩
   rw[ig Df]at H
   have Dm:decide ((wrap64 ((rd l1 (Ax))+(rd l1 (Ay))))<(rd l1 (Au)))=false:=decide_eq_false Df
   clear Df
   by_cases Dg:(rd l1 (Ax))>(wrap64 ((rd l1 (Au))+(rd l1 (Ay))))
   ·rw[ip Dg]at H
    have Dn:decide ((wrap64 ((rd l1 (Au))+(rd l1 (Ay))))<(rd l1 (Ax)))=true:=ode Dg
    clear Dg
    obtain rfl:=Option.some.inj H
    have Bh:0≤(Ad:Int):=od
    have Bi:Ad<(l0.length:Int):=od
    obtain⟨Cs,Cg,Ch,Ci,Bb,Bc,Bd⟩:=at_L1 Cx.out Ad Bh Bi
    cases Ci
    replace Bb:=kc HB Bb
    have Av:=Az.mk Bd
    have Cd:=Az.mk Bc
    clear Bd Bc
    replace Bh:=ets Bh
    replace Bi:=ets Bi
    try go_wp2
    replace HB:=Az.mk (bwD HB.out)
    have Bj:0≤(0:Int):=(by omega)
    have Bk:0<((rd_L1 l0 Ad).length:Int):=od
    obtain⟨As,Cj,Ah⟩:=Kd.at_int Av.out 0 Bj Bk
    have Ae:=Ah
    (try rw[show((0:Int)).toNat=0 from rfl]at Ae)
    (try rw[show 0*1=0 from rfl]at Ae)
    (try rw[Addr.add_zero']at Ae)
    cases Cj
    have Ct:(0<(rd_L1 l0 Ad).length)=True:=ets (by omega)
    (try rw[show((0:Int)).toNat=0 from rfl]at Ah)
    (try rw[Addr.add_zero']at Ah)
    replace Ah:=kc HB Ah
    replace Bj:=ets Bj
    replace Bk:=ets Bk
    have Bl:0≤(1:Int):=(by omega)
    have Bm:1<((rd_L1 l0 Ad).length:Int):=od
    obtain⟨By,Ck,Ai⟩:=Kd.at_int Av.out 1 Bl Bm
    have Af:=Ai
    (try rw[show((1:Int)).toNat=1 from rfl]at Af)
    (try rw[show 1*1=1 from rfl]at Af)
    (try simp only[Nat.reduceMul,Nat.reduceEqDiff,Go.Addr.add, ↓reduceIte]at Af)
    obtain rfl:As=By:=(by injection Ck)
    (try simp only[show(1:Int).toNat=1 from rfl,Nat.reduceMul,Nat.reduceEqDiff,Go.Addr.add, ↓reduceIte]at Ai)
    have Cu:(1<(rd_L1 l0 Ad).length)=True:=ets (by omega)
    (try rw[show((1:Int)).toNat=1 from rfl]at Ai)
    replace Ai:=kc HB Ai
    replace Bl:=ets Bl
    replace Bm:=ets Bm
    have Bn:0≤(2:Int):=(by omega)
    have Bo:2<((rd_L1 l0 Ad).length:Int):=od
    obtain⟨Bz,Cl,Aj⟩:=Kd.at_int Av.out 2 Bn Bo
    have Ag:=Aj
    (try rw[show((2:Int)).toNat=2 from rfl]at Ag)
    (try rw[show 2*1=2 from rfl]at Ag)
    (try simp only[Nat.reduceMul,Nat.reduceEqDiff,Go.Addr.add, ↓reduceIte]at Ag)
    obtain rfl:As=Bz:=(by injection Cl)
    (try simp only[show(2:Int).toNat=2 from rfl,Nat.reduceMul,Nat.reduceEqDiff,Go.Addr.add, ↓reduceIte]at Aj)
    have Cv:(2<(rd_L1 l0 Ad).length)=True:=ets (by omega)
    (try rw[show((2:Int)).toNat=2 from rfl]at Aj)
    replace Aj:=kc HB Aj
    replace Bn:=ets Bn
    replace Bo:=ets Bo
    have Bp:0≤((Au):Int):=od
    have Bq:(Au)<(l1.length:Int):=od
    obtain⟨Ba,Cm,Ak⟩:=Kd.at_int HR1.out (Au) Bp Bq
    have Al:=Ak
    cases Cm
    replace Ak:=kc HB Ak
    replace Bp:=ets Bp
    replace Bq:=ets Bq
    have Br:0≤((Ax):Int):=od
    have Bs:(Ax)<(l1.length:Int):=od
    obtain⟨Ca,Cn,Am⟩:=Kd.at_int HR1.out (Ax) Br Bs
    have Ao:=Am
    obtain rfl:Ba=Ca:=(by injection Cn)
    replace Am:=kc HB Am
    replace Br:=ets Br
    replace Bs:=ets Bs
    have Bt:0≤((Ay):Int):=od
    have Bu:(Ay)<(l1.length:Int):=od
    obtain⟨Cb,Co,Ap⟩:=Kd.at_int HR1.out (Ay) Bt Bu
    have Aq:=Ap
    obtain rfl:Ba=Cb:=(by injection Co)
    replace Ap:=kc HB Ap
    replace Bt:=ets Bt
    replace Bu:=ets Bu
    refine start_ (n:=27) (S:=fun w'=>w'.cell? As=some (.int .i64 (rd (rd_L1 l0 Ad) 0))∧w'.cell? ⟨As.block,As.off+1,none⟩=some (.int .i64 (rd (rd_L1 l0 Ad) 1))∧w'.cell? ⟨As.block,As.off+2,none⟩=some (.int .i64 (rd (rd_L1 l0 Ad) 2))∧w'.cell? (Ba.add ((Au)).toNat)=some (.int .i64 (rd l1 (Au)))∧w'.cell? (Ba.add ((Ax)).toNat)=some (.int .i64 (rd l1 (Ax)))∧w'.cell? (Ba.add ((Ay)).toNat)=some (.int .i64 (rd l1 (Ay)))) (ds:=[]) #[F,F,F,F,F,F,F,F,F,F,F,F,F,F,F,F,F,F,F,F,F,F,F,F,F,F,F] z22_0 rfl rfl ⟨(kc HB Ae),(kc HB Af),(kc HB Ag),(kc HB Al),(kc HB Ao),(kc HB Aq)⟩ (fun hHeld=>?_);refine with_tabW fP.tab6 fP.bits6 (fun HT_ HW_=>?_)
    generalize wr.drew=Gk at HB Ah Ak Ai Am Aj Ap hHeld ⊢
    refine pu (i:=0) (N:=some 33) #[T,F,F,F,F,F,F,F,F,F,F,F,F,F,F,F,F,F,F,F,F,F,F,F,F,F,F] (any_of HT_.out z22_0) ?_
    refine pu (i:=1) (N:=some 34) #[T,T,F,F,F,F,F,F,F,F,F,F,F,F,F,F,F,F,F,F,F,F,F,F,F,F,F] (any_of HT_.out z22_0) ?_
    refine pu (i:=2) (N:=some 35) #[T,T,T,F,F,F,F,F,F,F,F,F,F,F,F,F,F,F,F,F,F,F,F,F,F,F,F] (any_of HT_.out z22_0) ?_
    refine pu (i:=8) (N:=some 41) #[T,T,T,F,F,F,F,F,T,F,F,F,F,F,F,F,F,F,F,F,F,F,F,F,F,F,F] (any_of HT_.out z22_0) ?_
    refine pu (i:=9) (N:=some 42) #[T,T,T,F,F,F,F,F,T,T,F,F,F,F,F,F,F,F,F,F,F,F,F,F,F,F,F] (any_of HT_.out z22_0) ?_
    refine pu (i:=10) (N:=some 43) #[T,T,T,F,F,F,F,F,T,T,T,F,F,F,F,F,F,F,F,F,F,F,F,F,F,F,F] (any_of HT_.out z22_0) ?_
    refine pu (i:=16) (N:=some 49) #[T,T,T,F,F,F,F,F,T,T,T,F,F,F,F,F,T,F,F,F,F,F,F,F,F,F,F] (any_of HT_.out z22_0) ?_
    refine pu (i:=17) (N:=some 50) #[T,T,T,F,F,F,F,F,T,T,T,F,F,F,F,F,T,T,F,F,F,F,F,F,F,F,F] (any_of HT_.out z22_0) ?_
    refine pu (i:=18) (N:=some 51) #[T,T,T,F,F,F,F,F,T,T,T,F,F,F,F,F,T,T,T,F,F,F,F,F,F,F,F] (any_of HT_.out z22_0) ?_
    refine take_ (i:=3) (N:=some 36) (v:=?_) (a':=?_) #[T,T,T,T,F,F,F,F,T,T,T,F,F,F,F,F,T,T,T,F,F,F,F,F,F,F,F] rfl rfl (take_ofW HT_.out HW_.out z22_0) (fun _ _ _ h=>h) (Or.inl ⟨by rfl,?_⟩) hHeld ?_ ?_
    rotate_left
    ·rintro w' ⟨s0,s1,s2,s3,s4,s5⟩
     go_simp
     with_reducible rfl
    rotate_left
    ·exact acq
    refine take_ (i:=11) (N:=some 44) (v:=?_) (a':=?_) #[T,T,T,T,F,F,F,F,T,T,T,T,F,F,F,F,T,T,T,F,F,F,F,F,F,F,F] rfl rfl (take_ofW HT_.out HW_.out z22_0) (fun _ _ _ h=>h) (Or.inl ⟨by rfl,?_⟩) hHeld ?_ ?_
    rotate_left
    ·rintro w' ⟨s0,s1,s2,s3,s4,s5⟩
     go_simp
     with_reducible rfl
    rotate_left
    ·exact acq
    refine take_ (i:=19) (N:=some 52) (v:=?_) (a':=?_) #[T,T,T,T,F,F,F,F,T,T,T,T,F,F,F,F,T,T,T,T,F,F,F,F,F,F,F] rfl rfl (take_ofW HT_.out HW_.out z22_0) (fun _ _ _ h=>h) (Or.inl ⟨by rfl,?_⟩) hHeld ?_ ?_
    rotate_left
    ·rintro w' ⟨s0,s1,s2,s3,s4,s5⟩
     go_simp
     with_reducible rfl
    rotate_left
    ·exact acq
    refine one_ (i:=4) (N:=some 37) #[T,T,T,T,T,F,F,F,T,T,T,T,F,F,F,F,T,T,T,T,F,F,F,F,F,F,F] rfl rfl (one_of HT_.out z22_0) (by decide) (fun K hK=>?_)
    refine goes_ Try.func60 z22_0 rfl #[.int .i64 (rd (rd_L1 l0 Ad) 0)] (by rfl) rfl rfl ln_22 ?_
    with_reducible refine(gM.calls (rd (rd_L1 l0 Ad) 0) Cq _ Cy.out).mono ?_
    rintro e Gl ⟨rfl,hb⟩
    refine⟨_,rfl,?_⟩
    replace HB:=Az.mk (bwT bw_22 hb)
    (try clear hb)
    (try clear hb2)
    (try clear hk)
    (try clear hi)
    refine hK.out _ _ ⟨(kc HB Ae),(kc HB Af),(kc HB Ag),(kc HB Al),(kc HB Ao),(kc HB Aq)⟩ (fun hHeld=>?_)
    clear hK K
    refine norm_ (a':=?_) ?_ ?_
    rotate_left
    ·show Act.put _ (some 37) _=_
     exact acq
    refine pu (i:=5) (N:=some 38) #[T,T,T,T,T,T,F,F,T,T,T,T,F,F,F,F,T,T,T,T,F,F,F,F,F,F,F] (any_of HT_.out z22_0) ?_
    refine pu (i:=6) (N:=some 39) #[T,T,T,T,T,T,T,F,T,T,T,T,F,F,F,F,T,T,T,T,F,F,F,F,F,F,F] (any_of HT_.out z22_0) ?_
    refine take_ (i:=7) (N:=some 40) (v:=?_) (a':=?_) #[T,T,T,T,T,T,T,T,T,T,T,T,F,F,F,F,T,T,T,T,F,F,F,F,F,F,F] rfl rfl (take_ofW HT_.out HW_.out z22_0) (fun _ _ _ h=>h) (Or.inl ⟨by rfl,?_⟩) hHeld ?_ ?_
    rotate_left
    ·rintro w' ⟨s0,s1,s2,s3,s4,s5⟩
     go_simp
     with_reducible rfl
    rotate_left
    ·exact acq
    refine one_ (i:=12) (N:=some 45) #[T,T,T,T,T,T,T,T,T,T,T,T,T,F,F,F,T,T,T,T,F,F,F,F,F,F,F] rfl rfl (one_of HT_.out z22_0) (by decide) (fun K hK=>?_)
    refine goes_ Try.func60 z22_0 rfl #[.int .i64 (rd (rd_L1 l0 Ad) 1)] (by rfl) rfl rfl ln_22 ?_
    with_reducible refine(gM.calls (rd (rd_L1 l0 Ad) 1) Bw _ Db.out).mono ?_
    rintro e Gm ⟨rfl,hb⟩
    refine⟨_,rfl,?_⟩
    replace HB:=Az.mk (bwT bw_22 hb)
    (try clear hb)
    (try clear hb2)
    (try clear hk)
    (try clear hi)
    refine hK.out _ _ ⟨(kc HB Ae),(kc HB Af),(kc HB Ag),(kc HB Al),(kc HB Ao),(kc HB Aq)⟩ (fun hHeld=>?_)
    clear hK K
    refine norm_ (a':=?_) ?_ ?_
    rotate_left
    ·show Act.put _ (some 45) _=_
     exact acq
    refine pu (i:=13) (N:=some 46) #[T,T,T,T,T,T,T,T,T,T,T,T,T,T,F,F,T,T,T,T,F,F,F,F,F,F,F] (any_of HT_.out z22_0) ?_
    refine pu (i:=14) (N:=some 47) #[T,T,T,T,T,T,T,T,T,T,T,T,T,T,T,F,T,T,T,T,F,F,F,F,F,F,F] (any_of HT_.out z22_0) ?_
    refine take_ (i:=15) (N:=some 48) (v:=?_) (a':=?_) #[T,T,T,T,T,T,T,T,T,T,T,T,T,T,T,T,T,T,T,T,F,F,F,F,F,F,F] rfl rfl (take_ofW HT_.out HW_.out z22_0) (fun _ _ _ h=>h) (Or.inl ⟨by rfl,?_⟩) hHeld ?_ ?_
    rotate_left
    ·rintro w' ⟨s0,s1,s2,s3,s4,s5⟩
     go_simp
     with_reducible rfl
    rotate_left
    ·exact acq
    refine one_ (i:=20) (N:=some 53) #[T,T,T,T,T,T,T,T,T,T,T,T,T,T,T,T,T,T,T,T,T,F,F,F,F,F,F] rfl rfl (one_of HT_.out z22_0) (by decide) (fun K hK=>?_)
    refine goes_ Try.func60 z22_0 rfl #[.int .i64 (rd (rd_L1 l0 Ad) 2)] (by rfl) rfl rfl ln_22 ?_
    with_reducible refine(gM.calls (rd (rd_L1 l0 Ad) 2) Bf _ De.out).mono ?_
    rintro e Gn ⟨rfl,hb⟩
    refine⟨_,rfl,?_⟩
    replace HB:=Az.mk (bwT bw_22 hb)
    (try clear hb)
    (try clear hb2)
    (try clear hk)
    (try clear hi)
    refine hK.out _ _ ⟨(kc HB Ae),(kc HB Af),(kc HB Ag),(kc HB Al),(kc HB Ao),(kc HB Aq)⟩ (fun hHeld=>?_)
    clear hK K
    refine norm_ (a':=?_) ?_ ?_
    rotate_left
    ·show Act.put _ (some 53) _=_
     exact acq
    refine pu (i:=21) (N:=some 54) #[T,T,T,T,T,T,T,T,T,T,T,T,T,T,T,T,T,T,T,T,T,T,F,F,F,F,F] (any_of HT_.out z22_0) ?_
    refine pu (i:=22) (N:=some 55) #[T,T,T,T,T,T,T,T,T,T,T,T,T,T,T,T,T,T,T,T,T,T,T,F,F,F,F] (any_of HT_.out z22_0) ?_
    refine pu (i:=24) (N:=some 7) #[T,T,T,T,T,T,T,T,T,T,T,T,T,T,T,T,T,T,T,T,T,T,T,F,T,F,F] (any_of HT_.out z22_0) ?_
    refine pu (i:=25) (N:=some 8) #[T,T,T,T,T,T,T,T,T,T,T,T,T,T,T,T,T,T,T,T,T,T,T,F,T,T,F] (any_of HT_.out z22_0) ?_
    refine take_ (i:=23) (N:=some 56) (v:=?_) (a':=?_) #[T,T,T,T,T,T,T,T,T,T,T,T,T,T,T,T,T,T,T,T,T,T,T,T,T,T,F] rfl rfl (take_ofW HT_.out HW_.out z22_0) (fun _ _ _ h=>h) (Or.inl ⟨by rfl,?_⟩) hHeld ?_ ?_
    rotate_left
    ·rintro w' ⟨s0,s1,s2,s3,s4,s5⟩
     go_simp
     with_reducible rfl
    rotate_left
    ·exact acq
    refine pu (i:=26) (N:=some 9) #[T,T,T,T,T,T,T,T,T,T,T,T,T,T,T,T,T,T,T,T,T,T,T,T,T,T,T] (any_of HT_.out z22_0) ?_
    refine done_ (done_of HT_.out z22_0) ?_
    try go_wp2
    go_ret
    exact⟨by first|rfl|(simp[eWn,eWs] <;> rfl)|(simp only[←Cc, ←Bx, ←Bv];first|rfl|(simp[eWn,eWs] <;> rfl))|(simp[*,eWn,eWs] <;> rfl),bw_22⟩
   rw[ig Dg]at H
   have Dn:decide ((wrap64 ((rd l1 (Au))+(rd l1 (Ay))))<(rd l1 (Ax)))=false:=decide_eq_false Dg
   clear Dg
   by_cases Dh:(rd l1 (Ay))>(wrap64 ((rd l1 (Au))+(rd l1 (Ax))))
   ·rw[ip Dh]at H
    have Do:decide ((wrap64 ((rd l1 (Au))+(rd l1 (Ax))))<(rd l1 (Ay)))=true:=ode Dh
    clear Dh
    obtain rfl:=Option.some.inj H
    have Bh:0≤(Ad:Int):=od
    have Bi:Ad<(l0.length:Int):=od
    obtain⟨Cs,Cg,Ch,Ci,Bb,Bc,Bd⟩:=at_L1 Cx.out Ad Bh Bi
    cases Ci
    replace Bb:=kc HB Bb
    have Av:=Az.mk Bd
    have Cd:=Az.mk Bc
    clear Bd Bc
    replace Bh:=ets Bh
    replace Bi:=ets Bi
    try go_wp2
    replace HB:=Az.mk (bwD HB.out)
    have Bj:0≤(0:Int):=(by omega)
    have Bk:0<((rd_L1 l0 Ad).length:Int):=od
    obtain⟨As,Cj,Ah⟩:=Kd.at_int Av.out 0 Bj Bk
    have Ae:=Ah
    (try rw[show((0:Int)).toNat=0 from rfl]at Ae)
    (try rw[show 0*1=0 from rfl]at Ae)
    (try rw[Addr.add_zero']at Ae)
    cases Cj
    have Ct:(0<(rd_L1 l0 Ad).length)=True:=ets (by omega)
    (try rw[show((0:Int)).toNat=0 from rfl]at Ah)
    (try rw[Addr.add_zero']at Ah)
    replace Ah:=kc HB Ah
    replace Bj:=ets Bj
    replace Bk:=ets Bk
    have Bl:0≤(1:Int):=(by omega)
    have Bm:1<((rd_L1 l0 Ad).length:Int):=od
    obtain⟨By,Ck,Ai⟩:=Kd.at_int Av.out 1 Bl Bm
    have Af:=Ai
    (try rw[show((1:Int)).toNat=1 from rfl]at Af)
    (try rw[show 1*1=1 from rfl]at Af)
    (try simp only[Nat.reduceMul,Nat.reduceEqDiff,Go.Addr.add, ↓reduceIte]at Af)
    obtain rfl:As=By:=(by injection Ck)
    (try simp only[show(1:Int).toNat=1 from rfl,Nat.reduceMul,Nat.reduceEqDiff,Go.Addr.add, ↓reduceIte]at Ai)
    have Cu:(1<(rd_L1 l0 Ad).length)=True:=ets (by omega)
    (try rw[show((1:Int)).toNat=1 from rfl]at Ai)
    replace Ai:=kc HB Ai
    replace Bl:=ets Bl
    replace Bm:=ets Bm
    have Bn:0≤(2:Int):=(by omega)
    have Bo:2<((rd_L1 l0 Ad).length:Int):=od
    obtain⟨Bz,Cl,Aj⟩:=Kd.at_int Av.out 2 Bn Bo
    have Ag:=Aj
    (try rw[show((2:Int)).toNat=2 from rfl]at Ag)
    (try rw[show 2*1=2 from rfl]at Ag)
    (try simp only[Nat.reduceMul,Nat.reduceEqDiff,Go.Addr.add, ↓reduceIte]at Ag)
    obtain rfl:As=Bz:=(by injection Cl)
    (try simp only[show(2:Int).toNat=2 from rfl,Nat.reduceMul,Nat.reduceEqDiff,Go.Addr.add, ↓reduceIte]at Aj)
    have Cv:(2<(rd_L1 l0 Ad).length)=True:=ets (by omega)
    (try rw[show((2:Int)).toNat=2 from rfl]at Aj)
    replace Aj:=kc HB Aj
    replace Bn:=ets Bn
    replace Bo:=ets Bo
    have Bp:0≤((Au):Int):=od
    have Bq:(Au)<(l1.length:Int):=od
    obtain⟨Ba,Cm,Ak⟩:=Kd.at_int HR1.out (Au) Bp Bq
    have Al:=Ak
    cases Cm
    replace Ak:=kc HB Ak
    replace Bp:=ets Bp
    replace Bq:=ets Bq
    have Br:0≤((Ax):Int):=od
    have Bs:(Ax)<(l1.length:Int):=od
    obtain⟨Ca,Cn,Am⟩:=Kd.at_int HR1.out (Ax) Br Bs
    have Ao:=Am
    obtain rfl:Ba=Ca:=(by injection Cn)
    replace Am:=kc HB Am
    replace Br:=ets Br
    replace Bs:=ets Bs
    have Bt:0≤((Ay):Int):=od
    have Bu:(Ay)<(l1.length:Int):=od
    obtain⟨Cb,Co,Ap⟩:=Kd.at_int HR1.out (Ay) Bt Bu
    have Aq:=Ap
    obtain rfl:Ba=Cb:=(by injection Co)
    replace Ap:=kc HB Ap
    replace Bt:=ets Bt
    replace Bu:=ets Bu
    refine start_ (n:=27) (S:=fun w'=>w'.cell? As=some (.int .i64 (rd (rd_L1 l0 Ad) 0))∧w'.cell? ⟨As.block,As.off+1,none⟩=some (.int .i64 (rd (rd_L1 l0 Ad) 1))∧w'.cell? ⟨As.block,As.off+2,none⟩=some (.int .i64 (rd (rd_L1 l0 Ad) 2))∧w'.cell? (Ba.add ((Au)).toNat)=some (.int .i64 (rd l1 (Au)))∧w'.cell? (Ba.add ((Ax)).toNat)=some (.int .i64 (rd l1 (Ax)))∧w'.cell? (Ba.add ((Ay)).toNat)=some (.int .i64 (rd l1 (Ay)))) (ds:=[]) #[F,F,F,F,F,F,F,F,F,F,F,F,F,F,F,F,F,F,F,F,F,F,F,F,F,F,F] z22_0 rfl rfl ⟨(kc HB Ae),(kc HB Af),(kc HB Ag),(kc HB Al),(kc HB Ao),(kc HB Aq)⟩ (fun hHeld=>?_);refine with_tabW fP.tab6 fP.bits6 (fun HT_ HW_=>?_)
    generalize wr.drew=Gp at HB Ah Ak Ai Am Aj Ap hHeld ⊢
    refine pu (i:=0) (N:=some 33) #[T,F,F,F,F,F,F,F,F,F,F,F,F,F,F,F,F,F,F,F,F,F,F,F,F,F,F] (any_of HT_.out z22_0) ?_
    refine pu (i:=1) (N:=some 34) #[T,T,F,F,F,F,F,F,F,F,F,F,F,F,F,F,F,F,F,F,F,F,F,F,F,F,F] (any_of HT_.out z22_0) ?_
    refine pu (i:=2) (N:=some 35) #[T,T,T,F,F,F,F,F,F,F,F,F,F,F,F,F,F,F,F,F,F,F,F,F,F,F,F] (any_of HT_.out z22_0) ?_
    refine pu (i:=8) (N:=some 41) #[T,T,T,F,F,F,F,F,T,F,F,F,F,F,F,F,F,F,F,F,F,F,F,F,F,F,F] (any_of HT_.out z22_0) ?_
    refine pu (i:=9) (N:=some 42) #[T,T,T,F,F,F,F,F,T,T,F,F,F,F,F,F,F,F,F,F,F,F,F,F,F,F,F] (any_of HT_.out z22_0) ?_
    refine pu (i:=10) (N:=some 43) #[T,T,T,F,F,F,F,F,T,T,T,F,F,F,F,F,F,F,F,F,F,F,F,F,F,F,F] (any_of HT_.out z22_0) ?_
    refine pu (i:=16) (N:=some 49) #[T,T,T,F,F,F,F,F,T,T,T,F,F,F,F,F,T,F,F,F,F,F,F,F,F,F,F] (any_of HT_.out z22_0) ?_
    refine pu (i:=17) (N:=some 50) #[T,T,T,F,F,F,F,F,T,T,T,F,F,F,F,F,T,T,F,F,F,F,F,F,F,F,F] (any_of HT_.out z22_0) ?_
    refine pu (i:=18) (N:=some 51) #[T,T,T,F,F,F,F,F,T,T,T,F,F,F,F,F,T,T,T,F,F,F,F,F,F,F,F] (any_of HT_.out z22_0) ?_
    refine take_ (i:=3) (N:=some 36) (v:=?_) (a':=?_) #[T,T,T,T,F,F,F,F,T,T,T,F,F,F,F,F,T,T,T,F,F,F,F,F,F,F,F] rfl rfl (take_ofW HT_.out HW_.out z22_0) (fun _ _ _ h=>h) (Or.inl ⟨by rfl,?_⟩) hHeld ?_ ?_
    rotate_left
    ·rintro w' ⟨s0,s1,s2,s3,s4,s5⟩
     go_simp
     with_reducible rfl
    rotate_left
    ·exact acq
    refine take_ (i:=11) (N:=some 44) (v:=?_) (a':=?_) #[T,T,T,T,F,F,F,F,T,T,T,T,F,F,F,F,T,T,T,F,F,F,F,F,F,F,F] rfl rfl (take_ofW HT_.out HW_.out z22_0) (fun _ _ _ h=>h) (Or.inl ⟨by rfl,?_⟩) hHeld ?_ ?_
    rotate_left
    ·rintro w' ⟨s0,s1,s2,s3,s4,s5⟩
     go_simp
     with_reducible rfl
    rotate_left
    ·exact acq
    refine take_ (i:=19) (N:=some 52) (v:=?_) (a':=?_) #[T,T,T,T,F,F,F,F,T,T,T,T,F,F,F,F,T,T,T,T,F,F,F,F,F,F,F] rfl rfl (take_ofW HT_.out HW_.out z22_0) (fun _ _ _ h=>h) (Or.inl ⟨by rfl,?_⟩) hHeld ?_ ?_
    rotate_left
    ·rintro w' ⟨s0,s1,s2,s3,s4,s5⟩
     go_simp
     with_reducible rfl
    rotate_left
    ·exact acq
    refine one_ (i:=4) (N:=some 37) #[T,T,T,T,T,F,F,F,T,T,T,T,F,F,F,F,T,T,T,T,F,F,F,F,F,F,F] rfl rfl (one_of HT_.out z22_0) (by decide) (fun K hK=>?_)
    refine goes_ Try.func60 z22_0 rfl #[.int .i64 (rd (rd_L1 l0 Ad) 0)] (by rfl) rfl rfl ln_22 ?_
    with_reducible refine(gM.calls (rd (rd_L1 l0 Ad) 0) Cq _ Cy.out).mono ?_
    rintro e Gq ⟨rfl,hb⟩
    refine⟨_,rfl,?_⟩
    replace HB:=Az.mk (bwT bw_22 hb)
    (try clear hb)
    (try clear hb2)
    (try clear hk)
    (try clear hi)
    refine hK.out _ _ ⟨(kc HB Ae),(kc HB Af),(kc HB Ag),(kc HB Al),(kc HB Ao),(kc HB Aq)⟩ (fun hHeld=>?_)
    clear hK K
    refine norm_ (a':=?_) ?_ ?_
    rotate_left
    ·show Act.put _ (some 37) _=_
     exact acq
    refine pu (i:=5) (N:=some 38) #[T,T,T,T,T,T,F,F,T,T,T,T,F,F,F,F,T,T,T,T,F,F,F,F,F,F,F] (any_of HT_.out z22_0) ?_
    refine pu (i:=6) (N:=some 39) #[T,T,T,T,T,T,T,F,T,T,T,T,F,F,F,F,T,T,T,T,F,F,F,F,F,F,F] (any_of HT_.out z22_0) ?_
    refine take_ (i:=7) (N:=some 40) (v:=?_) (a':=?_) #[T,T,T,T,T,T,T,T,T,T,T,T,F,F,F,F,T,T,T,T,F,F,F,F,F,F,F] rfl rfl (take_ofW HT_.out HW_.out z22_0) (fun _ _ _ h=>h) (Or.inl ⟨by rfl,?_⟩) hHeld ?_ ?_
    rotate_left
    ·rintro w' ⟨s0,s1,s2,s3,s4,s5⟩
     go_simp
     with_reducible rfl
    rotate_left
    ·exact acq
    refine one_ (i:=12) (N:=some 45) #[T,T,T,T,T,T,T,T,T,T,T,T,T,F,F,F,T,T,T,T,F,F,F,F,F,F,F] rfl rfl (one_of HT_.out z22_0) (by decide) (fun K hK=>?_)
    refine goes_ Try.func60 z22_0 rfl #[.int .i64 (rd (rd_L1 l0 Ad) 1)] (by rfl) rfl rfl ln_22 ?_
    with_reducible refine(gM.calls (rd (rd_L1 l0 Ad) 1) Bw _ Db.out).mono ?_
    rintro e Gr ⟨rfl,hb⟩
    refine⟨_,rfl,?_⟩
    replace HB:=Az.mk (bwT bw_22 hb)
    (try clear hb)
    (try clear hb2)
    (try clear hk)
    (try clear hi)
    refine hK.out _ _ ⟨(kc HB Ae),(kc HB Af),(kc HB Ag),(kc HB Al),(kc HB Ao),(kc HB Aq)⟩ (fun hHeld=>?_)
    clear hK K
    refine norm_ (a':=?_) ?_ ?_
    rotate_left
    ·show Act.put _ (some 45) _=_
     exact acq
    refine pu (i:=13) (N:=some 46) #[T,T,T,T,T,T,T,T,T,T,T,T,T,T,F,F,T,T,T,T,F,F,F,F,F,F,F] (any_of HT_.out z22_0) ?_
    refine pu (i:=14) (N:=some 47) #[T,T,T,T,T,T,T,T,T,T,T,T,T,T,T,F,T,T,T,T,F,F,F,F,F,F,F] (any_of HT_.out z22_0) ?_
    refine take_ (i:=15) (N:=some 48) (v:=?_) (a':=?_) #[T,T,T,T,T,T,T,T,T,T,T,T,T,T,T,T,T,T,T,T,F,F,F,F,F,F,F] rfl rfl (take_ofW HT_.out HW_.out z22_0) (fun _ _ _ h=>h) (Or.inl ⟨by rfl,?_⟩) hHeld ?_ ?_
    rotate_left
    ·rintro w' ⟨s0,s1,s2,s3,s4,s5⟩
     go_simp
     with_reducible rfl
    rotate_left
    ·exact acq
    refine one_ (i:=20) (N:=some 53) #[T,T,T,T,T,T,T,T,T,T,T,T,T,T,T,T,T,T,T,T,T,F,F,F,F,F,F] rfl rfl (one_of HT_.out z22_0) (by decide) (fun K hK=>?_)
    refine goes_ Try.func60 z22_0 rfl #[.int .i64 (rd (rd_L1 l0 Ad) 2)] (by rfl) rfl rfl ln_22 ?_
    with_reducible refine(gM.calls (rd (rd_L1 l0 Ad) 2) Bf _ De.out).mono ?_
    rintro e Gs ⟨rfl,hb⟩
    refine⟨_,rfl,?_⟩
    replace HB:=Az.mk (bwT bw_22 hb)
    (try clear hb)
    (try clear hb2)
    (try clear hk)
    (try clear hi)
    refine hK.out _ _ ⟨(kc HB Ae),(kc HB Af),(kc HB Ag),(kc HB Al),(kc HB Ao),(kc HB Aq)⟩ (fun hHeld=>?_)
    clear hK K
    refine norm_ (a':=?_) ?_ ?_
    rotate_left
    ·show Act.put _ (some 53) _=_
     exact acq
    refine pu (i:=21) (N:=some 54) #[T,T,T,T,T,T,T,T,T,T,T,T,T,T,T,T,T,T,T,T,T,T,F,F,F,F,F] (any_of HT_.out z22_0) ?_
    refine pu (i:=22) (N:=some 55) #[T,T,T,T,T,T,T,T,T,T,T,T,T,T,T,T,T,T,T,T,T,T,T,F,F,F,F] (any_of HT_.out z22_0) ?_
    refine pu (i:=24) (N:=some 7) #[T,T,T,T,T,T,T,T,T,T,T,T,T,T,T,T,T,T,T,T,T,T,T,F,T,F,F] (any_of HT_.out z22_0) ?_
    refine pu (i:=25) (N:=some 8) #[T,T,T,T,T,T,T,T,T,T,T,T,T,T,T,T,T,T,T,T,T,T,T,F,T,T,F] (any_of HT_.out z22_0) ?_
    refine take_ (i:=23) (N:=some 56) (v:=?_) (a':=?_) #[T,T,T,T,T,T,T,T,T,T,T,T,T,T,T,T,T,T,T,T,T,T,T,T,T,T,F] rfl rfl (take_ofW HT_.out HW_.out z22_0) (fun _ _ _ h=>h) (Or.inl ⟨by rfl,?_⟩) hHeld ?_ ?_
    rotate_left
    ·rintro w' ⟨s0,s1,s2,s3,s4,s5⟩
     go_simp
     with_reducible rfl
    rotate_left
    ·exact acq
    refine pu (i:=26) (N:=some 9) #[T,T,T,T,T,T,T,T,T,T,T,T,T,T,T,T,T,T,T,T,T,T,T,T,T,T,T] (any_of HT_.out z22_0) ?_
    refine done_ (done_of HT_.out z22_0) ?_
    try go_wp2
    go_ret
    exact⟨by first|rfl|(simp[eWn,eWs] <;> rfl)|(simp only[←Cc, ←Bx, ←Bv];first|rfl|(simp[eWn,eWs] <;> rfl))|(simp[*,eWn,eWs] <;> rfl),bw_22⟩
   rw[ig Dh]at H
   have Do:decide ((wrap64 ((rd l1 (Au))+(rd l1 (Ax))))<(rd l1 (Ay)))=false:=decide_eq_false Dh
   clear Dh
   have H':=Az.mk H
   clear H
   have Bh:0≤(Ad:Int):=od
   have Bi:Ad<(l0.length:Int):=od
   obtain⟨Cs,Cg,Ch,Ci,Bb,Bc,Bd⟩:=at_L1 Cx.out Ad Bh Bi
   cases Ci
   replace Bb:=kc HB Bb
   have Av:=Az.mk Bd
   have Cd:=Az.mk Bc
   clear Bd Bc
   replace Bh:=ets Bh
   replace Bi:=ets Bi
   try go_wp2
   replace HB:=Az.mk (bwD HB.out)
   have Bj:0≤(0:Int):=(by omega)
   have Bk:0<((rd_L1 l0 Ad).length:Int):=od
   obtain⟨As,Cj,Ah⟩:=Kd.at_int Av.out 0 Bj Bk
   have Ae:=Ah
   (try rw[show((0:Int)).toNat=0 from rfl]at Ae)
   (try rw[show 0*1=0 from rfl]at Ae)
   (try rw[Addr.add_zero']at Ae)
   cases Cj
   have Ct:(0<(rd_L1 l0 Ad).length)=True:=ets (by omega)
   (try rw[show((0:Int)).toNat=0 from rfl]at Ah)
   (try rw[Addr.add_zero']at Ah)
   replace Ah:=kc HB Ah
   replace Bj:=ets Bj
   replace Bk:=ets Bk
   have Bl:0≤(1:Int):=(by omega)
   have Bm:1<((rd_L1 l0 Ad).length:Int):=od
   obtain⟨By,Ck,Ai⟩:=Kd.at_int Av.out 1 Bl Bm
   have Af:=Ai
   (try rw[show((1:Int)).toNat=1 from rfl]at Af)
   (try rw[show 1*1=1 from rfl]at Af)
   (try simp only[Nat.reduceMul,Nat.reduceEqDiff,Go.Addr.add, ↓reduceIte]at Af)
   obtain rfl:As=By:=(by injection Ck)
   (try simp only[show(1:Int).toNat=1 from rfl,Nat.reduceMul,Nat.reduceEqDiff,Go.Addr.add, ↓reduceIte]at Ai)
   have Cu:(1<(rd_L1 l0 Ad).length)=True:=ets (by omega)
   (try rw[show((1:Int)).toNat=1 from rfl]at Ai)
   replace Ai:=kc HB Ai
   replace Bl:=ets Bl
   replace Bm:=ets Bm
   have Bn:0≤(2:Int):=(by omega)
   have Bo:2<((rd_L1 l0 Ad).length:Int):=od
   obtain⟨Bz,Cl,Aj⟩:=Kd.at_int Av.out 2 Bn Bo
   have Ag:=Aj
   (try rw[show((2:Int)).toNat=2 from rfl]at Ag)
   (try rw[show 2*1=2 from rfl]at Ag)
   (try simp only[Nat.reduceMul,Nat.reduceEqDiff,Go.Addr.add, ↓reduceIte]at Ag)
   obtain rfl:As=Bz:=(by injection Cl)
   (try simp only[show(2:Int).toNat=2 from rfl,Nat.reduceMul,Nat.reduceEqDiff,Go.Addr.add, ↓reduceIte]at Aj)
   have Cv:(2<(rd_L1 l0 Ad).length)=True:=ets (by omega)
   (try rw[show((2:Int)).toNat=2 from rfl]at Aj)
   replace Aj:=kc HB Aj
   replace Bn:=ets Bn
   replace Bo:=ets Bo
   have Bp:0≤((Au):Int):=od
   have Bq:(Au)<(l1.length:Int):=od
   obtain⟨Ba,Cm,Ak⟩:=Kd.at_int HR1.out (Au) Bp Bq
   have Al:=Ak
   cases Cm
   replace Ak:=kc HB Ak
   replace Bp:=ets Bp
   replace Bq:=ets Bq
   have Br:0≤((Ax):Int):=od
   have Bs:(Ax)<(l1.length:Int):=od
   obtain⟨Ca,Cn,Am⟩:=Kd.at_int HR1.out (Ax) Br Bs
   have Ao:=Am
   obtain rfl:Ba=Ca:=(by injection Cn)
   replace Am:=kc HB Am
   replace Br:=ets Br
   replace Bs:=ets Bs
   have Bt:0≤((Ay):Int):=od
   have Bu:(Ay)<(l1.length:Int):=od
   obtain⟨Cb,Co,Ap⟩:=Kd.at_int HR1.out (Ay) Bt Bu
   have Aq:=Ap
   obtain rfl:Ba=Cb:=(by injection Co)
   replace Ap:=kc HB Ap
   replace Bt:=ets Bt
   replace Bu:=ets Bu
   refine start_ (n:=27) (S:=fun w'=>w'.cell? As=some (.int .i64 (rd (rd_L1 l0 Ad) 0))∧w'.cell? ⟨As.block,As.off+1,none⟩=some (.int .i64 (rd (rd_L1 l0 Ad) 1))∧w'.cell? ⟨As.block,As.off+2,none⟩=some (.int .i64 (rd (rd_L1 l0 Ad) 2))∧w'.cell? (Ba.add ((Au)).toNat)=some (.int .i64 (rd l1 (Au)))∧w'.cell? (Ba.add ((Ax)).toNat)=some (.int .i64 (rd l1 (Ax)))∧w'.cell? (Ba.add ((Ay)).toNat)=some (.int .i64 (rd l1 (Ay)))) (ds:=[]) #[F,F,F,F,F,F,F,F,F,F,F,F,F,F,F,F,F,F,F,F,F,F,F,F,F,F,F] z22_0 rfl rfl ⟨(kc HB Ae),(kc HB Af),(kc HB Ag),(kc HB Al),(kc HB Ao),(kc HB Aq)⟩ (fun hHeld=>?_);refine with_tabW fP.tab6 fP.bits6 (fun HT_ HW_=>?_)
   generalize wr.drew=Gt at HB Ah Ak Ai Am Aj Ap hHeld ⊢
   refine pu (i:=0) (N:=some 33) #[T,F,F,F,F,F,F,F,F,F,F,F,F,F,F,F,F,F,F,F,F,F,F,F,F,F,F] (any_of HT_.out z22_0) ?_
   refine pu (i:=1) (N:=some 34) #[T,T,F,F,F,F,F,F,F,F,F,F,F,F,F,F,F,F,F,F,F,F,F,F,F,F,F] (any_of HT_.out z22_0) ?_
   refine pu (i:=2) (N:=some 35) #[T,T,T,F,F,F,F,F,F,F,F,F,F,F,F,F,F,F,F,F,F,F,F,F,F,F,F] (any_of HT_.out z22_0) ?_
   refine pu (i:=8) (N:=some 41) #[T,T,T,F,F,F,F,F,T,F,F,F,F,F,F,F,F,F,F,F,F,F,F,F,F,F,F] (any_of HT_.out z22_0) ?_
   refine pu (i:=9) (N:=some 42) #[T,T,T,F,F,F,F,F,T,T,F,F,F,F,F,F,F,F,F,F,F,F,F,F,F,F,F] (any_of HT_.out z22_0) ?_
   refine pu (i:=10) (N:=some 43) #[T,T,T,F,F,F,F,F,T,T,T,F,F,F,F,F,F,F,F,F,F,F,F,F,F,F,F] (any_of HT_.out z22_0) ?_
   refine pu (i:=16) (N:=some 49) #[T,T,T,F,F,F,F,F,T,T,T,F,F,F,F,F,T,F,F,F,F,F,F,F,F,F,F] (any_of HT_.out z22_0) ?_
   refine pu (i:=17) (N:=some 50) #[T,T,T,F,F,F,F,F,T,T,T,F,F,F,F,F,T,T,F,F,F,F,F,F,F,F,F] (any_of HT_.out z22_0) ?_
   refine pu (i:=18) (N:=some 51) #[T,T,T,F,F,F,F,F,T,T,T,F,F,F,F,F,T,T,T,F,F,F,F,F,F,F,F] (any_of HT_.out z22_0) ?_
   refine take_ (i:=3) (N:=some 36) (v:=?_) (a':=?_) #[T,T,T,T,F,F,F,F,T,T,T,F,F,F,F,F,T,T,T,F,F,F,F,F,F,F,F] rfl rfl (take_ofW HT_.out HW_.out z22_0) (fun _ _ _ h=>h) (Or.inl ⟨by rfl,?_⟩) hHeld ?_ ?_
   rotate_left
   ·rintro w' ⟨s0,s1,s2,s3,s4,s5⟩
    go_simp
    with_reducible rfl
   rotate_left
   ·exact acq
   refine take_ (i:=11) (N:=some 44) (v:=?_) (a':=?_) #[T,T,T,T,F,F,F,F,T,T,T,T,F,F,F,F,T,T,T,F,F,F,F,F,F,F,F] rfl rfl (take_ofW HT_.out HW_.out z22_0) (fun _ _ _ h=>h) (Or.inl ⟨by rfl,?_⟩) hHeld ?_ ?_
   rotate_left
   ·rintro w' ⟨s0,s1,s2,s3,s4,s5⟩
    go_simp
    with_reducible rfl
   rotate_left
   ·exact acq
   refine take_ (i:=19) (N:=some 52) (v:=?_) (a':=?_) #[T,T,T,T,F,F,F,F,T,T,T,T,F,F,F,F,T,T,T,T,F,F,F,F,F,F,F] rfl rfl (take_ofW HT_.out HW_.out z22_0) (fun _ _ _ h=>h) (Or.inl ⟨by rfl,?_⟩) hHeld ?_ ?_
   rotate_left
   ·rintro w' ⟨s0,s1,s2,s3,s4,s5⟩
    go_simp
    with_reducible rfl
   rotate_left
   ·exact acq
   refine one_ (i:=4) (N:=some 37) #[T,T,T,T,T,F,F,F,T,T,T,T,F,F,F,F,T,T,T,T,F,F,F,F,F,F,F] rfl rfl (one_of HT_.out z22_0) (by decide) (fun K hK=>?_)
   refine goes_ Try.func60 z22_0 rfl #[.int .i64 (rd (rd_L1 l0 Ad) 0)] (by rfl) rfl rfl ln_22 ?_
   with_reducible refine(gM.calls (rd (rd_L1 l0 Ad) 0) Cq _ Cy.out).mono ?_
   rintro e Gu ⟨rfl,hb⟩
   refine⟨_,rfl,?_⟩
   replace HB:=Az.mk (bwT bw_22 hb)
   (try clear hb)
   (try clear hb2)
   (try clear hk)
   (try clear hi)
   refine hK.out _ _ ⟨(kc HB Ae),(kc HB Af),(kc HB Ag),(kc HB Al),(kc HB Ao),(kc HB Aq)⟩ (fun hHeld=>?_)
   clear hK K
   refine norm_ (a':=?_) ?_ ?_
   rotate_left
   ·show Act.put _ (some 37) _=_
    exact acq
   refine pu (i:=5) (N:=some 38) #[T,T,T,T,T,T,F,F,T,T,T,T,F,F,F,F,T,T,T,T,F,F,F,F,F,F,F] (any_of HT_.out z22_0) ?_
   refine pu (i:=6) (N:=some 39) #[T,T,T,T,T,T,T,F,T,T,T,T,F,F,F,F,T,T,T,T,F,F,F,F,F,F,F] (any_of HT_.out z22_0) ?_
   refine take_ (i:=7) (N:=some 40) (v:=?_) (a':=?_) #[T,T,T,T,T,T,T,T,T,T,T,T,F,F,F,F,T,T,T,T,F,F,F,F,F,F,F] rfl rfl (take_ofW HT_.out HW_.out z22_0) (fun _ _ _ h=>h) (Or.inl ⟨by rfl,?_⟩) hHeld ?_ ?_
   rotate_left
   ·rintro w' ⟨s0,s1,s2,s3,s4,s5⟩
    go_simp
    with_reducible rfl
   rotate_left
   ·exact acq
   refine one_ (i:=12) (N:=some 45) #[T,T,T,T,T,T,T,T,T,T,T,T,T,F,F,F,T,T,T,T,F,F,F,F,F,F,F] rfl rfl (one_of HT_.out z22_0) (by decide) (fun K hK=>?_)
   refine goes_ Try.func60 z22_0 rfl #[.int .i64 (rd (rd_L1 l0 Ad) 1)] (by rfl) rfl rfl ln_22 ?_
   with_reducible refine(gM.calls (rd (rd_L1 l0 Ad) 1) Bw _ Db.out).mono ?_
   rintro e Gv ⟨rfl,hb⟩
   refine⟨_,rfl,?_⟩
   replace HB:=Az.mk (bwT bw_22 hb)
   (try clear hb)
   (try clear hb2)
   (try clear hk)
   (try clear hi)
   refine hK.out _ _ ⟨(kc HB Ae),(kc HB Af),(kc HB Ag),(kc HB Al),(kc HB Ao),(kc HB Aq)⟩ (fun hHeld=>?_)
   clear hK K
   refine norm_ (a':=?_) ?_ ?_
   rotate_left
   ·show Act.put _ (some 45) _=_
    exact acq
   refine pu (i:=13) (N:=some 46) #[T,T,T,T,T,T,T,T,T,T,T,T,T,T,F,F,T,T,T,T,F,F,F,F,F,F,F] (any_of HT_.out z22_0) ?_
   refine pu (i:=14) (N:=some 47) #[T,T,T,T,T,T,T,T,T,T,T,T,T,T,T,F,T,T,T,T,F,F,F,F,F,F,F] (any_of HT_.out z22_0) ?_
   refine take_ (i:=15) (N:=some 48) (v:=?_) (a':=?_) #[T,T,T,T,T,T,T,T,T,T,T,T,T,T,T,T,T,T,T,T,F,F,F,F,F,F,F] rfl rfl (take_ofW HT_.out HW_.out z22_0) (fun _ _ _ h=>h) (Or.inl ⟨by rfl,?_⟩) hHeld ?_ ?_
   rotate_left
   ·rintro w' ⟨s0,s1,s2,s3,s4,s5⟩
    go_simp
    with_reducible rfl
   rotate_left
   ·exact acq
   refine one_ (i:=20) (N:=some 53) #[T,T,T,T,T,T,T,T,T,T,T,T,T,T,T,T,T,T,T,T,T,F,F,F,F,F,F] rfl rfl (one_of HT_.out z22_0) (by decide) (fun K hK=>?_)
   refine goes_ Try.func60 z22_0 rfl #[.int .i64 (rd (rd_L1 l0 Ad) 2)] (by rfl) rfl rfl ln_22 ?_
   with_reducible refine(gM.calls (rd (rd_L1 l0 Ad) 2) Bf _ De.out).mono ?_
   rintro e Gw ⟨rfl,hb⟩
   refine⟨_,rfl,?_⟩
   replace HB:=Az.mk (bwT bw_22 hb)
   (try clear hb)
   (try clear hb2)
   (try clear hk)
   (try clear hi)
   refine hK.out _ _ ⟨(kc HB Ae),(kc HB Af),(kc HB Ag),(kc HB Al),(kc HB Ao),(kc HB Aq)⟩ (fun hHeld=>?_)
   clear hK K
   refine norm_ (a':=?_) ?_ ?_
   rotate_left
   ·show Act.put _ (some 53) _=_
    exact acq
   refine pu (i:=21) (N:=some 54) #[T,T,T,T,T,T,T,T,T,T,T,T,T,T,T,T,T,T,T,T,T,T,F,F,F,F,F] (any_of HT_.out z22_0) ?_
   refine pu (i:=22) (N:=some 55) #[T,T,T,T,T,T,T,T,T,T,T,T,T,T,T,T,T,T,T,T,T,T,T,F,F,F,F] (any_of HT_.out z22_0) ?_
   refine pu (i:=24) (N:=some 7) #[T,T,T,T,T,T,T,T,T,T,T,T,T,T,T,T,T,T,T,T,T,T,T,F,T,F,F] (any_of HT_.out z22_0) ?_
   refine pu (i:=25) (N:=some 8) #[T,T,T,T,T,T,T,T,T,T,T,T,T,T,T,T,T,T,T,T,T,T,T,F,T,T,F] (any_of HT_.out z22_0) ?_
   refine take_ (i:=23) (N:=some 56) (v:=?_) (a':=?_) #[T,T,T,T,T,T,T,T,T,T,T,T,T,T,T,T,T,T,T,T,T,T,T,T,T,T,F] rfl rfl (take_ofW HT_.out HW_.out z22_0) (fun _ _ _ h=>h) (Or.inl ⟨by rfl,?_⟩) hHeld ?_ ?_
   rotate_left
   ·rintro w' ⟨s0,s1,s2,s3,s4,s5⟩
    go_simp
    with_reducible rfl
   rotate_left
   ·exact acq
   refine pu (i:=26) (N:=some 9) #[T,T,T,T,T,T,T,T,T,T,T,T,T,T,T,T,T,T,T,T,T,T,T,T,T,T,T] (any_of HT_.out z22_0) ?_
   refine done_ (done_of HT_.out z22_0) ?_
   try go_wp2
   go_roundg k2
   case measure=>have:=Eg.out;have:=HK2.out;omega
   case rel=>exact⟨(wrap64 (Ad+1)),rq2,H',⟨by have:=Eg.out;have:=HK2.out;omega⟩,⟨bw_22⟩⟩
end
/-- What lies behind a joiner's pointer: block p holds the slice, its row is owned, apart from p. -/
structure Jn (w:World) (base p:Nat) (A:Option Addr) (c:Nat) (xs:List Int):Prop where
 lo:base≤p
 cell:w.cell? ⟨p,0,none⟩=some (.slice A xs.length c)
 row:Kd.R (Kd.int .i64) 3 w base (fun k=>k≠p) (.slice A xs.length c) xs
theorem Jn.below {w w':World}{base p:Nat}{A:Option Addr}{c:Nat}{xs:List Int} (h:Jn w base p A c xs) (hb:Below w.heap.size w w'):Jn w' base p A c xs:=
 ⟨h.lo,(hb.cell (World.block_lt_of_cell? w _ h.cell)).trans h.cell,Kd.R_below h.row hb⟩
theorem Jn.drewN {w:World}{base p:Nat}{A:Option Addr}{c:Nat}{xs:List Int} (h:Jn w base p A c xs) (n:Nat):Jn (w.drewN n) base p A c xs:=h.below (pbN (Below.refl _ _) n)
theorem Jn.C {w:World}{base p:Nat}{A:Option Addr}{c:Nat}{xs:List Int} (h:Jn w base p A c xs):Kd.C (Kd.int .i64) w A xs.length xs:=(Kd.R_reads' h.row).2.2
theorem Jn.lower {w:World}{base base' p:Nat}{A:Option Addr}{c:Nat}{xs:List Int} (h:Jn w base p A c xs) (hb:base'≤base):Jn w base' p A c xs:=⟨Nat.le_trans hb h.lo,h.cell,Kd.R_lower h.row hb⟩
def joiner_top.l0:Nat→List Int→Int→Option Int
 |0,_,_=>none
 |k+1,xs,i=>if 0≤i then(if i<(xs.length:Int) then(if rd xs i=i then some i else joiner_top.l0 k xs (rd xs i))else none)else none
theorem joiner_top.calls (k:Nat) (p:Addr) (A:Option Addr) (c:Nat) (xs:List Int) (i r:Int) (w:World) (hp:w.cell? p=some (.slice A xs.length c)) (hr:Kd.C (Kd.int .i64) w A xs.length xs) (h:joiner_top.l0 k xs i=some r):
  Calls Try.prog 64 #[.pointer (some p), .int .i64 i] w fun e w'=>e= .returned (.int .i64 r)∧Drawn0 w w':=by
 have HR:=Az.mk hr
 have H':=Az.mk h
 clear hr h
 go_enter Try.func64,Try.ntmps64
 go_wp2
 go_loopg [1] k (fun kq v1 w'=>∃i_1:Int,v1= .int .i64 i_1∧Az (joiner_top.l0 kq xs i_1=some r)∧Az (kq≤k)∧Drawn0 w w')
 case atStart=>exact⟨i,rfl,H',⟨Nat.le_refl _⟩,Drawn0.refl _⟩
 clear H'
 obtain⟨i_1,rfl,HA,HK1,⟨m1,rfl⟩⟩:=hrel
 cases gk with
 |zero=>exact absurd HA.out (by simp[joiner_top.l0])
 |succ k1=>
  have H:=HA.out
  clear HA
  simp only[joiner_top.l0]at H
  by_cases b1:0≤i_1
  rotate_left
  ·rw[ig b1]at H
   exact absurd H (by simp)
  rw[ip b1]at H
  by_cases b2:i_1<(xs.length:Int)
  rotate_left
  ·rw[ig b2]at H
   exact absurd H (by simp)
  rw[ip b2]at H
  obtain⟨ad,rfl,hx⟩:=Kd.at_int HR.out i_1 b1 b2
  replace b1:=ets b1
  replace b2:=ets b2
  obtain⟨X,hX⟩:∃j_:Int,rd xs i_1=j_:=⟨_,rfl⟩
  rw[hX]at H hx
  clear hX
  by_cases b3:X=i_1
  ·rw[ip b3]at H
   have b3b:(X != i_1)=false:=bne_eq_false_iff_eq.mpr b3
   clear b3
   obtain rfl:=Option.some.inj H
   go_wp2
   go_ret
   exact⟨rfl,kd⟩
  rw[ig b3]at H
  have b3b:(X != i_1)=true:=bne_iff_ne.mpr b3
  clear b3
  have H':=Az.mk H
  clear H
  go_wp2
  go_roundg k1
  case measure=>have:=HK1.out;omega
  case rel=>exact⟨X,rfl,H',⟨by have:=HK1.out;omega⟩,kd⟩
def joiner_join.put (xs:List Int) (p q:Int):Option (List Int):=if 0≤p then(if p<(xs.length:Int)then some (xs.set p.toNat q)else none)else none
def joiner_join.f (k:Nat) (xs:List Int) (a b:Int):Option (List Int):=(joiner_top.l0 k xs a).bind fun p=>((joiner_top.l0 k xs b).bind fun q=>(if p>q then joiner_join.put xs p q else joiner_join.put xs q p))
theorem joiner_join.put_len {xs ys:List Int}{p q:Int} (h:joiner_join.put xs p q=some ys):ys.length=xs.length:=by
 unfold joiner_join.put at h
 by_cases b1:0≤p
 rotate_left
 ·rw[ig b1]at h
  exact absurd h (by simp)
 rw[ip b1]at h
 by_cases b2:p<(xs.length:Int)
 ·rw[ip b2]at h
  obtain rfl:=Option.some.inj h
  exact List.length_set ..
 rw[ig b2]at h
 exact absurd h (by simp)
theorem joiner_join.len {k:Nat}{xs ys:List Int}{a b:Int} (h:joiner_join.f k xs a b=some ys):ys.length=xs.length:=by
 unfold joiner_join.f at h
 obtain⟨p,_,h⟩:=be.mp h
 obtain⟨q,_,h⟩:=be.mp h
 by_cases b:p>q
 ·rw[ip b]at h;exact joiner_join.put_len h
 rw[ig b]at h;exact joiner_join.put_len h
theorem joiner_join.calls (k:Nat) (p:Nat) (A:Option Addr) (c:Nat) (xs ys:List Int) (a b:Int) (w0 w:World) (hB:Below w0.heap.size w0 w) (hJ:Jn w w0.heap.size p A c xs) (h:joiner_join.f k xs a b=some ys):
  Calls Try.prog 63 #[.pointer (some ⟨p,0,none⟩), .int .i64 a, .int .i64 b] w fun e w'=>e= .returned (.tuple #[])∧Jn w' w0.heap.size p A c ys∧Below w0.heap.size w0 w':=by
 have HB:=Az.mk hB
 have HJ:=Az.mk hJ
 clear hB hJ
 unfold joiner_join.f at h
 obtain⟨P,T1,h⟩:=be.mp h
 obtain⟨Q,T2,h⟩:=be.mp h
 have T1:=Az.mk T1
 have T2:=Az.mk T2
 have K:∀(i r:Int),joiner_top.l0 k xs i=some r→∀W,Drawn0 w W→Calls Try.prog 64 #[.pointer (some ⟨p,0,none⟩), .int .i64 i] W fun e w'=>e= .returned (.int .i64 r)∧Drawn0 W w':=by
  rintro i r ht W ⟨n,rfl⟩
  have J:=HJ.out.drewN n
  exact joiner_top.calls k _ A c xs i r _ J.cell J.C ht
 have K1:=K _ _ T1.out
 have K2:=K _ _ T2.out
 clear K T1 T2
 have key:∀(u v:Int),joiner_join.put xs u v=some ys→∃g:Nat,A=some ⟨g,0,none⟩∧(0≤u∧u<(xs.length:Int))∧w.cell? ⟨g,u.toNat,none⟩=some (.int .i64 (rd xs u))∧w.frozen? ⟨g,u.toNat,none⟩=false∧∀W,Drawn0 w W→Jn (W.setCell ⟨g,u.toNat,none⟩ (.int .i64 v)) w0.heap.size p A c ys∧Below w0.heap.size w0 (W.setCell ⟨g,u.toNat,none⟩ (.int .i64 v)):=by
  intro u v hput
  have hlen:=joiner_join.put_len hput
  unfold joiner_join.put at hput
  by_cases b1:0≤u
  rotate_left
  ·rw[ig b1]at hput
   exact absurd hput (by simp)
  rw[ip b1]at hput
  by_cases b2:u<(xs.length:Int)
  rotate_left
  ·rw[ig b2]at hput
   exact absurd hput (by simp)
  rw[ip b2]at hput
  obtain rfl:=Option.some.inj hput
  obtain⟨g,cap,eg,hg1,_⟩:=Kd.R_form HJ.out.row (by omega)
  injection eg with ea en ec
  subst ea
  subst ec
  have hne:g≠p:=HJ.out.row.1 g rfl
  obtain⟨hx,hf⟩:=Kd.R_celln 0 HJ.out.row u b1 b2
  refine⟨g,rfl,⟨b1,b2⟩,hx,hf,?_⟩
  rintro W ⟨n,rfl⟩
  have J:=HJ.out.drewN n
  have HP:=Kd.R_putg J.row u v
  refine⟨⟨J.lo,?_,?_⟩,bwS (pbN HB.out n) hg1⟩
  ·rw[hlen]
   exact(cell_far (fun e=>hne e.symm) _).trans J.cell
  rw[hlen]
  exact HP.1
 have hcell:=HJ.out.cell
 by_cases b:P>Q
 ·rw[ip b]at h
  obtain⟨g,rfl,⟨b1,b2⟩,hx,hf,fin⟩:=key P Q h
  have FIN:=Az.mk fin
  have bb:decide (P>Q)=true:=ode b
  have bb':decide (Q<P)=true:=ode b
  replace b1:=ets b1
  replace b2:=ets b2
  clear key fin h b HJ HB
  go_enter Try.func63,Try.ntmps63
  go_wp2_with (first
   |(go_at_call 64;refine(K1 _ (by repeat(first|exact Drawn0.refl _|apply Drawn0.step))).mono ?_;rintro e w' ⟨rfl,⟨nd1,rfl⟩⟩;clear K1)
   |(go_at_call 64;refine(K2 _ (by repeat(first|exact Drawn0.refl _|apply Drawn0.step))).mono ?_;rintro e w' ⟨rfl,⟨nd2,rfl⟩⟩;clear K2))
  first|go_end0|((try simp only[Exit.inBlock,Exit.then]);refine bodyPost_ret (results_none rfl _ _ _) rfl ?_)
  exact⟨rfl,(FIN.out _ ⟨_,rfl⟩).1,(FIN.out _ ⟨_,rfl⟩).2⟩
 rw[ig b]at h
 obtain⟨g,rfl,⟨b1,b2⟩,hx,hf,fin⟩:=key Q P h
 have FIN:=Az.mk fin
 have bb:decide (P>Q)=false:=decide_eq_false b
 have bb':decide (Q<P)=false:=decide_eq_false b
 replace b1:=ets b1
 replace b2:=ets b2
 clear key fin h b HJ HB
 go_enter Try.func63,Try.ntmps63
 go_wp2_with (first
  |(go_at_call 64;refine(K1 _ (by repeat(first|exact Drawn0.refl _|apply Drawn0.step))).mono ?_;rintro e w' ⟨rfl,⟨nd1,rfl⟩⟩;clear K1)
  |(go_at_call 64;refine(K2 _ (by repeat(first|exact Drawn0.refl _|apply Drawn0.step))).mono ?_;rintro e w' ⟨rfl,⟨nd2,rfl⟩⟩;clear K2))
 first|go_end0|((try simp only[Exit.inBlock,Exit.then]);refine bodyPost_ret (results_none rfl _ _ _) rfl ?_)
 exact⟨rfl,(FIN.out _ ⟨_,rfl⟩).1,(FIN.out _ ⟨_,rfl⟩).2⟩
def jF.l0:Nat→Int→List Int→Int→Option (List Int)
 |0,_,_,_=>none
 |k+1,n,xs,i=>if i<n then(if xs.length<17592186044415 then jF.l0 k n (xs ++ [i]) (wrap64 (i+1))else none)else some xs
structure Jh (w:World) (base p:Nat) (A:Option Addr) (c:Nat) (xs:List Int):Prop where
 lo:base≤p
 blk:w.heap[p]?= some (.cells #[.slice A xs.length c] 83 (0,0))
 row:Kd.R (Kd.int .i64) 3 w base (fun k=>k≠p) (.slice A xs.length c) xs
theorem jnblk_cell {w:World}{p t:Nat}{v:Value} (h:w.heap[p]?= some (.cells #[v] t (0,0))):w.cell? ⟨p,0,none⟩=some v∧w.frozen? ⟨p,0,none⟩=false:=by
 unfold World.cell? World.frozen?
 rw[h]
 exact⟨rfl,rfl⟩
theorem jnblk_set {w:World}{p t:Nat}{v:Value} (u:Value) (h:w.heap[p]?= some (.cells #[v] t (0,0))):(w.setCell ⟨p,0,none⟩ u).heap[p]?= some (.cells #[u] t (0,0)):=by
 unfold World.setCell
 show(w.heap.modify p _)[p]?= _
 rw[Array.getElem?_modify,ip rfl,h]
 rfl
theorem Jh.J {w:World}{base p:Nat}{A:Option Addr}{c:Nat}{xs:List Int} (h:Jh w base p A c xs):Jn w base p A c xs:=⟨h.lo,(jnblk_cell h.blk).1,h.row⟩
theorem jF.calls (k:Nat) (n:Int) (xs:List Int) (w0 w:World) (hB:Below w0.heap.size w0 w) (h:jF.l0 k n [] 0=some xs):
  Calls Try.prog 61 #[.int .i64 n] w fun e w'=>∃(p:Nat) (A:Option Addr) (c:Nat),e= .returned (.pointer (some ⟨p,0,none⟩))∧Jn w' w0.heap.size p A c xs∧Below w0.heap.size w0 w'∧w.heap.size≤p:=by
 have HB:=Az.mk hB
 clear hB
 have H':=Az.mk h
 clear h
 go_enter Try.func61,Try.ntmps61
 go_wp2
 go_loopg [8] k (fun kq v8 w'=>∃(ys:List Int) (i_1:Int) (A:Option Addr) (c:Nat),v8= .int .i64 i_1∧Az (jF.l0 kq n ys i_1=some xs)∧Az (kq≤k)∧Az (Jh w' w0.heap.size w.heap.size A c ys)∧Az (Below w0.heap.size w0 w')∧Az (w.heap.size<w'.heap.size))
 case atStart=>
  refine⟨[],0,none,0,rfl,H',⟨Nat.le_refl _⟩,⟨⟨?_,?_,Kd.R_nil _ _ _ _ _⟩⟩,⟨?_⟩,⟨?_⟩⟩
  ·exact HB.out.size
  ·exact Array.getElem?_push_size
  ·exact HB.out.alloc HB.out.size _
  exact Nat.lt_of_lt_of_eq (Nat.lt_succ_self _) (Array.size_push _).symm
 clear H' HB
 obtain⟨ys,i_1,A,c,rfl,HA,HK1,HJ,HB,HL⟩:=hrel
 cases gk with
 |zero=>exact absurd HA.out (by simp[jF.l0])
 |succ k1=>
  have H:=HA.out
  clear HA
  simp only[jF.l0]at H
  have hx:=(jnblk_cell HJ.out.blk).1
  have hf:=(jnblk_cell HJ.out.blk).2
  by_cases b1:i_1<n
  rotate_left
  ·rw[ig b1]at H
   have b1b:decide (i_1<n)=false:=decide_eq_false b1
   clear b1
   obtain rfl:=Option.some.inj H
   go_wp2
   go_ret
   exact⟨_,rfl,⟨A,c,HJ.out.J⟩,HB.out,Nat.le_refl _⟩
  rw[ip b1]at H
  by_cases b2:ys.length<17592186044415
  rotate_left
  ·rw[ig b2]at H
   exact absurd H (by simp)
  rw[ip b2]at H
  have H':=Az.mk H
  have LM:=Az.mk b2
  have b1b:=ode b1
  clear H b1 b2
  go_wp2_with (first|((with_reducible refine gate_builtin (b:= .append) (xs:= #[.tmp 15, .tmp 17]) rfl ?_);at_builtin;refine Kd.R_append (Kd.int .i64) (w0:=w0) w0.heap.size rfl (.tmp 15) (.tmp 17) 25 3 (.int .i64 0) 8 rfl Try.underlying25 info3 rfl (by decide) (by omega) (.slice A ys.length c) ys i_1 [.int .i64 i_1] (fun k=>k≠w.heap.size) (fun _=>False) rfl rfl ?aP (fun _ hk=>hk.elim) ?aF ?aO ?aB ?aS ?aL ?_;(case aP=>exact rfl);(case aB=>exact(by repeat(first|(with_reducible first|exact HB.out|apply pbN)|exact HB.out)));(case aF=>exact(fun k_ hk_ e_=>by subst e_;exact absurd (Nat.lt_of_lt_of_le HL.out hk_) (Nat.lt_irrefl _)));(case aO=>exact(by(with_reducible repeat(first|apply Kd.R_alloc|apply Kd.R_drewN|apply Kd.R_drew));exact HJ.out.row));(case aS=>exact HB.out.size);(case aL=>have:=LM.out;omega);intro v1 w6 ho hb hg hat;obtain⟨A2,c2,e2⟩:=Kd.R_slice ho;subst e2;have hk2:=(hg.block w.heap.size HL.out (fun e_=>HJ.out.row.1 w.heap.size e_.symm rfl)).trans HJ.out.blk;have Ad:=Az.mk ho;have HB2:=Az.mk hb;have Ae:=Az.mk (blk_lt hk2);have HK:=Az.mk hk2;have Af:=(jnblk_cell hk2).1;have Ag:=(jnblk_cell hk2).2;clear ho hb hg hat hk2 hx hf))
  go_roundg k1
  case measure=>have:=HK1.out;omega
  case rel=>
   refine⟨ys ++ [i_1],_,A2,c2,rfl,H',⟨by have:=HK1.out;omega⟩,⟨⟨HJ.out.lo,?_,?_⟩⟩,⟨?_⟩,⟨?_⟩⟩
   ·rw[List.length_append]
    exact jnblk_set _ HK.out
   ·exact Kd.R_far (p:=⟨w.heap.size,0,none⟩) Ad.out (fun k_ hk_=>hk_) _
   ·exact bwS HB2.out HJ.out.lo
   exact Nat.lt_of_lt_of_eq Ae.out (Array.size_modify ..).symm
def gY.l0:Nat→Int→List Int→Int→Int→Option (Int)
 |0,_,_,_,_=>none
 |k+1,x1,x7,x8,x9=>if x9<x8 then(if 0≤x9 then(if x9<(x7.length:Int) then(if(rd x7 x9)=x1 then(some x9) else(gY.l0 k x1 x7 x8 (wrap64 (x9+1)))) else(none)) else(none)) else(some (-1))
def gY.f (k:Nat) (l0:List Int) (a1:Int):Option (Int):=gY.l0 k a1 l0 (l0.length:Int) 0
theorem gY.calls (k:Nat) (A0:Option Addr) (c0:Nat) (l0:List Int) (a1:Int) (r:Int) (w:World) (Am:Kd.C (Kd.int .i64) w A0 l0.length l0) (Ao:l0.length≤c0) (h:gY.f k l0 a1=some r):
  Calls Try.prog 83 #[.slice A0 l0.length c0, .int .i64 a1] w fun e w'=>e= .returned (.int .i64 r)∧Drawn0 w w':=by
 have Ap:=Az.mk Am
 have Au:=Az.mk Ao
 clear Am Ao
 have H:(gY.l0 k a1 l0 (l0.length:Int) 0)=some r:=h
 clear h
 have H':=Az.mk H
 clear H
 go_enter Try.func83,Try.ntmps83
 go_wp2
 go_loopg [9] k (fun kq v9 w'=>∃(Ad:Int),v9= .int .i64 Ad∧Az (gY.l0 kq a1 l0 (l0.length:Int) Ad=some r)∧Az (kq≤k)∧Drawn0 w w')
 case atStart=>exact⟨(0),rq2,H',⟨Nat.le_refl _⟩,kd⟩
 clear H'
 obtain⟨Ad,rfl,HA,HK1,⟨m1,rfl⟩⟩:=hrel
 cases gk with
 |zero=>exact absurd HA.out (by simp[gY.l0])
 |succ k1=>
  have H:=HA.out
  clear HA
  simp only[gY.l0]at H
  by_cases c3:Ad<(l0.length:Int)
  rotate_left
  ·rw[ig c3]at H
   have Aj:=decide_eq_false c3
   clear c3
   obtain rfl:=Option.some.inj H
   go_wp2
   go_ret
   exact⟨rq2,kd⟩
  rw[ip c3]at H
  have Aj:=ode c3
  clear c3
  by_cases c4:0≤Ad
  rotate_left
  ·rw[ig c4]at H
   exact absurd H (by simp)
  rw[ip c4]at H
  have Aq:=ode c4
  clear c4
  by_cases c5:Ad<(l0.length:Int)
  rotate_left
  ·rw[ig c5]at H
   exact absurd H (by simp)
  rw[ip c5]at H
  have As:=ode c5
  clear c5
  by_cases c6:(rd l0 Ad)=a1
  ·rw[ip c6]at H
   have Ak:=beq_iff_eq.mpr c6
   have Al:=bne_eq_false_iff_eq.mpr c6
   clear c6
   obtain rfl:=Option.some.inj H
   have Ae:0≤(Ad:Int):=od
   have Af:Ad<(l0.length:Int):=od
   obtain⟨Ai,Ah,Ag⟩:=Kd.at_int Ap.out Ad Ae Af
   cases Ah
   replace Ae:=ets Ae
   replace Af:=ets Af
   go_wp2
   go_ret
   exact⟨rq2,kd⟩
  rw[ig c6]at H
  have Ak:=beq_eq_false_iff_ne.mpr c6
  have Al:=bne_iff_ne.mpr c6
  have H':=Az.mk H
  clear H
  have Ae:0≤(Ad:Int):=od
  have Af:Ad<(l0.length:Int):=od
  obtain⟨Ai,Ah,Ag⟩:=Kd.at_int Ap.out Ad Ae Af
  cases Ah
  replace Ae:=ets Ae
  replace Af:=ets Af
  go_wp2
  go_roundg k1
  case measure=>have:=HK1.out;omega
  case rel=>exact⟨(wrap64 (Ad+1)),rq2,H',⟨by have:=HK1.out;omega⟩,kd⟩
def jC.l0:Nat→Int→List (List Int)→Int→Int→Option (Int × Int)
 |0,_,_,_,_=>none
 |k+1,x1,x9,x10,x11=>if x11<x10 then(if 0≤x11 then(if x11<(x9.length:Int) then((gY.f k (rd_L1 x9 x11) x1).bind fun t495=>(if t495 ≥ 0 then(some (x11,t495)) else(jC.l0 k x1 x9 x10 (wrap64 (x11+1))))) else(none)) else(none)) else(some ((-1),(-1)))
def jC.f (k:Nat) (l0:List (List Int)) (a1:Int):Option (Int × Int):=jC.l0 k a1 l0 (l0.length:Int) 0
theorem jC.calls (k:Nat) (A0:Option Addr) (c0:Nat) (l0:List (List Int)) (a1:Int) (r1:Int) (r2:Int) (w:World) (Ay:Kd.C (Kd.slice 3 (Kd.int .i64)) w A0 l0.length l0) (Ba:l0.length≤c0) (h:jC.f k l0 a1=some (r1,r2)):
  Calls Try.prog 62 #[.slice A0 l0.length c0, .int .i64 a1] w fun e w'=>e= .returned (.tuple #[.int .i64 r1, .int .i64 r2])∧Drawn0 w w':=by
 have Bb:=Az.mk Ay
 have Bh:=Az.mk Ba
 clear Ay Ba
 have H:(jC.l0 k a1 l0 (l0.length:Int) 0)=some (r1,r2):=h
 clear h
 have H':=Az.mk H
 clear H
 go_enter Try.func62,Try.ntmps62
 go_wp2
 go_loopg [11] k (fun kq Bc w'=>∃(Ad:Int),Bc= .int .i64 Ad∧Az (jC.l0 kq a1 l0 (l0.length:Int) Ad=some (r1,r2))∧Az (kq≤k)∧Drawn0 w w')
 case atStart=>exact⟨(0),rq2,H',⟨Nat.le_refl _⟩,kd⟩
 clear H'
 obtain⟨Ad,rfl,HA,HK1,⟨m1,rfl⟩⟩:=hrel
 cases gk with
 |zero=>exact absurd HA.out (by simp[jC.l0])
 |succ k1=>
  have H:=HA.out
  clear HA
  simp only[jC.l0]at H
  by_cases c3:Ad<(l0.length:Int)
  rotate_left
  ·rw[ig c3]at H
   have Av:=decide_eq_false c3
   clear c3
   simp only[Option.some.injEq,Prod.mk.injEq]at H
   obtain⟨rfl,rfl⟩:=H
   go_wp2
   go_ret2
   exact⟨rq2,kd⟩
  rw[ip c3]at H
  have Av:=ode c3
  clear c3
  by_cases c4:0≤Ad
  rotate_left
  ·rw[ig c4]at H
   exact absurd H (by simp)
  rw[ip c4]at H
  have Bd:=ode c4
  clear c4
  by_cases c5:Ad<(l0.length:Int)
  rotate_left
  ·rw[ig c5]at H
   exact absurd H (by simp)
  rw[ip c5]at H
  have Bf:=ode c5
  clear c5
  replace H:=bez H
  obtain⟨Am,A6,H⟩:=H
  try dsimp only at H
  by_cases c7:Am ≥ 0
  ·rw[ip c7]at H
   have Ax:decide (0≤Am)=true:=ode c7
   clear c7
   simp only[Option.some.injEq,Prod.mk.injEq]at H
   obtain⟨rfl,rfl⟩:=H
   have Ai:0≤(Ad:Int):=od
   have Aj:Ad<(l0.length:Int):=od
   obtain⟨Au,Ak,Al,As,Aq,Ae,Af⟩:=at_L1 Bb.out Ad Ai Aj
   cases As
   have Ag:=Az.mk Af
   have Ah:=Az.mk Ae
   clear Af Ae
   replace Ai:=ets Ai
   replace Aj:=ets Aj
   go_wp2_with (first|((with_reducible refine gtC (f:=83) rfl ?_);refine clz Try.func83 (some 18) #[.slice Ak (rd_L1 l0 Ad).length Al, .int .i64 a1] ?_;(with_reducible refine(gY.calls k1 _ _ (rd_L1 l0 Ad) a1 Am _ ?Ao ?Ap A6.out).mono ?_);(case Ao=>exact kC Ag.out);(case Ap=>exact Ah.out);rintro e w' ⟨rfl,⟨nd,rfl⟩⟩;refine⟨_,rfl,?_⟩))
   go_ret2
   exact⟨rq2,kd⟩
  rw[ig c7]at H
  have Ax:decide (0≤Am)=false:=decide_eq_false c7
  clear c7
  have H':=Az.mk H
  clear H
  have Ai:0≤(Ad:Int):=od
  have Aj:Ad<(l0.length:Int):=od
  obtain⟨Au,Ak,Al,As,Aq,Ae,Af⟩:=at_L1 Bb.out Ad Ai Aj
  cases As
  have Ag:=Az.mk Af
  have Ah:=Az.mk Ae
  clear Af Ae
  replace Ai:=ets Ai
  replace Aj:=ets Aj
  go_wp2_with (first|((with_reducible refine gtC (f:=83) rfl ?_);refine clz Try.func83 (some 18) #[.slice Ak (rd_L1 l0 Ad).length Al, .int .i64 a1] ?_;(with_reducible refine(gY.calls k1 _ _ (rd_L1 l0 Ad) a1 Am _ ?Ao ?Ap A6.out).mono ?_);(case Ao=>exact kC Ag.out);(case Ap=>exact Ah.out);rintro e w' ⟨rfl,⟨nd,rfl⟩⟩;refine⟨_,rfl,?_⟩))
  go_roundg k1
  case measure=>have:=HK1.out;omega
  case rel=>exact⟨(wrap64 (Ad+1)),rq2,H',⟨by have:=HK1.out;omega⟩,kd⟩
-- NOT PRINTED: function 64 (impl_joiner_top)
-- NOT PRINTED: function 63 (impl_joiner_join)
mutual
def fZ.l0:Nat→List (List Int)→List Int→Int→Option (List Int)
 |0,_,_,_=>none
 |k+1,t,xs,i=>if i<(t.length:Int) then(if 0≤i then(fZ.l1 k t xs i 0)else none) else(some xs)
def fZ.l1:Nat→List (List Int)→List Int→Int→Int→Option (List Int)
 |0,_,_,_,_=>none
 |k+1,t,xs,i,j=>if j<((rd_L1 t i).length:Int) then(if 0≤j then((jC.f k t (wrap64 (-(rd (rd_L1 t i) j)))).bind fun s=>((joiner_join.f k xs (wrap64 (wrap64 (3*i)+j)) (wrap64 (wrap64 (3*s.1)+Int.tmod (wrap64 (s.2+1)) 3))).bind fun ys=>((joiner_join.f k ys (wrap64 (wrap64 (3*i)+Int.tmod (wrap64 (j+1)) 3)) (wrap64 (wrap64 (3*s.1)+s.2))).bind fun zs=>(fZ.l1 k t zs i (wrap64 (j+1))))))else none) else(fZ.l0 k t xs (wrap64 (i+1)))
end
def fZ.f (k:Nat) (t:List (List Int)):Option (List Int):=(jF.l0 k (wrap64 (3*(t.length:Int))) [] 0).bind fun xs=>fZ.l0 k t xs 0
theorem fZ.calls (k:Nat) (A0:Option Addr) (c0:Nat) (l0:List (List Int)) (xs:List Int) (w:World) (Ah:Kd.C (Kd.slice 3 (Kd.int .i64)) w A0 l0.length l0) (Ai:l0.length≤c0) (h:fZ.f k l0=some xs):
  Calls Try.prog 29 #[.slice A0 l0.length c0] w fun e w'=>∃(p:Nat) (A:Option Addr) (c:Nat),e= .returned (.pointer (some ⟨p,0,none⟩))∧Jn w' w.heap.size p A c xs∧Below w.heap.size w w':=by
 have Ad:=Az.mk Ah
 have Am:=Az.mk Ai
 clear Ah Ai
 unfold fZ.f at h
 obtain⟨ns,T0,h⟩:=be.mp h
 have T0:=Az.mk T0
 have H':=Az.mk h
 clear h
 have HB:=Az.mk (Below.refl w.heap.size w)
 go_enter Try.func29,Try.ntmps29
 go_wp2_with (first
  |(go_at_call 61;refine(jF.calls k _ ns w _ (by first|exact pbN HB.out _|exact HB.out) T0.out).mono ?_;rintro e W1 ⟨p,AJ,cJ,rfl,hj,hb,_⟩;have Aj:=Az.mk hj;have HB1:=Az.mk hb;clear hj hb T0))
 go_loopg [16] k (fun kq Ao w'=>∃(xs_1:List Int) (i_1:Int),Ao= .int .i64 i_1∧Az (fZ.l0 kq l0 xs_1 i_1=some xs)∧Az (kq≤k)∧Az (Jn w' w.heap.size p AJ cJ xs_1)∧Az (Below w.heap.size w w'))
 case atStart=>exact⟨ns,0,rfl,H',⟨Nat.le_refl _⟩,Aj,HB1⟩
 clear H' HB Aj HB1
 obtain⟨xs_1,i_1,rfl,HA,HK1,HJ,HB⟩:=hrel
 cases gk with
 |zero=>exact absurd HA.out (by simp[fZ.l0])
 |succ k1=>
  have H:=HA.out
  clear HA
  simp only[fZ.l0]at H
  by_cases b2:i_1<(l0.length:Int)
  rotate_left
  ·rw[ig b2]at H
   have b2b:decide (i_1<(l0.length:Int))=false:=decide_eq_false b2
   clear b2
   obtain rfl:=Option.some.inj H
   go_wp2
   go_ret
   exact⟨_,rfl,⟨_,_,HJ.out⟩,HB.out⟩
  rw[ip b2]at H
  by_cases b1:0≤i_1
  rotate_left
  ·rw[ig b1]at H
   exact absurd H (by simp)
  rw[ip b1]at H
  obtain⟨ad,A1,c1,e1,Ae,Ak,Al⟩:=at_L1 Ad.out i_1 b1 b2
  subst e1
  replace Ae:=kc HB Ae
  have HR1:=Az.mk Al
  have As:=Az.mk Ak
  clear Al Ak
  have H':=Az.mk H
  clear H
  have b2b:=ode b2
  replace b1:=ets b1
  replace b2:=ets b2
  go_wp2
  go_loopg [23] k1 (fun kq Ap w'=>∃(xs_2:List Int) (j_1:Int),Ap= .int .i64 j_1∧Az (fZ.l1 kq l0 xs_2 i_1 j_1=some xs)∧Az (kq≤k1)∧Az (Jn w' w.heap.size p AJ cJ xs_2)∧Az (Below w.heap.size w w'))
  case atStart=>exact⟨xs_1,0,rfl,H',⟨Nat.le_refl _⟩,HJ,HB⟩
  clear H' HJ HB Ae
  obtain⟨xs_2,j_1,rfl,HA,HK2,HJ,HB⟩:=hrel
  cases gk with
  |zero=>exact absurd HA.out (by simp[fZ.l1])
  |succ k2=>
   have H:=HA.out
   clear HA
   simp only[fZ.l1]at H
   by_cases d2:j_1<((rd_L1 l0 i_1).length:Int)
   rotate_left
   ·rw[ig d2]at H
    have d2b:decide (j_1<((rd_L1 l0 i_1).length:Int))=false:=decide_eq_false d2
    clear d2
    have H':=Az.mk H
    clear H
    go_wp2
    go_roundg k2
    case measure=>have:=HK1.out;have:=HK2.out;omega
    case rel=>exact⟨xs_2,_,rfl,H',⟨by have:=HK1.out;have:=HK2.out;omega⟩,HJ,HB⟩
   rw[ip d2]at H
   by_cases d1:0≤j_1
   rotate_left
   ·rw[ig d1]at H
    exact absurd H (by simp)
   rw[ip d1]at H
   obtain⟨⟨s1,s2⟩,T1,H⟩:=be.mp H
   obtain⟨ys,T2,H⟩:=be.mp H
   obtain⟨zs,T3,H⟩:=be.mp H
   obtain⟨Au,e2,Af⟩:=Kd.at_int HR1.out j_1 d1 d2
   subst e2
   replace Af:=kc HB Af
   obtain⟨X,hX⟩:∃j_:Int,rd (rd_L1 l0 i_1) j_1=j_:=⟨_,rfl⟩
   rw[hX]at T1 Af
   clear hX
   have T1:=Az.mk T1
   have T2:=Az.mk T2
   have T3:=Az.mk T3
   have H':=Az.mk H
   clear H
   have d2b:=ode d2
   replace d1:=ets d1
   replace d2:=ets d2
   go_wp2_with (first
    |(go_at_call 62;refine(jC.calls k2 _ c0 l0 _ s1 s2 _ (by first|exact Kd.C_drewN (Kd.C_below Ad.out HB.out) _|exact Kd.C_below Ad.out HB.out) Am.out T1.out).mono ?_;rintro e w' ⟨rfl,⟨nd1,rfl⟩⟩;clear T1)
    |(go_at_call 63;refine(joiner_join.calls k2 p AJ cJ xs_2 ys _ _ w _ (by first|exact pbN HB.out _|exact HB.out) (by first|exact HJ.out.drewN _|exact HJ.out) T2.out).mono ?_;rintro e W2 ⟨rfl,hj,hb⟩;clear T2 HB HJ;have Ag:=Az.mk hj;have HB2:=Az.mk hb;clear hj hb)
    |(go_at_call 63;refine(joiner_join.calls k2 p AJ cJ ys zs _ _ w _ (by first|exact pbN HB2.out _|exact HB2.out) (by first|exact Ag.out.drewN _|exact Ag.out) T3.out).mono ?_;rintro e W3 ⟨rfl,hj,hb⟩;clear T3 HB2 Ag;have Aq:=Az.mk hj;have HB3:=Az.mk hb;clear hj hb))
   go_roundg k2
   case measure=>have:=HK1.out;have:=HK2.out;omega
   case rel=>exact⟨zs,_,rfl,H',⟨by have:=HK2.out;omega⟩,Aq,HB3⟩
theorem size_still (a0:Int) (r:Int) (w:World) (h:gM.f a0=some r):
  Calls Try.prog 60 #[.int .i64 a0] w fun e w'=>e= .returned (.int .i64 r)∧w'=w:=by
 have H:(some (mx a0 (wrap64 (-a0))))=some r:=h
 clear h
 obtain⟨Ae,Ad⟩:∃j_:Int,(mx a0 (wrap64 (-a0)))=j_:=⟨_,rfl⟩
 replace H:(some Ae)=some r:=by first|(rw[Ad]at H;exact H)|(simp only[Ad]at H ⊢;exact H)
 have hji2_:(if a0<(wrap64 (-a0)) then(wrap64 (-a0))else a0)=Ae:=Ad
 obtain rfl:=Option.some.inj H
 go_enter Try.func60,Try.ntmps60
 go_wp2
 go_ret
 exact⟨by first|rfl|(simp[eWn,eWs] <;> rfl)|(simp only[←Ad];first|rfl|(simp[eWn,eWs] <;> rfl))|(simp[*,eWn,eWs] <;> rfl),rfl⟩
/-- The coordinate at a side of a triangle: the closure's own contract. -/
def arcsAt.f (l0:List (List Int)) (l1:List Int) (a2 i:Int):Option Int:=
 if 0≤a2 then(if a2<(l0.length:Int) then(if 0≤Int.tmod i 3 then(if Int.tmod i 3<((rd_L1 l0 a2).length:Int) then((gM.f (rd (rd_L1 l0 a2) (Int.tmod i 3))).bind fun s=>if 0≤wrap64 (s - 1) then(if wrap64 (s - 1)<(l1.length:Int)then some (rd l1 (wrap64 (s - 1)))else none)else none)else none)else none)else none)else none
theorem arcsAt.calls (i:Int) (p1 p2 p3:Addr) (A0:Option Addr) (c0:Nat) (l0:List (List Int)) (A1:Option Addr) (c1:Nat) (l1:List Int) (a2:Int) (r:Int) (w:World)
  (h1:w.cell? p1=some (.slice A1 l1.length c1)) (h2:w.cell? p2=some (.slice A0 l0.length c0)) (h3:w.cell? p3=some (.int .i64 a2))
  (Ad:Kd.C (Kd.slice 3 (Kd.int .i64)) w A0 l0.length l0) (Ae:Kd.C (Kd.int .i64) w A1 l1.length l1) (h:arcsAt.f l0 l1 a2 i=some r):
  Calls Try.prog 84 #[.int .i64 i, .pointer (some p1), .pointer (some p2), .pointer (some p3)] w fun e w'=>e= .returned (.int .i64 r)∧Drawn0 w w':=by
 have Ag:=Az.mk Ad
 have HR1:=Az.mk Ae
 clear Ad Ae
 unfold arcsAt.f at h
 by_cases b1:0≤a2
 rotate_left
 ·rw[ig b1]at h;exact absurd h (by simp)
 rw[ip b1]at h
 by_cases b2:a2<(l0.length:Int)
 rotate_left
 ·rw[ig b2]at h;exact absurd h (by simp)
 rw[ip b2]at h
 by_cases b3:0≤Int.tmod i 3
 rotate_left
 ·rw[ig b3]at h;exact absurd h (by simp)
 rw[ip b3]at h
 by_cases b4:Int.tmod i 3<((rd_L1 l0 a2).length:Int)
 rotate_left
 ·rw[ig b4]at h;exact absurd h (by simp)
 rw[ip b4]at h
 obtain⟨s,hs,h⟩:=be.mp h
 by_cases b5:0≤wrap64 (s - 1)
 rotate_left
 ·rw[ig b5]at h;exact absurd h (by simp)
 rw[ip b5]at h
 by_cases b6:wrap64 (s - 1)<(l1.length:Int)
 rotate_left
 ·rw[ig b6]at h;exact absurd h (by simp)
 rw[ip b6]at h
 obtain rfl:=Option.some.inj h
 obtain⟨Aj,A2,c2,rfl,Ak,_,Ah⟩:=at_L1 Ag.out a2 b1 b2
 obtain⟨Al,rfl,Af⟩:=Kd.at_int Ah (Int.tmod i 3) b3 b4
 obtain⟨Am,rfl,Ai⟩:=Kd.at_int HR1.out (wrap64 (s - 1)) b5 b6
 have HS:=Az.mk hs
 clear hs
 obtain⟨X,hX⟩:∃j_:Int,rd (rd_L1 l0 a2) (Int.tmod i 3)=j_:=⟨_,rfl⟩
 obtain⟨Y,hY⟩:∃j_:Int,Int.tmod i 3=j_:=⟨_,rfl⟩
 obtain⟨Z,hZ⟩:∃j_:Int,wrap64 (s - 1)=j_:=⟨_,rfl⟩
 have hZw:(IntKind.i64.wrap (s - 1))=Z:=(i64_w _).trans hZ
 rw[hX]at Af
 rw[hY]at b3 b4 Af
 rw[hZ]at b5 b6 Ai
 have SS:Az (gM.f X=some s):=⟨by rw[←hX];exact HS.out⟩
 clear HS hX
 replace b1:=ets b1
 replace b2:=ets b2
 replace b3:=ets b3
 replace b4:=ets b4
 replace b5:=ets b5
 replace b6:=ets b6
 go_enter Try.func84,Try.ntmps84
 go_wp2
 go_quiet ((go_at_call 60;refine Calls.quiet_of_same (size_still X s _ SS.out)))
 go_wp2
 go_ret
 exact⟨by rw[hZ];rfl,⟨⟨_,rfl⟩⟩⟩
theorem arcs_drewN (w:World) (n:Nat) (a:Addr):(w.drewN n).cell? a=w.cell? a:=by simp
theorem arcs_new (w:World) (v:Value) (t:TypeId):(w.alloc (.cells #[v] t)).cell? ⟨w.heap.size,0,none⟩=some v:=by
 have h:=cell_one_new w v t 0 v rfl
 exact h
theorem arcs_old {w:World}{a:Addr}{v:Value} (h:w.cell? a=some v) (o:Obj):(w.alloc o).cell? a=some v:=
 ((Below.alloc (Below.refl w.heap.size w) (Nat.le_refl _) o).cell (World.block_lt_of_cell? w _ h)).trans h
def jZ.f (l0:List (List Int)) (l1:List Int) (a2 a3:Int):Option Int:=
 (arcsAt.f l0 l1 a2 a3).bind fun t1=>((arcsAt.f l0 l1 a2 (wrap64 (a3+1))).bind fun t2=>((arcsAt.f l0 l1 a2 (wrap64 (a3+2))).bind fun t3=>(some (wrap64 (Int.tdiv (wrap64 ((wrap64 (t1+t2)) - t3)) 2)))))
theorem jZ.calls (A0:Option Addr) (c0:Nat) (l0:List (List Int)) (A1:Option Addr) (c1:Nat) (l1:List Int) (a2:Int) (a3:Int) (r:Int) (w:World) (Ad:Kd.C (Kd.slice 3 (Kd.int .i64)) w A0 l0.length l0) (Ag:l0.length≤c0) (Ae:Kd.C (Kd.int .i64) w A1 l1.length l1) (Ah:l1.length≤c1) (h:jZ.f l0 l1 a2 a3=some r):
  Calls Try.prog 65 #[.slice A0 l0.length c0, .slice A1 l1.length c1, .int .i64 a2, .int .i64 a3] w fun e w'=>e= .returned (.int .i64 r)∧Below w.heap.size w w':=by
 have HB:=Az.mk (Below.refl w.heap.size w)
 have Af:=Az.mk Ad
 have HR1:=Az.mk Ae
 clear Ad Ae
 unfold jZ.f at h
 obtain⟨t1,T1,h⟩:=be.mp h
 obtain⟨t2,T2,h⟩:=be.mp h
 obtain⟨t3,T3,h⟩:=be.mp h
 obtain rfl:=Option.some.inj h
 obtain⟨WW,hWW⟩:∃v,((w.alloc (.cells #[.slice A0 l0.length c0] 24)).alloc (.cells #[.slice A1 l1.length c1] 25)).alloc (.cells #[.int .i64 a2] 3)=v:=⟨_,rfl⟩
 obtain⟨W1,e1⟩:∃v,w.alloc (.cells #[.slice A0 l0.length c0] 24)=v:=⟨_,rfl⟩
 obtain⟨W2,e2⟩:∃v,W1.alloc (.cells #[.slice A1 l1.length c1] 25)=v:=⟨_,rfl⟩
 have e3:W2.alloc (.cells #[.int .i64 a2] 3)=WW:=by rw[←e2, ←e1];exact hWW
 have s1:W1.heap.size=w.heap.size+1:=by rw[←e1];exact Array.size_push _
 have s2:W2.heap.size=w.heap.size+1+1:=by rw[←e2, ←s1];exact Array.size_push _
 have g2:WW.cell? ⟨w.heap.size,0,none⟩=some (.slice A0 l0.length c0):=by
  rw[←e3];refine arcs_old ?_ _
  rw[←e2];refine arcs_old ?_ _
  rw[←e1];exact arcs_new _ _ _
 have g1:WW.cell? ⟨w.heap.size+1,0,none⟩=some (.slice A1 l1.length c1):=by
  rw[←e3];refine arcs_old ?_ _
  rw[←s1, ←e2];exact arcs_new _ _ _
 have g3:WW.cell? ⟨w.heap.size+1+1,0,none⟩=some (.int .i64 a2):=by
  rw[←e3, ←s2];exact arcs_new _ _ _
 clear e1 e2 e3 s1 s2
 have g4:Kd.C (Kd.slice 3 (Kd.int .i64)) WW A0 l0.length l0:=by
  rw[←hWW]
  exact Kd.C_alloc (Kd.C_alloc (Kd.C_alloc Af.out _) _) _
 have g5:Kd.C (Kd.int .i64) WW A1 l1.length l1:=by
  rw[←hWW]
  exact Kd.C_alloc (Kd.C_alloc (Kd.C_alloc HR1.out _) _) _
 have hb:Below w.heap.size w WW:=by
  rw[←hWW]
  repeat(first|(with_reducible first|exact HB.out|apply bwA))
 have KK:∀i t,arcsAt.f l0 l1 a2 i=some t→∀W',Drawn0 WW W'→Calls Try.prog 84 #[.int .i64 i, .pointer (some ⟨w.heap.size+1,0,none⟩), .pointer (some ⟨w.heap.size,0,none⟩), .pointer (some ⟨w.heap.size+1+1,0,none⟩)] W' fun e w'=>e= .returned (.int .i64 t)∧Drawn0 W' w':=by
  rintro i t ht W' ⟨n,rfl⟩
  exact arcsAt.calls i _ _ _ A0 c0 l0 A1 c1 l1 a2 t _ ((arcs_drewN _ _ _).trans g1) ((arcs_drewN _ _ _).trans g2) ((arcs_drewN _ _ _).trans g3) (Kd.C_drewN g4 _) (Kd.C_drewN g5 _) ht
 have K1:=KK _ _ T1
 have K2:=KK _ _ T2
 have K3:=KK _ _ T3
 clear KK g1 g2 g3 g4 g5
 go_enter Try.func65,Try.ntmps65
 go_upto_region 2 with (fail)
 go_wp2_with (first
  |(go_at_call 84;refine(K1 _ (by repeat(first|exact Drawn0.refl _|apply Drawn0.step))).mono ?_;rintro e w' ⟨rfl,⟨nd1,rfl⟩⟩;clear K1)
  |(go_at_call 84;refine(K2 _ (by repeat(first|exact Drawn0.refl _|apply Drawn0.step))).mono ?_;rintro e w' ⟨rfl,⟨nd2,rfl⟩⟩;clear K2)
  |(go_at_call 84;refine(K3 _ (by repeat(first|exact Drawn0.refl _|apply Drawn0.step))).mono ?_;rintro e w' ⟨rfl,⟨nd3,rfl⟩⟩;clear K3))
 go_ret
 exact⟨rfl,pbN hb _⟩
theorem z25_1 {p:Prop} (h:p:=by first|exact(HJ.out.drewN _).C|exact HJ.out.C):p:=h
theorem z25_0 {p:Prop} (h:p:=by first|exact(HJ.out.drewN _).cell|exact HJ.out.cell):p:=h
mutual
def fY.l0:Nat→List (List Int)→List Int→List Int→Int→Int→Option Bool
 |0,_,_,_,_,_=>none
 |k+1,t,x,up,corner,i=>if i<(t.length:Int) then(fY.l1 k t x up corner i 0) else(some true)
def fY.l1:Nat→List (List Int)→List Int→List Int→Int→Int→Int→Option Bool
 |0,_,_,_,_,_,_=>none
 |k+1,t,x,up,corner,i,j=>if j<3 then((joiner_top.l0 k up (wrap64 (wrap64 (3*i)+Int.tmod (wrap64 (j+1)) 3))).bind fun a=>((joiner_top.l0 k up corner).bind fun b=>(if a=b then((jZ.f t x i j).bind fun n=>(if n<1 then some false else(fY.l1 k t x up corner i (wrap64 (j+1))))) else(fY.l1 k t x up corner i (wrap64 (j+1)))))) else(fY.l0 k t x up corner (wrap64 (i+1)))
end
theorem fY.calls (k:Nat) (A0:Option Addr) (c0:Nat) (l0:List (List Int)) (A1:Option Addr) (c1:Nat) (l1:List Int) (base p:Nat) (AJ:Option Addr) (cJ:Nat) (up:List Int) (a3:Int) (r:Bool) (w:World) (Ae:Kd.C (Kd.slice 3 (Kd.int .i64)) w A0 l0.length l0) (Af:l0.length≤c0) (Ag:Kd.C (Kd.int .i64) w A1 l1.length l1) (Ah:l1.length≤c1) (hJ:Jn w base p AJ cJ up) (h:fY.l0 k l0 l1 up a3 0=some r):
  Calls Try.prog 31 #[.slice A0 l0.length c0, .slice A1 l1.length c1, .pointer (some ⟨p,0,none⟩), .int .i64 a3] w fun e w'=>e= .returned (.bool r)∧Below w.heap.size w w':=by
 have Ad:=Az.mk Ae
 have Ai:=Az.mk Af
 have HR1:=Az.mk Ag
 have Aj:=Az.mk Ah
 have Ak:=Az.mk hJ
 have H':=Az.mk h
 clear Ae Af Ag Ah hJ h
 go_enter Try.func31,Try.ntmps31
 go_wp2
 go_loopg [13] k (fun kq Al w'=>∃(i_1:Int),Al= .int .i64 i_1∧Az (fY.l0 kq l0 l1 up a3 i_1=some r)∧Az (kq≤k)∧Az (Below w.heap.size w w'))
 case atStart=>exact⟨0,rfl,H',⟨Nat.le_refl _⟩,⟨by first|exact Below.refl _ _|exact pbN (Below.refl _ _) _⟩⟩
 clear H'
 obtain⟨i_1,rfl,HA,HK1,HB⟩:=hrel
 cases gk with
 |zero=>exact absurd HA.out (by simp[fY.l0])
 |succ k1=>
  have H:=HA.out
  clear HA
  simp only[fY.l0]at H
  by_cases b2:i_1<(l0.length:Int)
  rotate_left
  ·rw[ig b2]at H
   have b2b:decide (i_1<(l0.length:Int))=false:=decide_eq_false b2
   clear b2
   obtain rfl:=Option.some.inj H
   go_wp2
   go_ret
   exact⟨rfl,HB.out⟩
  rw[ip b2]at H
  have b2b:=ode b2
  clear b2
  have H':=Az.mk H
  clear H
  go_wp2
  go_loopg [16] k1 (fun kq Am w'=>∃(j_1:Int),Am= .int .i64 j_1∧Az (fY.l1 kq l0 l1 up a3 i_1 j_1=some r)∧Az (kq≤k1)∧Az (Below w.heap.size w w'))
  case atStart=>exact⟨0,rfl,H',⟨Nat.le_refl _⟩,HB⟩
  clear H' HB
  obtain⟨j_1,rfl,HA,HK2,HB⟩:=hrel
  cases gk with
  |zero=>exact absurd HA.out (by simp[fY.l1])
  |succ k2=>
   have H:=HA.out
   clear HA
   simp only[fY.l1]at H
   by_cases d2:j_1<3
   rotate_left
   ·rw[ig d2]at H
    have d2b:decide (j_1<3)=false:=decide_eq_false d2
    clear d2
    have H':=Az.mk H
    clear H
    go_wp2
    go_roundg k2
    case measure=>have:=HK1.out;have:=HK2.out;omega
    case rel=>exact⟨_,rfl,H',⟨by have:=HK1.out;have:=HK2.out;omega⟩,HB⟩
   rw[ip d2]at H
   have d2b:=ode d2
   clear d2
   replace H:=be.mp H
   obtain⟨ta,T1,H⟩:=H
   replace H:=be.mp H
   obtain⟨tb,T2,H⟩:=H
   have T1:=Az.mk T1
   have T2:=Az.mk T2
   have HJ:=Az.mk (Ak.out.below HB.out)
   by_cases e1:ta=tb
   rotate_left
   ·rw[ig e1]at H
    have e1b:(ta== tb)=false:=beq_eq_false_iff_ne.mpr e1
    clear e1
    have H':=Az.mk H
    clear H
    go_wp2_with (first
      |(go_at_call 64;refine(joiner_top.calls k2 ⟨p,0,none⟩ AJ cJ up _ _ _ z25_0 z25_1 T1.out).mono ?_;rintro e w' ⟨rfl,⟨nd1,rfl⟩⟩;clear T1)
      |(go_at_call 64;refine(joiner_top.calls k2 ⟨p,0,none⟩ AJ cJ up _ _ _ z25_0 z25_1 T2.out).mono ?_;rintro e w' ⟨rfl,⟨nd2,rfl⟩⟩;clear T2))
    go_roundg k2
    case measure=>have:=HK1.out;have:=HK2.out;omega
    case rel=>exact⟨_,rfl,H',⟨by have:=HK2.out;omega⟩,⟨by first|exact HB.out|exact pbN HB.out _⟩⟩
   rw[ip e1]at H
   have e1b:(ta== tb)=true:=beq_iff_eq.mpr e1
   clear e1
   replace H:=be.mp H
   obtain⟨n,T3,H⟩:=H
   have T3:=Az.mk T3
   by_cases e2:n<1
   ·rw[ip e2]at H
    have e2b:=ode e2
    clear e2
    obtain rfl:=Option.some.inj H
    go_wp2_with (first
     |(go_at_call 64;refine(joiner_top.calls k2 ⟨p,0,none⟩ AJ cJ up _ _ _ z25_0 z25_1 T1.out).mono ?_;rintro e w' ⟨rfl,⟨nd1,rfl⟩⟩;clear T1)
     |(go_at_call 64;refine(joiner_top.calls k2 ⟨p,0,none⟩ AJ cJ up _ _ _ z25_0 z25_1 T2.out).mono ?_;rintro e w' ⟨rfl,⟨nd2,rfl⟩⟩;clear T2)
     |(go_at_call 65;refine(jZ.calls A0 c0 l0 A1 c1 l1 _ _ n _ (by first|exact Kd.C_drewN (Kd.C_below Ad.out HB.out) _|exact Kd.C_below Ad.out HB.out) Ai.out (by first|exact Kd.C_drewN (Kd.C_below HR1.out HB.out) _|exact Kd.C_below HR1.out HB.out) Aj.out T3.out).mono ?_;rintro e W3 ⟨rfl,hb⟩;have HB3:=Az.mk (bwT (by first|exact pbN HB.out _|exact HB.out) hb);clear hb T3 HB;have HB:=HB3;clear HB3))
    go_ret
    exact⟨rfl,by first|exact HB.out|exact pbN HB.out _⟩
   rw[ig e2]at H
   have e2b:decide (n<1)=false:=decide_eq_false e2
   clear e2
   have H':=Az.mk H
   clear H
   go_wp2_with (first
    |(go_at_call 64;refine(joiner_top.calls k2 ⟨p,0,none⟩ AJ cJ up _ _ _ z25_0 z25_1 T1.out).mono ?_;rintro e w' ⟨rfl,⟨nd1,rfl⟩⟩;clear T1)
    |(go_at_call 64;refine(joiner_top.calls k2 ⟨p,0,none⟩ AJ cJ up _ _ _ z25_0 z25_1 T2.out).mono ?_;rintro e w' ⟨rfl,⟨nd2,rfl⟩⟩;clear T2)
    |(go_at_call 65;refine(jZ.calls A0 c0 l0 A1 c1 l1 _ _ n _ (by first|exact Kd.C_drewN (Kd.C_below Ad.out HB.out) _|exact Kd.C_below Ad.out HB.out) Ai.out (by first|exact Kd.C_drewN (Kd.C_below HR1.out HB.out) _|exact Kd.C_below HR1.out HB.out) Aj.out T3.out).mono ?_;rintro e W3 ⟨rfl,hb⟩;have HB3:=Az.mk (bwT (by first|exact pbN HB.out _|exact HB.out) hb);clear hb T3 HB;have HB:=HB3;clear HB3))
   go_roundg k2
   case measure=>have:=HK1.out;have:=HK2.out;omega
   case rel=>exact⟨_,rfl,H',⟨by have:=HK2.out;omega⟩,⟨by first|exact HB.out|exact pbN HB.out _⟩⟩
theorem fY.callsn (k:Nat) (A0:Option Addr) (c0:Nat) (l0:List (List Int)) (A1:Option Addr) (c1:Nat) (l1:List Int) (n1:Nat) (hn:n1=l1.length) (base p:Nat) (AJ:Option Addr) (cJ:Nat) (up:List Int) (a3:Int) (r:Bool) (w:World) (Ad:Kd.C (Kd.slice 3 (Kd.int .i64)) w A0 l0.length l0) (Ae:l0.length≤c0) (Af:Kd.C (Kd.int .i64) w A1 l1.length l1) (Ag:l1.length≤c1) (hJ:Jn w base p AJ cJ up) (h:fY.l0 k l0 l1 up a3 0=some r):
  Calls Try.prog 31 #[.slice A0 l0.length c0, .slice A1 n1 c1, .pointer (some ⟨p,0,none⟩), .int .i64 a3] w fun e w'=>e= .returned (.bool r)∧Below w.heap.size w w':=by
 subst hn
 exact fY.calls k A0 c0 l0 A1 c1 l1 base p AJ cJ up a3 r w Ad Ae Af Ag hJ h
def inc1 (b:Prop) [Decidable b] (out:List Int) (e:Int):Option (List Int):=if b then(if 0≤e then(if e<(out.length:Int)then some (out.set e.toNat (wrap64 (rd out e+1)))else none)else none)else some out
mutual
def gF.l0:Nat→List (List Int)→List Int→Int→List Int→Int→Option (List Int)
 |0,_,_,_,_,_=>none
 |k+1,t,up,corner,out,i=>if i<(t.length:Int) then(if 0≤i then(gF.l1 k t up corner out i 0)else none) else(some out)
def gF.l1:Nat→List (List Int)→List Int→Int→List Int→Int→Int→Option (List Int)
 |0,_,_,_,_,_,_=>none
 |k+1,t,up,corner,out,i,j=>if j<((rd_L1 t i).length:Int) then(if 0≤j then(if rd (rd_L1 t i) j<0 then(gF.l1 k t up corner out i (wrap64 (j+1))) else((joiner_top.l0 k up (wrap64 (wrap64 (3*i)+j))).bind fun a=>((joiner_top.l0 k up corner).bind fun b=>((inc1 (a=b) out (wrap64 (rd (rd_L1 t i) j - 1))).bind fun o1=>((joiner_top.l0 k up (wrap64 (wrap64 (3*i)+Int.tmod (wrap64 (j+1)) 3))).bind fun c=>((joiner_top.l0 k up corner).bind fun d=>((inc1 (c=d) o1 (wrap64 (rd (rd_L1 t i) j - 1))).bind fun o2=>(gF.l1 k t up corner o2 i (wrap64 (j+1))))))))))else none) else(gF.l0 k t up corner out (wrap64 (i+1)))
end
def gF.f (k:Nat) (t:List (List Int)) (corner:Int):Option (List Int):=(fZ.f k t).bind fun up=>(if 0≤wrap64 (Int.tdiv (wrap64 (3*(t.length:Int))) 2) then(if wrap64 (Int.tdiv (wrap64 (3*(t.length:Int))) 2)≤1000000000000 then gF.l0 k t up corner (List.replicate (wrap64 (Int.tdiv (wrap64 (3*(t.length:Int))) 2)).toNat 0) 0 else none)else none)
/-- A place of a row of one's own: its cell, and what a store there leaves. -/
theorem row_some {w:World}{base:Nat}{ok:Nat→Prop}{A:Option Addr}{n c:Nat}{out:List Int} (HO:Kd.R (Kd.int .i64) 3 w base ok (.slice A n c) out){Z:Int} (h0:0≤Z) (h1:Z<(out.length:Int)):∃g:Nat,A=some ⟨g,0,none⟩:=by
 obtain⟨g,cap,eg,_⟩:=Kd.R_form HO (by omega)
 injection eg with ea en ec
 exact⟨g,ea⟩
theorem row_at {w:World}{base:Nat}{ok:Nat→Prop}{g n c:Nat}{out:List Int}{w0:World} (HO:Kd.R (Kd.int .i64) 3 w base ok (.slice (some ⟨g,0,none⟩) n c) out) (HB:Below base w0 w){Z:Int} (h0:0≤Z) (h1:Z<(out.length:Int)):
  w.cell? ⟨g,Z.toNat,none⟩=some (.int .i64 (rd out Z))∧w.frozen? ⟨g,Z.toNat,none⟩=false∧(Z<(n:Int))∧Az (∀W v,Drawn0 w W→Kd.R (Kd.int .i64) 3 (W.setCell ⟨g,Z.toNat,none⟩ (.int .i64 v)) base ok (.slice (some ⟨g,0,none⟩) n c) (out.set Z.toNat v)∧Below base w0 (W.setCell ⟨g,Z.toNat,none⟩ (.int .i64 v))):=by
 have hn:=(Kd.R_reads' HO).1
 obtain⟨g',cap,eg,hg1,_⟩:=Kd.R_form HO (by omega)
 injection eg with ea en ec
 injection ea with ea
 injection ea with ea
 subst ea
 obtain⟨hx,hf⟩:=Kd.R_celln 0 HO Z h0 (by omega)
 refine⟨hx,hf,by omega,⟨?_⟩⟩
 rintro W v ⟨m,rfl⟩
 exact⟨(Kd.R_putg (Kd.R_drewN HO m) Z v).1,(pbN HB m).setCell hg1 _⟩
theorem inc1_pos {b:Prop} [Decidable b]{out o:List Int}{e:Int} (hb:b) (h:inc1 b out e=some o):0≤e∧e<(out.length:Int)∧o=out.set e.toNat (wrap64 (rd out e+1)):=by
 unfold inc1 at h
 rw[ip hb]at h
 by_cases h0:0≤e
 ·rw[ip h0]at h
  by_cases h1:e<(out.length:Int)
  ·rw[ip h1]at h
   exact⟨h0,h1,(Option.some.inj h).symm⟩
  rw[ig h1]at h;exact absurd h (by simp)
 rw[ig h0]at h;exact absurd h (by simp)
theorem inc1_neg {b:Prop} [Decidable b]{out o:List Int}{e:Int} (hb:¬b) (h:inc1 b out e=some o):o=out:=by
 unfold inc1 at h
 rw[ig hb]at h
 exact(Option.some.inj h).symm
theorem gF.calls (k:Nat) (A0:Option Addr) (c0:Nat) (l0:List (List Int)) (a1:Int) (r:List Int) (w:World) (Ak:Kd.C (Kd.slice 3 (Kd.int .i64)) w A0 l0.length l0) (Al:l0.length≤c0) (h:gF.f k l0 a1=some r):
  Calls Try.prog 32 #[.slice A0 l0.length c0, .int .i64 a1] w fun e w'=>∃v0_:Value,e= .returned (v0_)∧Kd.R (Kd.int .i64) 3 w' w.heap.size (fun _=>True) v0_ r∧Below w.heap.size w w':=by
 have Ag:=Az.mk Ak
 have Aq:=Az.mk Al
 clear Ak Al
 unfold gF.f at h
 obtain⟨up,T0,h⟩:=be.mp h
 have T0:=Az.mk T0
 obtain⟨N,hN⟩:∃j_:Int,wrap64 (Int.tdiv (wrap64 (3*(l0.length:Int))) 2)=j_:=⟨_,rfl⟩
 have hNw:IntKind.i64.wrap (Int.tdiv (wrap64 (3*(l0.length:Int))) 2)=N:=(i64_w _).trans hN
 rw[hN]at h
 by_cases b1:0≤N
 rotate_left
 ·rw[ig b1]at h
  exact absurd h (by simp)
 rw[ip b1]at h
 by_cases b2:N≤1000000000000
 rotate_left
 ·rw[ig b2]at h
  exact absurd h (by simp)
 rw[ip b2]at h
 have H':=Az.mk h
 clear h
 have N0:=Az.mk b1
 have N1:=Az.mk b2
 clear b1 b2
 have HB0:=Az.mk (Below.refl w.heap.size w)
 go_enter Try.func32,Try.ntmps32
 go_wp2_with (first
  |(go_at_call 29;refine(fZ.calls k _ c0 l0 up _ (by first|exact Kd.C_drewN Ag.out _|exact Ag.out) Aq.out T0.out).mono ?_;rintro e W1 ⟨p,AJ,cJ,rfl,hj,hb⟩;have HB1:=Az.mk (bwT (by first|exact pbN HB0.out _|exact HB0.out) hb);have Aj:=Az.mk hj;have HR1:=Az.mk (Kd.C_below Ag.out HB1.out);clear hj hb T0 HB0 Ag)
  |((with_reducible refine gtD (N:=17) rfl ?_);refine Kd.R_make (Kd.int .i64) (w0:=W1) W1.heap.size 3 rfl (N:=17) rfl 25 _ _ rfl N ?hx ?hy Try.underlying25 (.int .i64 0) 8 info3 rfl (by decide) (by omega) 0 (ok:=fun _=>True) (okp:=fun _=>True) rfl (fun _ hk=>hk) trivial N0.out (by have:=N1.out;omega) (by first|exact pbN (Below.refl _ _) _|exact Below.refl _ _) (by first|exact Nat.le_refl _) ?_;(case hx=>first|rfl|(simp only[hNw];rfl));(case hy=>first|rfl|(simp only[hNw];rfl));intro v1 W2 ho hb hg_ hnew_;have HO:=Az.mk ho;have HB:=Az.mk hb;clear hg_ hnew_ ho hb;obtain⟨AO,cO,eO⟩:=Kd.R_slice HO.out;generalize (List.replicate N.toNat (0:Int)).length=nO at eO;subst eO))
 go_loopg [20] k (fun kq As w'=>∃(Ae:List Int) (i_1:Int),As= .int .i64 i_1∧Az (gF.l0 kq l0 up a1 Ae i_1=some r)∧Az (kq≤k)∧Az (Kd.R (Kd.int .i64) 3 w' W1.heap.size (fun _=>True) (.slice AO nO cO) Ae)∧Az (Below W1.heap.size W1 w'))
 case atStart=>exact⟨_,0,rfl,H',⟨Nat.le_refl _⟩,HO,HB⟩
 clear H' HO HB
 obtain⟨Ae,i_1,rfl,HA,HK1,HO,HB⟩:=hrel
 cases gk with
 |zero=>exact absurd HA.out (by simp[gF.l0])
 |succ k1=>
  have H:=HA.out
  clear HA
  simp only[gF.l0]at H
  by_cases b2:i_1<(l0.length:Int)
  rotate_left
  ·rw[ig b2]at H
   have b2b:decide (i_1<(l0.length:Int))=false:=decide_eq_false b2
   clear b2
   obtain rfl:=Option.some.inj H
   go_wp2
   go_ret
   exact⟨_,rfl,Kd.R_lower HO.out HB1.out.size,bwT HB1.out HB.out⟩
  rw[ip b2]at H
  by_cases b1:0≤i_1
  rotate_left
  ·rw[ig b1]at H
   exact absurd H (by simp)
  rw[ip b1]at H
  obtain⟨ad,A1,c1,e1,Ah,Am,Ao⟩:=at_L1 HR1.out i_1 b1 b2
  subst e1
  replace Ah:=(HB.out.cell (World.block_lt_of_cell? W1 _ Ah)).trans Ah
  have Au:=Az.mk Ao
  have Ba:=Az.mk Am
  clear Ao Am
  have H':=Az.mk H
  clear H
  have b2b:=ode b2
  replace b1:=ets b1
  replace b2:=ets b2
  go_wp2
  go_loopg [27] k1 (fun kq Av w'=>∃(Ad:List Int) (j_1:Int),Av= .int .i64 j_1∧Az (gF.l1 kq l0 up a1 Ad i_1 j_1=some r)∧Az (kq≤k1)∧Az (Kd.R (Kd.int .i64) 3 w' W1.heap.size (fun _=>True) (.slice AO nO cO) Ad)∧Az (Below W1.heap.size W1 w'))
  case atStart=>exact⟨Ae,0,rfl,H',⟨Nat.le_refl _⟩,HO,HB⟩
  clear H' HO HB Ah
  obtain⟨Ad,j_1,rfl,HA,HK2,HO,HB⟩:=hrel
  cases gk with
  |zero=>exact absurd HA.out (by simp[gF.l1])
  |succ k2=>
   have H:=HA.out
   clear HA
   simp only[gF.l1]at H
   by_cases d2:j_1<((rd_L1 l0 i_1).length:Int)
   rotate_left
   ·rw[ig d2]at H
    have d2b:decide (j_1<((rd_L1 l0 i_1).length:Int))=false:=decide_eq_false d2
    clear d2
    have H':=Az.mk H
    clear H
    go_wp2
    go_roundg k2
    case measure=>have:=HK1.out;have:=HK2.out;omega
    case rel=>exact⟨Ad,_,rfl,H',⟨by have:=HK1.out;have:=HK2.out;omega⟩,HO,HB⟩
   rw[ip d2]at H
   by_cases d1:0≤j_1
   rotate_left
   ·rw[ig d1]at H
    exact absurd H (by simp)
   rw[ip d1]at H
   obtain⟨Bb,e2,Ai⟩:=Kd.at_int Au.out j_1 d1 d2
   subst e2
   replace Ai:=(HB.out.cell (World.block_lt_of_cell? W1 _ Ai)).trans Ai
   obtain⟨X,hX⟩:∃j_:Int,rd (rd_L1 l0 i_1) j_1=j_:=⟨_,rfl⟩
   rw[hX]at H Ai
   clear hX
   have d2b:=ode d2
   replace d1:=ets d1
   replace d2:=ets d2
   by_cases x0:X<0
   ·rw[ip x0]at H
    have x0b:=ode x0
    clear x0
    have H':=Az.mk H
    clear H
    go_wp2
    go_roundg k2
    case measure=>have:=HK1.out;have:=HK2.out;omega
    case rel=>exact⟨Ad,_,rfl,H',⟨by have:=HK2.out;omega⟩,HO,HB⟩
   rw[ig x0]at H
   have x0b:decide (X<0)=false:=decide_eq_false x0
   clear x0
   obtain⟨Z,hZ⟩:∃j_:Int,wrap64 (X - 1)=j_:=⟨_,rfl⟩
   have hZw:IntKind.i64.wrap (X - 1)=Z:=(i64_w _).trans hZ
   rw[hZ]at H
   replace H:=be.mp H
   obtain⟨ta,T1,H⟩:=H
   replace H:=be.mp H
   obtain⟨tb,T2,H⟩:=H
   replace H:=be.mp H
   obtain⟨o1,T3,H⟩:=H
   replace H:=be.mp H
   obtain⟨tc,T4,H⟩:=H
   replace H:=be.mp H
   obtain⟨td,T5,H⟩:=H
   replace H:=be.mp H
   obtain⟨o2,T6,H⟩:=H
   have T1:=Az.mk T1
   have T2:=Az.mk T2
   have T4:=Az.mk T4
   have T5:=Az.mk T5
   have HJ:=Az.mk (Aj.out.below HB.out)
   by_cases e1:ta=tb
   rotate_left
   ·obtain rfl:=inc1_neg e1 T3
    have e1b:(ta== tb)=false:=beq_eq_false_iff_ne.mpr e1
    clear e1 T3
    by_cases e2:tc=td
    rotate_left
    ·obtain rfl:=inc1_neg e2 T6
     have e2b:(tc== td)=false:=beq_eq_false_iff_ne.mpr e2
     clear e2 T6
     have H':=Az.mk H
     clear H
     go_wp2_with (first
      |(go_at_call 64;refine(joiner_top.calls k2 ⟨p,0,none⟩ AJ cJ up _ _ _ z25_0 z25_1 T1.out).mono ?_;rintro e w' ⟨rfl,⟨nd1,rfl⟩⟩;clear T1)
      |(go_at_call 64;refine(joiner_top.calls k2 ⟨p,0,none⟩ AJ cJ up _ _ _ z25_0 z25_1 T2.out).mono ?_;rintro e w' ⟨rfl,⟨nd2,rfl⟩⟩;clear T2)
      |(go_at_call 64;refine(joiner_top.calls k2 ⟨p,0,none⟩ AJ cJ up _ _ _ z25_0 z25_1 T4.out).mono ?_;rintro e w' ⟨rfl,⟨nd3,rfl⟩⟩;clear T4)
      |(go_at_call 64;refine(joiner_top.calls k2 ⟨p,0,none⟩ AJ cJ up _ _ _ z25_0 z25_1 T5.out).mono ?_;rintro e w' ⟨rfl,⟨nd4,rfl⟩⟩;clear T5))
     go_roundg k2
     case measure=>have:=HK1.out;have:=HK2.out;omega
     case rel=>exact⟨o2,_,rfl,H',⟨by have:=HK2.out;omega⟩,⟨Kd.R_drewN HO.out _⟩,⟨pbN HB.out _⟩⟩
    obtain⟨z0,z1,rfl⟩:=inc1_pos e2 T6
    have e2b:(tc== td)=true:=beq_iff_eq.mpr e2
    have z0:=Az.mk z0
    have z1:=Az.mk z1
    clear e2 T6
    have H':=Az.mk H
    clear H
    obtain⟨g,eg⟩:=row_some HO.out z0.out z1.out
    subst eg
    obtain⟨hx,hf,zn,fin⟩:=row_at HO.out HB.out z0.out z1.out
    have zn1:=ets zn
    have Ap:=ets z0.out
    go_wp2_with (first
     |(go_at_call 64;refine(joiner_top.calls k2 ⟨p,0,none⟩ AJ cJ up _ _ _ z25_0 z25_1 T1.out).mono ?_;rintro e w' ⟨rfl,⟨nd1,rfl⟩⟩;clear T1)
     |(go_at_call 64;refine(joiner_top.calls k2 ⟨p,0,none⟩ AJ cJ up _ _ _ z25_0 z25_1 T2.out).mono ?_;rintro e w' ⟨rfl,⟨nd2,rfl⟩⟩;clear T2)
     |(go_at_call 64;refine(joiner_top.calls k2 ⟨p,0,none⟩ AJ cJ up _ _ _ z25_0 z25_1 T4.out).mono ?_;rintro e w' ⟨rfl,⟨nd3,rfl⟩⟩;clear T4)
     |(go_at_call 64;refine(joiner_top.calls k2 ⟨p,0,none⟩ AJ cJ up _ _ _ z25_0 z25_1 T5.out).mono ?_;rintro e w' ⟨rfl,⟨nd4,rfl⟩⟩;clear T5))
    go_roundg k2
    case measure=>have:=HK1.out;have:=HK2.out;omega
    case rel=>exact⟨(o1.set Z.toNat (wrap64 (rd o1 Z+1))),_,rfl,H',⟨by have:=HK2.out;omega⟩,⟨(fin.out _ _ ⟨_,rfl⟩).1⟩,⟨(fin.out _ _ ⟨_,rfl⟩).2⟩⟩
   obtain⟨z0,z1,rfl⟩:=inc1_pos e1 T3
   have e1b:(ta== tb)=true:=beq_iff_eq.mpr e1
   have z0:=Az.mk z0
   have z1:=Az.mk z1
   clear e1 T3
   by_cases e2:tc=td
   ·obtain⟨_,_,rfl⟩:=inc1_pos e2 T6
    have e2b:(tc== td)=true:=beq_iff_eq.mpr e2
    clear e2 T6
    have H':=Az.mk H
    clear H
    obtain⟨g,eg⟩:=row_some HO.out z0.out z1.out
    subst eg
    obtain⟨hx,hf,zn,fin⟩:=row_at HO.out HB.out z0.out z1.out
    have zn1:=ets zn
    have Ap:=ets z0.out
    go_wp2_with (first
     |(go_at_call 64;refine(joiner_top.calls k2 ⟨p,0,none⟩ AJ cJ up _ _ _ z25_0 z25_1 T1.out).mono ?_;rintro e w' ⟨rfl,⟨nd1,rfl⟩⟩;clear T1)
     |(go_at_call 64;refine(joiner_top.calls k2 ⟨p,0,none⟩ AJ cJ up _ _ _ z25_0 z25_1 T2.out).mono ?_;rintro e w' ⟨rfl,⟨nd2,rfl⟩⟩;clear T2)
     |((with_reducible refine gate_store (t:=3) (p:=50) rfl ?_);refine store_event (t:=3) (p:=50) (v:=?vo_1) (w1:=?Ax) ?hg ?ho ?hn ?hr ?_;(case ho=>rfl);(case hg=>rfl);(case hn=>rfl);(case hr=>first|(go_simp;done)|(go_simp;rfl));intro W3 hw;have Af:=Az.mk (show Kd.R (Kd.int .i64) 3 W3 W1.heap.size (fun _=>True) (.slice (some ⟨g,0,none⟩) nO cO) (Ad.set Z.toNat (wrap64 (rd Ad Z+1)))from by rw[hw];exact(fin.out _ _ ⟨_,rfl⟩).1);have HB3:=Az.mk (show Below W1.heap.size W1 W3 from by rw[hw];exact(fin.out _ _ ⟨_,rfl⟩).2);clear hw fin hx hf HO HB HJ;have HO:=Af;have HB:=HB3;have HJ:=Az.mk (Aj.out.below HB.out);clear Af HB3;obtain⟨hx,hf,_,fin⟩:=row_at HO.out HB.out z0.out (by rw[List.length_set];exact z1.out);skip)
     |(go_at_call 64;refine(joiner_top.calls k2 ⟨p,0,none⟩ AJ cJ up _ _ _ z25_0 z25_1 T4.out).mono ?_;rintro e w' ⟨rfl,⟨nd3,rfl⟩⟩;clear T4)
     |(go_at_call 64;refine(joiner_top.calls k2 ⟨p,0,none⟩ AJ cJ up _ _ _ z25_0 z25_1 T5.out).mono ?_;rintro e w' ⟨rfl,⟨nd4,rfl⟩⟩;clear T5))
    go_roundg k2
    case measure=>have:=HK1.out;have:=HK2.out;omega
    case rel=>exact⟨((Ad.set Z.toNat (wrap64 (rd Ad Z+1))).set Z.toNat (wrap64 (rd (Ad.set Z.toNat (wrap64 (rd Ad Z+1))) Z+1))),_,rfl,H',⟨by have:=HK2.out;omega⟩,⟨(fin.out _ _ ⟨_,rfl⟩).1⟩,⟨(fin.out _ _ ⟨_,rfl⟩).2⟩⟩
   obtain rfl:=inc1_neg e2 T6
   have e2b:(tc== td)=false:=beq_eq_false_iff_ne.mpr e2
   clear e2 T6
   have H':=Az.mk H
   clear H
   obtain⟨g,eg⟩:=row_some HO.out z0.out z1.out
   subst eg
   obtain⟨hx,hf,zn,fin⟩:=row_at HO.out HB.out z0.out z1.out
   have zn1:=ets zn
   have Ap:=ets z0.out
   go_wp2_with (first
    |(go_at_call 64;refine(joiner_top.calls k2 ⟨p,0,none⟩ AJ cJ up _ _ _ z25_0 z25_1 T1.out).mono ?_;rintro e w' ⟨rfl,⟨nd1,rfl⟩⟩;clear T1)
    |(go_at_call 64;refine(joiner_top.calls k2 ⟨p,0,none⟩ AJ cJ up _ _ _ z25_0 z25_1 T2.out).mono ?_;rintro e w' ⟨rfl,⟨nd2,rfl⟩⟩;clear T2)
    |((with_reducible refine gate_store (t:=3) (p:=50) rfl ?_);refine store_event (t:=3) (p:=50) (v:=?vo_2) (w1:=?Ay) ?hg ?ho ?hn ?hr ?_;(case ho=>rfl);(case hg=>rfl);(case hn=>rfl);(case hr=>first|(go_simp;done)|(go_simp;rfl));intro W3 hw;have Af:=Az.mk (show Kd.R (Kd.int .i64) 3 W3 W1.heap.size (fun _=>True) (.slice (some ⟨g,0,none⟩) nO cO) (Ad.set Z.toNat (wrap64 (rd Ad Z+1)))from by rw[hw];exact(fin.out _ _ ⟨_,rfl⟩).1);have HB3:=Az.mk (show Below W1.heap.size W1 W3 from by rw[hw];exact(fin.out _ _ ⟨_,rfl⟩).2);clear hw fin hx hf HO HB HJ;have HO:=Af;have HB:=HB3;have HJ:=Az.mk (Aj.out.below HB.out);clear Af HB3;obtain⟨hx,hf,_,fin⟩:=row_at HO.out HB.out z0.out (by rw[List.length_set];exact z1.out);skip)
    |(go_at_call 64;refine(joiner_top.calls k2 ⟨p,0,none⟩ AJ cJ up _ _ _ z25_0 z25_1 T4.out).mono ?_;rintro e w' ⟨rfl,⟨nd3,rfl⟩⟩;clear T4)
    |(go_at_call 64;refine(joiner_top.calls k2 ⟨p,0,none⟩ AJ cJ up _ _ _ z25_0 z25_1 T5.out).mono ?_;rintro e w' ⟨rfl,⟨nd4,rfl⟩⟩;clear T5))
   go_roundg k2
   case measure=>have:=HK1.out;have:=HK2.out;omega
   case rel=>exact⟨(Ad.set Z.toNat (wrap64 (rd Ad Z+1))),_,rfl,H',⟨by have:=HK2.out;omega⟩,⟨Kd.R_drewN HO.out _⟩,⟨pbN HB.out _⟩⟩
end Go.Proofs.Ytbpnjlemjapnnaa.P

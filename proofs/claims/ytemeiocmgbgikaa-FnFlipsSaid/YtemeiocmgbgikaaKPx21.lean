-- The walks, cut and laid together by this session's tools (prune.py, sq2.py, min.py: shorter names, no needless spaces). Not trusted: Lean checks it.
import Derived.Test.YtemeiocmgbgikaaKWZip
import Derived.Test.YtemeiocmgbgikaaKPx18
namespace Go.Proofs.Ytemeiocmgbgikaa.P
open Go.RowKit Go.Proofs.YtemeiocmgbgikaaW.PrintWords Go.Proofs.YtemeiocmgbgikaaW.PrintLast Go.Proofs.YtemeiocmgbgikaaW.PrintMore
attribute [local go_sem] max2_int min2_int max_two min_two max_three min_three max_four min_four   -- for this text's walks alone
set_option linter.unusedVariables false
set_option linter.unusedSimpArgs false
set_option maxHeartbeats 8000000
set_option maxRecDepth 100000
open Option renaming bind_eq_some_iff → be
section
open Bool renaming true → T, false → F
theorem z21_0 {p:Prop} (h:p:=by kernel_rfl):p:=h
theorem bw_21 {n:Nat}{v v':World} (h:Below n v v':=by repeat(first|(with_reducible first|exact HB.out|apply bwA|apply pbN|apply bwD)|exact HB.out)):Below n v v':=h
theorem ln_21 {P:Prop} (h:P:=by(try simp only[List.map_toArray,List.map_cons,List.map_nil]);first|done|rfl|(simp only[List.length_drop,List.length_take];rfl)):P:=h
mutual
def fS.j0:Nat→List (List Int)→List Int→Bool→Option (Bool)
 |0,_,_,_=>none
 |k+1,x0,x1,x26=>if x26=true then(some false) else(fS.l0 k x1 x0 (x0.length:Int) 0)
def fS.l0:Nat→List Int→List (List Int)→Int→Int→Option (Bool)
 |0,_,_,_,_=>none
 |k+1,x1,x27,x28,x29=>if x29<x28 then(if 0≤x29 then(if x29<(x27.length:Int) then(if 0<((rd_L1 x27 x29).length:Int) then((gS.f (rd (rd_L1 x27 x29) 0)).bind fun t474=>(if 0≤(wrap64 (t474 - 1)) then(if(wrap64 (t474 - 1))<(x1.length:Int) then(if 1<((rd_L1 x27 x29).length:Int) then((gS.f (rd (rd_L1 x27 x29) 1)).bind fun t477=>(if 0≤(wrap64 (t477 - 1)) then(if(wrap64 (t477 - 1))<(x1.length:Int) then(if 2<((rd_L1 x27 x29).length:Int) then((gS.f (rd (rd_L1 x27 x29) 2)).bind fun t480=>(if 0≤(wrap64 (t480 - 1)) then(if(wrap64 (t480 - 1))<(x1.length:Int) then(if(Int.tmod (wrap64 ((wrap64 ((rd x1 (wrap64 (t474 - 1)))+(rd x1 (wrap64 (t477 - 1)))))+(rd x1 (wrap64 (t480 - 1))))) 2)=0 then(if(rd x1 (wrap64 (t474 - 1)))>(wrap64 ((rd x1 (wrap64 (t477 - 1)))+(rd x1 (wrap64 (t480 - 1))))) then(some false) else(if(rd x1 (wrap64 (t477 - 1)))>(wrap64 ((rd x1 (wrap64 (t474 - 1)))+(rd x1 (wrap64 (t480 - 1))))) then(some false) else(if(rd x1 (wrap64 (t480 - 1)))>(wrap64 ((rd x1 (wrap64 (t474 - 1)))+(rd x1 (wrap64 (t477 - 1))))) then(some false) else(fS.l0 k x1 x27 x28 (wrap64 (x29+1)))))) else(some false)) else(none)) else(none))) else(none)) else(none)) else(none))) else(none)) else(none)) else(none))) else(none)) else(none)) else(none)) else(some true)
end
def fS.f (k:Nat) (l0:List (List Int)) (l1:List Int):Option (Bool):=(fC.f k l0).bind fun t470=>(if t470=true then(if(l1.length:Int)=(wrap64 (Int.tdiv (wrap64 (3*(l0.length:Int))) 2)) then((gD.f k l1).bind fun t471=>(fS.j0 k l0 l1 (!t471))) else(fS.j0 k l0 l1 true)) else(fS.j0 k l0 l1 true))
def fS.T6:Bool × List (List Nat × List Nat):=(true,[([],[]),([],[]),([1],[1]),([2],[2]),([3],[3]),([4],[4]),([0,5],[0,5]),([6],[6]),([],[]),([],[]),([9],[9]),([10],[10]),([11,4],[11]),([12],[12]),([8,13],[8,13]),([14],[14]),([],[]),([],[]),([17],[17]),([18],[18]),([19,12],[19]),([20],[20]),([16,21],[16,21]),([22],[22]),([7,20,0,1,2,3,4,5,6,7],[7]),([15,24,0,1,2,3,4,5,6,7,8,9,10,11,12,13,14,15,24],[15]),([23,25,0,1,2,3,4,5,6,7,8,9,10,11,12,13,14,15,16,17,18,19,20,21,22,23,24,25],[23])])
def fS.B6:List Nat:=[0,0,2,6,14,30,63,127,0,0,512,1536,3614,7710,16158,32542,0,0,131072,393216,925214,1973790,4136478,8330782,1974015,18808831,67108863]
theorem fS.tab6:rtab .any (opsOf Try.f39 6)=fS.T6:=by kernel_rfl
theorem fS.bits6:waitsOk fS.T6.2 fS.B6=true:=by kernel_rfl
theorem fS.calls (k:Nat) (A0:Option Addr) (c0:Nat) (l0:List (List Int)) (A1:Option Addr) (c1:Nat) (l1:List Int) (r:Bool) (w:World) (Ec:Kd.C (Kd.slice 3 (Kd.int .i64)) w A0 l0.length l0) (Ed:l0.length≤c0) (Ee:Kd.C (Kd.int .i64) w A1 l1.length l1) (Ef:l1.length≤c1) (h:fS.f k l0 l1=some r):
  Calls Try.prog 39 #[.slice A0 l0.length c0, .slice A1 l1.length c1] w fun e w'=>e= .returned (.bool r)∧Below w.heap.size w w':=by
 have Cv:=Az.mk Ec
 have Dz:=Az.mk Ed
 clear Ec Ed
 have Cl:=Az.mk Ee
 have Ey:=Az.mk Ef
 clear Ee Ef
 have HB:=Az.mk (Below.refl w.heap.size w)
 have H:=h
 unfold fS.f at H
 clear h
 have Ea:=Az.mk H
 clear H
 go_enter Try.func39,Try.ntmps39
 go_upto_region 1 with (fail)
 go_cut [26] (fun Ez wc=>∃(kq:Nat) (Cq:Bool),Ez= .bool Cq∧Az (fS.j0 kq l0 l1 Cq=some r)∧Az (kq≤k)∧Az (Below w.heap.size w wc))
 case first=>
  have H:=Ea.out
  clear Ea
  replace H:=bez H
  obtain⟨Eb,A4,H⟩:=H
  try dsimp only at H
  by_cases c5:Eb=true
  rotate_left
  ·replace c5:=Bool.eq_false_iff.mpr c5
   subst c5
   rw[ig ff]at H
   have H':=Az.mk H
   clear H
   go_wp2_with (first|((with_reducible refine gtC (f:=45) rfl ?_);refine clz Try.func45 (some 11) #[.slice A0 l0.length c0] ?_;(with_reducible refine(fC.calls k _ _ l0 false _ ?Ca ?Cb A4.out).mono ?_);(case Ca=>exact kC (Kd.C_below Cv.out HB.out));(case Cb=>exact Dz.out);rintro e Gb ⟨rfl,hb⟩;refine⟨_,rfl,?_⟩;replace HB:=Az.mk (bwT bw_21 hb);(try clear hb)))
   go_meet
   case rel=>exact⟨_,(true),rq2,H',⟨by first|omega|exact Nat.le_refl _⟩,⟨bw_21⟩⟩
  subst c5
  rw[ip rfl]at H
  by_cases c6:(l1.length:Int)=(wrap64 (Int.tdiv (wrap64 (3*(l0.length:Int))) 2))
  rotate_left
  ·rw[ig c6]at H
   have Cm:=beq_eq_false_iff_ne.mpr c6
   have Cy:=bne_iff_ne.mpr c6
   (first|rw[Cm]|(simp only[i64_w,i32_w];rw[Cm])|skip)
   have H':=Az.mk H
   clear H
   go_wp2_with (first|((with_reducible refine gtC (f:=45) rfl ?_);refine clz Try.func45 (some 11) #[.slice A0 l0.length c0] ?_;(with_reducible refine(fC.calls k _ _ l0 true _ ?Ca ?Cb A4.out).mono ?_);(case Ca=>exact kC (Kd.C_below Cv.out HB.out));(case Cb=>exact Dz.out);rintro e w9 ⟨rfl,hb⟩;refine⟨_,rfl,?_⟩;replace HB:=Az.mk (bwT bw_21 hb);(try clear hb)))
   go_meet
   case rel=>exact⟨_,(true),rq2,H',⟨by first|omega|exact Nat.le_refl _⟩,⟨bw_21⟩⟩
  rw[ip c6]at H
  have Cm:=beq_iff_eq.mpr c6
  have Cy:=bne_eq_false_iff_eq.mpr c6
  clear c6
  (first|rw[Cm]|(simp only[i64_w,i32_w];rw[Cm])|skip)
  replace H:=bez H
  obtain⟨Dg,A7,H⟩:=H
  try dsimp only at H
  have H':=Az.mk H
  clear H
  go_wp2_with (first|((with_reducible refine gtC (f:=45) rfl ?_);refine clz Try.func45 (some 11) #[.slice A0 l0.length c0] ?_;(with_reducible refine(fC.calls k _ _ l0 true _ ?Ca ?Cb A4.out).mono ?_);(case Ca=>exact kC (Kd.C_below Cv.out HB.out));(case Cb=>exact Dz.out);rintro e w8 ⟨rfl,hb⟩;refine⟨_,rfl,?_⟩;replace HB:=Az.mk (bwT bw_21 hb);(try clear hb))|(go_at_call 51;(with_reducible refine(gD.calls k _ _ l1 Dg _ ?Ca ?Cb A7.out).mono ?_);(case Ca=>exact kC (Kd.C_below Cl.out HB.out));(case Cb=>exact Ey.out);rintro e w' ⟨rfl,⟨nd,rfl⟩⟩))
  go_meet
  case rel=>exact⟨_,(!Dg),rq2,H',⟨by first|omega|exact Nat.le_refl _⟩,⟨bw_21⟩⟩
 clear Ea
 try clear c1
 try clear c5
 try clear c6
 try clear Cm
 try clear Cy
 obtain⟨kq,Cq,rfl,HA,Eg,HB⟩:=hcut
 cases kq with
 |zero=>exact absurd HA.out (by simp[fS.j0])
 |succ Eh=>
  have H:=HA.out
  clear HA
  simp only[fS.j0]at H
  by_cases Dh:Cq=true
  ·subst Dh
   rw[ip rfl]at H
   obtain rfl:=Option.some.inj H
   go_wp2
   go_ret
   exact⟨rq1,bw_21⟩
  replace Dh:=Bool.eq_false_iff.mpr Dh
  subst Dh
  rw[ig ff]at H
  have H':=Az.mk H
  clear H
  go_wp2
  go_loopg [29] Eh (fun kq Ga w'=>∃(Aa:Int),Ga= .int .i64 Aa∧Az (fS.l0 kq l1 l0 (l0.length:Int) Aa=some r)∧Az (kq≤Eh)∧Az (Below w.heap.size w w'))
  case atStart=>exact⟨(0),rq2,H',⟨Nat.le_refl _⟩,⟨bw_21⟩⟩
  clear H'
  try clear c1
  try clear c5
  try clear c6
  try clear Cm
  try clear Cy
  try clear Dh
  obtain⟨Aa,rfl,HA,HK2,HB⟩:=hrel
  cases gk with
  |zero=>exact absurd HA.out (by simp[fS.l0])
  |succ k2=>
   have H:=HA.out
   clear HA
   simp only[fS.l0]at H
   by_cases Db:Aa<(l0.length:Int)
   rotate_left
   ·rw[ig Db]at H
    have Di:=decide_eq_false Db
    clear Db
    obtain rfl:=Option.some.inj H
    go_wp2
    go_ret
    exact⟨rq1,bw_21⟩
   rw[ip Db]at H
   have Di:=ode Db
   clear Db
   by_cases Do:0≤Aa
   rotate_left
   ·rw[ig Do]at H
    exact absurd H (by simp)
   rw[ip Do]at H
   have Ei:=ode Do
   clear Do
   by_cases Dp:Aa<(l0.length:Int)
   rotate_left
   ·rw[ig Dp]at H
    exact absurd H (by simp)
   rw[ip Dp]at H
   have Ej:=ode Dp
   clear Dp
   by_cases Dq:0<((rd_L1 l0 Aa).length:Int)
   rotate_left
   ·rw[ig Dq]at H
    exact absurd H (by simp)
   rw[ip Dq]at H
   have Ek:=ode Dq
   have El:decide (0<(rd_L1 l0 Aa).length)=true:=ode (by omega)
   clear Dq
   replace H:=bez H
   obtain⟨Cn,Cw,H⟩:=H
   try dsimp only at H
   obtain⟨Au,By⟩:∃j_:Int,(wrap64 (Cn - 1))=j_:=⟨_,rfl⟩
   first|rw[By]at H|simp only[By]at H
   (try rw[By]at Cw)
   have hji17w:(IntKind.i64.wrap (Cn - 1))=Au:=(i64_w _).trans By
   by_cases Dr:0≤(Au)
   rotate_left
   ·rw[ig Dr]at H
    exact absurd H (by simp)
   rw[ip Dr]at H
   have Em:=ode Dr
   clear Dr
   by_cases Ds:(Au)<(l1.length:Int)
   rotate_left
   ·rw[ig Ds]at H
    exact absurd H (by simp)
   rw[ip Ds]at H
   have Eo:=ode Ds
   clear Ds
   by_cases Dt:1<((rd_L1 l0 Aa).length:Int)
   rotate_left
   ·rw[ig Dt]at H
    exact absurd H (by simp)
   rw[ip Dt]at H
   have Ep:=ode Dt
   have Er:decide (1<(rd_L1 l0 Aa).length)=true:=ode (by omega)
   clear Dt
   replace H:=bez H
   obtain⟨Co,Cz,H⟩:=H
   try dsimp only at H
   obtain⟨Av,Bt⟩:∃j_:Int,(wrap64 (Co - 1))=j_:=⟨_,rfl⟩
   first|rw[Bt]at H|simp only[Bt]at H
   (try rw[Bt]at Cw)
   (try rw[Bt]at Cz)
   have hji22w:(IntKind.i64.wrap (Co - 1))=Av:=(i64_w _).trans Bt
   by_cases Du:0≤(Av)
   rotate_left
   ·rw[ig Du]at H
    exact absurd H (by simp)
   rw[ip Du]at H
   have Es:=ode Du
   clear Du
   by_cases Dv:(Av)<(l1.length:Int)
   rotate_left
   ·rw[ig Dv]at H
    exact absurd H (by simp)
   rw[ip Dv]at H
   have Et:=ode Dv
   clear Dv
   by_cases Dw:2<((rd_L1 l0 Aa).length:Int)
   rotate_left
   ·rw[ig Dw]at H
    exact absurd H (by simp)
   rw[ip Dw]at H
   have Eu:=ode Dw
   have Ev:decide (2<(rd_L1 l0 Aa).length)=true:=ode (by omega)
   clear Dw
   replace H:=bez H
   obtain⟨Cp,Dc,H⟩:=H
   try dsimp only at H
   obtain⟨Ax,Bs⟩:∃j_:Int,(wrap64 (Cp - 1))=j_:=⟨_,rfl⟩
   first|rw[Bs]at H|simp only[Bs]at H
   (try rw[Bs]at Cw)
   (try rw[Bs]at Cz)
   (try rw[Bs]at Dc)
   have hji27w:(IntKind.i64.wrap (Cp - 1))=Ax:=(i64_w _).trans Bs
   by_cases Dx:0≤(Ax)
   rotate_left
   ·rw[ig Dx]at H
    exact absurd H (by simp)
   rw[ip Dx]at H
   have Ew:=ode Dx
   clear Dx
   by_cases Dy:(Ax)<(l1.length:Int)
   rotate_left
   ·rw[ig Dy]at H
    exact absurd H (by simp)
   rw[ip Dy]at H
   have Ex:=ode Dy
   clear Dy
   by_cases Da:(Int.tmod (wrap64 ((wrap64 ((rd l1 (Au))+(rd l1 (Av))))+(rd l1 (Ax)))) 2)=0
   rotate_left
   ·rw[ig Da]at H
    have Dj:=beq_eq_false_iff_ne.mpr Da
    have Dk:=bne_iff_ne.mpr Da
    obtain rfl:=Option.some.inj H
    have Bc:0≤(Aa:Int):=od
    have Bd:Aa<(l0.length:Int):=od
    obtain⟨Cr,Cc,Cd,Ce,Ay,Ba,Bb⟩:=at_L1 Cv.out Aa Bc Bd
    cases Ce
    replace Ay:=kc HB Ay
    have Aq:=Az.mk Bb
    have Bz:=Az.mk Ba
    clear Bb Ba
    replace Bc:=ets Bc
    replace Bd:=ets Bd
    try go_wp2
    replace HB:=Az.mk (bwD HB.out)
    have Bf:0≤(0:Int):=(by omega)
    have Bh:0<((rd_L1 l0 Aa).length:Int):=od
    obtain⟨Ap,Cf,Ae⟩:=Kd.at_int Aq.out 0 Bf Bh
    have Ab:=Ae
    (try rw[show((0:Int)).toNat=0 from rfl]at Ab)
    (try rw[show 0*1=0 from rfl]at Ab)
    (try rw[Addr.add_zero']at Ab)
    cases Cf
    have Cs:(0<(rd_L1 l0 Aa).length)=True:=ets (by omega)
    (try rw[show((0:Int)).toNat=0 from rfl]at Ae)
    (try rw[Addr.add_zero']at Ae)
    replace Ae:=kc HB Ae
    replace Bf:=ets Bf
    replace Bh:=ets Bh
    have Bi:0≤(1:Int):=(by omega)
    have Bj:1<((rd_L1 l0 Aa).length:Int):=od
    obtain⟨Bu,Cg,Af⟩:=Kd.at_int Aq.out 1 Bi Bj
    have Ac:=Af
    (try rw[show((1:Int)).toNat=1 from rfl]at Ac)
    (try rw[show 1*1=1 from rfl]at Ac)
    (try simp only[Nat.reduceMul,Nat.reduceEqDiff,Go.Addr.add, ↓reduceIte]at Ac)
    obtain rfl:Ap=Bu:=(by injection Cg)
    (try simp only[show(1:Int).toNat=1 from rfl,Nat.reduceMul,Nat.reduceEqDiff,Go.Addr.add, ↓reduceIte]at Af)
    have Ct:(1<(rd_L1 l0 Aa).length)=True:=ets (by omega)
    (try rw[show((1:Int)).toNat=1 from rfl]at Af)
    replace Af:=kc HB Af
    replace Bi:=ets Bi
    replace Bj:=ets Bj
    have Bk:0≤(2:Int):=(by omega)
    have Bl:2<((rd_L1 l0 Aa).length:Int):=od
    obtain⟨Bv,Ch,Ag⟩:=Kd.at_int Aq.out 2 Bk Bl
    have Ad:=Ag
    (try rw[show((2:Int)).toNat=2 from rfl]at Ad)
    (try rw[show 2*1=2 from rfl]at Ad)
    (try simp only[Nat.reduceMul,Nat.reduceEqDiff,Go.Addr.add, ↓reduceIte]at Ad)
    obtain rfl:Ap=Bv:=(by injection Ch)
    (try simp only[show(2:Int).toNat=2 from rfl,Nat.reduceMul,Nat.reduceEqDiff,Go.Addr.add, ↓reduceIte]at Ag)
    have Cu:(2<(rd_L1 l0 Aa).length)=True:=ets (by omega)
    (try rw[show((2:Int)).toNat=2 from rfl]at Ag)
    replace Ag:=kc HB Ag
    replace Bk:=ets Bk
    replace Bl:=ets Bl
    have Bm:0≤((Au):Int):=od
    have Bn:(Au)<(l1.length:Int):=od
    obtain⟨As,Ci,Ah⟩:=Kd.at_int Cl.out (Au) Bm Bn
    have Ai:=Ah
    cases Ci
    replace Ah:=kc HB Ah
    replace Bm:=ets Bm
    replace Bn:=ets Bn
    have Bo:0≤((Av):Int):=od
    have Bp:(Av)<(l1.length:Int):=od
    obtain⟨Bw,Cj,Aj⟩:=Kd.at_int Cl.out (Av) Bo Bp
    have Ak:=Aj
    obtain rfl:As=Bw:=(by injection Cj)
    replace Aj:=kc HB Aj
    replace Bo:=ets Bo
    replace Bp:=ets Bp
    have Bq:0≤((Ax):Int):=od
    have Br:(Ax)<(l1.length:Int):=od
    obtain⟨Bx,Ck,Al⟩:=Kd.at_int Cl.out (Ax) Bq Br
    have Am:=Al
    obtain rfl:As=Bx:=(by injection Ck)
    replace Al:=kc HB Al
    replace Bq:=ets Bq
    replace Br:=ets Br
    refine start_ (n:=27) (S:=fun w'=>w'.cell? Ap=some (.int .i64 (rd (rd_L1 l0 Aa) 0))∧w'.cell? ⟨Ap.block,Ap.off+1,none⟩=some (.int .i64 (rd (rd_L1 l0 Aa) 1))∧w'.cell? ⟨Ap.block,Ap.off+2,none⟩=some (.int .i64 (rd (rd_L1 l0 Aa) 2))∧w'.cell? (As.add ((Au)).toNat)=some (.int .i64 (rd l1 (Au)))∧w'.cell? (As.add ((Av)).toNat)=some (.int .i64 (rd l1 (Av)))∧w'.cell? (As.add ((Ax)).toNat)=some (.int .i64 (rd l1 (Ax)))) (ds:=[]) #[F,F,F,F,F,F,F,F,F,F,F,F,F,F,F,F,F,F,F,F,F,F,F,F,F,F,F] z21_0 rfl rfl ⟨(kc HB Ab),(kc HB Ac),(kc HB Ad),(kc HB Ai),(kc HB Ak),(kc HB Am)⟩ (fun hHeld=>?_);refine with_tabW fS.tab6 fS.bits6 (fun HT_ HW_=>?_)
    generalize wr.drew=Gc at HB Ae Ah Af Aj Ag Al hHeld ⊢
    refine pu (i:=0) (N:=some 33) #[T,F,F,F,F,F,F,F,F,F,F,F,F,F,F,F,F,F,F,F,F,F,F,F,F,F,F] (any_of HT_.out z21_0) ?_
    refine pu (i:=1) (N:=some 34) #[T,T,F,F,F,F,F,F,F,F,F,F,F,F,F,F,F,F,F,F,F,F,F,F,F,F,F] (any_of HT_.out z21_0) ?_
    refine pu (i:=2) (N:=some 35) #[T,T,T,F,F,F,F,F,F,F,F,F,F,F,F,F,F,F,F,F,F,F,F,F,F,F,F] (any_of HT_.out z21_0) ?_
    refine pu (i:=8) (N:=some 41) #[T,T,T,F,F,F,F,F,T,F,F,F,F,F,F,F,F,F,F,F,F,F,F,F,F,F,F] (any_of HT_.out z21_0) ?_
    refine pu (i:=9) (N:=some 42) #[T,T,T,F,F,F,F,F,T,T,F,F,F,F,F,F,F,F,F,F,F,F,F,F,F,F,F] (any_of HT_.out z21_0) ?_
    refine pu (i:=10) (N:=some 43) #[T,T,T,F,F,F,F,F,T,T,T,F,F,F,F,F,F,F,F,F,F,F,F,F,F,F,F] (any_of HT_.out z21_0) ?_
    refine pu (i:=16) (N:=some 49) #[T,T,T,F,F,F,F,F,T,T,T,F,F,F,F,F,T,F,F,F,F,F,F,F,F,F,F] (any_of HT_.out z21_0) ?_
    refine pu (i:=17) (N:=some 50) #[T,T,T,F,F,F,F,F,T,T,T,F,F,F,F,F,T,T,F,F,F,F,F,F,F,F,F] (any_of HT_.out z21_0) ?_
    refine pu (i:=18) (N:=some 51) #[T,T,T,F,F,F,F,F,T,T,T,F,F,F,F,F,T,T,T,F,F,F,F,F,F,F,F] (any_of HT_.out z21_0) ?_
    refine take_ (i:=3) (N:=some 36) (v:=?_) (a':=?_) #[T,T,T,T,F,F,F,F,T,T,T,F,F,F,F,F,T,T,T,F,F,F,F,F,F,F,F] rfl rfl (take_ofW HT_.out HW_.out z21_0) (fun _ _ _ h=>h) (Or.inl ⟨by rfl,?_⟩) hHeld ?_ ?_
    rotate_left
    ·rintro w' ⟨s0,s1,s2,s3,s4,s5⟩
     go_simp
     with_reducible rfl
    rotate_left
    ·exact acq
    refine take_ (i:=11) (N:=some 44) (v:=?_) (a':=?_) #[T,T,T,T,F,F,F,F,T,T,T,T,F,F,F,F,T,T,T,F,F,F,F,F,F,F,F] rfl rfl (take_ofW HT_.out HW_.out z21_0) (fun _ _ _ h=>h) (Or.inl ⟨by rfl,?_⟩) hHeld ?_ ?_
    rotate_left
    ·rintro w' ⟨s0,s1,s2,s3,s4,s5⟩
     go_simp
     with_reducible rfl
    rotate_left
    ·exact acq
    refine take_ (i:=19) (N:=some 52) (v:=?_) (a':=?_) #[T,T,T,T,F,F,F,F,T,T,T,T,F,F,F,F,T,T,T,T,F,F,F,F,F,F,F] rfl rfl (take_ofW HT_.out HW_.out z21_0) (fun _ _ _ h=>h) (Or.inl ⟨by rfl,?_⟩) hHeld ?_ ?_
    rotate_left
    ·rintro w' ⟨s0,s1,s2,s3,s4,s5⟩
     go_simp
     with_reducible rfl
    rotate_left
    ·exact acq
    refine one_ (i:=4) (N:=some 37) #[T,T,T,T,T,F,F,F,T,T,T,T,F,F,F,F,T,T,T,T,F,F,F,F,F,F,F] rfl rfl (one_of HT_.out z21_0) (by decide) (fun K hK=>?_)
    refine goes_ Try.func41 z21_0 rfl #[.int .i64 (rd (rd_L1 l0 Aa) 0)] (by rfl) rfl rfl ln_21 ?_
    with_reducible refine(gS.calls (rd (rd_L1 l0 Aa) 0) Cn _ Cw.out).mono ?_
    rintro e Gd ⟨rfl,hb⟩
    refine⟨_,rfl,?_⟩
    replace HB:=Az.mk (bwT bw_21 hb)
    (try clear hb)
    (try clear hb2)
    (try clear hk)
    (try clear hi)
    refine hK.out _ _ ⟨(kc HB Ab),(kc HB Ac),(kc HB Ad),(kc HB Ai),(kc HB Ak),(kc HB Am)⟩ (fun hHeld=>?_)
    clear hK K
    refine norm_ (a':=?_) ?_ ?_
    rotate_left
    ·show Act.put _ (some 37) _=_
     exact acq
    refine pu (i:=5) (N:=some 38) #[T,T,T,T,T,T,F,F,T,T,T,T,F,F,F,F,T,T,T,T,F,F,F,F,F,F,F] (any_of HT_.out z21_0) ?_
    refine pu (i:=6) (N:=some 39) #[T,T,T,T,T,T,T,F,T,T,T,T,F,F,F,F,T,T,T,T,F,F,F,F,F,F,F] (any_of HT_.out z21_0) ?_
    refine take_ (i:=7) (N:=some 40) (v:=?_) (a':=?_) #[T,T,T,T,T,T,T,T,T,T,T,T,F,F,F,F,T,T,T,T,F,F,F,F,F,F,F] rfl rfl (take_ofW HT_.out HW_.out z21_0) (fun _ _ _ h=>h) (Or.inl ⟨by rfl,?_⟩) hHeld ?_ ?_
    rotate_left
    ·rintro w' ⟨s0,s1,s2,s3,s4,s5⟩
     go_simp
     with_reducible rfl
    rotate_left
    ·exact acq
    refine one_ (i:=12) (N:=some 45) #[T,T,T,T,T,T,T,T,T,T,T,T,T,F,F,F,T,T,T,T,F,F,F,F,F,F,F] rfl rfl (one_of HT_.out z21_0) (by decide) (fun K hK=>?_)
    refine goes_ Try.func41 z21_0 rfl #[.int .i64 (rd (rd_L1 l0 Aa) 1)] (by rfl) rfl rfl ln_21 ?_
    with_reducible refine(gS.calls (rd (rd_L1 l0 Aa) 1) Co _ Cz.out).mono ?_
    rintro e Ge ⟨rfl,hb⟩
    refine⟨_,rfl,?_⟩
    replace HB:=Az.mk (bwT bw_21 hb)
    (try clear hb)
    (try clear hb2)
    (try clear hk)
    (try clear hi)
    refine hK.out _ _ ⟨(kc HB Ab),(kc HB Ac),(kc HB Ad),(kc HB Ai),(kc HB Ak),(kc HB Am)⟩ (fun hHeld=>?_)
    clear hK K
    refine norm_ (a':=?_) ?_ ?_
    rotate_left
    ·show Act.put _ (some 45) _=_
     exact acq
    refine pu (i:=13) (N:=some 46) #[T,T,T,T,T,T,T,T,T,T,T,T,T,T,F,F,T,T,T,T,F,F,F,F,F,F,F] (any_of HT_.out z21_0) ?_
    refine pu (i:=14) (N:=some 47) #[T,T,T,T,T,T,T,T,T,T,T,T,T,T,T,F,T,T,T,T,F,F,F,F,F,F,F] (any_of HT_.out z21_0) ?_
    refine take_ (i:=15) (N:=some 48) (v:=?_) (a':=?_) #[T,T,T,T,T,T,T,T,T,T,T,T,T,T,T,T,T,T,T,T,F,F,F,F,F,F,F] rfl rfl (take_ofW HT_.out HW_.out z21_0) (fun _ _ _ h=>h) (Or.inl ⟨by rfl,?_⟩) hHeld ?_ ?_
    rotate_left
    ·rintro w' ⟨s0,s1,s2,s3,s4,s5⟩
     go_simp
     with_reducible rfl
    rotate_left
    ·exact acq
    refine one_ (i:=20) (N:=some 53) #[T,T,T,T,T,T,T,T,T,T,T,T,T,T,T,T,T,T,T,T,T,F,F,F,F,F,F] rfl rfl (one_of HT_.out z21_0) (by decide) (fun K hK=>?_)
    refine goes_ Try.func41 z21_0 rfl #[.int .i64 (rd (rd_L1 l0 Aa) 2)] (by rfl) rfl rfl ln_21 ?_
    with_reducible refine(gS.calls (rd (rd_L1 l0 Aa) 2) Cp _ Dc.out).mono ?_
    rintro e Gf ⟨rfl,hb⟩
    refine⟨_,rfl,?_⟩
    replace HB:=Az.mk (bwT bw_21 hb)
    (try clear hb)
    (try clear hb2)
    (try clear hk)
    (try clear hi)
    refine hK.out _ _ ⟨(kc HB Ab),(kc HB Ac),(kc HB Ad),(kc HB Ai),(kc HB Ak),(kc HB Am)⟩ (fun hHeld=>?_)
    clear hK K
    refine norm_ (a':=?_) ?_ ?_
    rotate_left
    ·show Act.put _ (some 53) _=_
     exact acq
    refine pu (i:=21) (N:=some 54) #[T,T,T,T,T,T,T,T,T,T,T,T,T,T,T,T,T,T,T,T,T,T,F,F,F,F,F] (any_of HT_.out z21_0) ?_
    refine pu (i:=22) (N:=some 55) #[T,T,T,T,T,T,T,T,T,T,T,T,T,T,T,T,T,T,T,T,T,T,T,F,F,F,F] (any_of HT_.out z21_0) ?_
    refine pu (i:=24) (N:=some 7) #[T,T,T,T,T,T,T,T,T,T,T,T,T,T,T,T,T,T,T,T,T,T,T,F,T,F,F] (any_of HT_.out z21_0) ?_
    refine pu (i:=25) (N:=some 8) #[T,T,T,T,T,T,T,T,T,T,T,T,T,T,T,T,T,T,T,T,T,T,T,F,T,T,F] (any_of HT_.out z21_0) ?_
    refine take_ (i:=23) (N:=some 56) (v:=?_) (a':=?_) #[T,T,T,T,T,T,T,T,T,T,T,T,T,T,T,T,T,T,T,T,T,T,T,T,T,T,F] rfl rfl (take_ofW HT_.out HW_.out z21_0) (fun _ _ _ h=>h) (Or.inl ⟨by rfl,?_⟩) hHeld ?_ ?_
    rotate_left
    ·rintro w' ⟨s0,s1,s2,s3,s4,s5⟩
     go_simp
     with_reducible rfl
    rotate_left
    ·exact acq
    refine pu (i:=26) (N:=some 9) #[T,T,T,T,T,T,T,T,T,T,T,T,T,T,T,T,T,T,T,T,T,T,T,T,T,T,T] (any_of HT_.out z21_0) ?_
    refine done_ (done_of HT_.out z21_0) ?_
    try go_wp2
    go_ret
    exact⟨by first|rfl|(simp[eWn,eWs] <;> rfl)|(simp only[←By, ←Bt, ←Bs];first|rfl|(simp[eWn,eWs] <;> rfl))|(simp[*,eWn,eWs] <;> rfl),bw_21⟩
   rw[ip Da]at H
   have Dj:=beq_iff_eq.mpr Da
   have Dk:=bne_eq_false_iff_eq.mpr Da
   clear Da
   by_cases Dd:(rd l1 (Au))>(wrap64 ((rd l1 (Av))+(rd l1 (Ax))))
   ·rw[ip Dd]at H
    have Dl:decide ((wrap64 ((rd l1 (Av))+(rd l1 (Ax))))<(rd l1 (Au)))=true:=ode Dd
    clear Dd
    obtain rfl:=Option.some.inj H
    have Bc:0≤(Aa:Int):=od
    have Bd:Aa<(l0.length:Int):=od
    obtain⟨Cr,Cc,Cd,Ce,Ay,Ba,Bb⟩:=at_L1 Cv.out Aa Bc Bd
    cases Ce
    replace Ay:=kc HB Ay
    have Aq:=Az.mk Bb
    have Bz:=Az.mk Ba
    clear Bb Ba
    replace Bc:=ets Bc
    replace Bd:=ets Bd
    try go_wp2
    replace HB:=Az.mk (bwD HB.out)
    have Bf:0≤(0:Int):=(by omega)
    have Bh:0<((rd_L1 l0 Aa).length:Int):=od
    obtain⟨Ap,Cf,Ae⟩:=Kd.at_int Aq.out 0 Bf Bh
    have Ab:=Ae
    (try rw[show((0:Int)).toNat=0 from rfl]at Ab)
    (try rw[show 0*1=0 from rfl]at Ab)
    (try rw[Addr.add_zero']at Ab)
    cases Cf
    have Cs:(0<(rd_L1 l0 Aa).length)=True:=ets (by omega)
    (try rw[show((0:Int)).toNat=0 from rfl]at Ae)
    (try rw[Addr.add_zero']at Ae)
    replace Ae:=kc HB Ae
    replace Bf:=ets Bf
    replace Bh:=ets Bh
    have Bi:0≤(1:Int):=(by omega)
    have Bj:1<((rd_L1 l0 Aa).length:Int):=od
    obtain⟨Bu,Cg,Af⟩:=Kd.at_int Aq.out 1 Bi Bj
    have Ac:=Af
    (try rw[show((1:Int)).toNat=1 from rfl]at Ac)
    (try rw[show 1*1=1 from rfl]at Ac)
    (try simp only[Nat.reduceMul,Nat.reduceEqDiff,Go.Addr.add, ↓reduceIte]at Ac)
    obtain rfl:Ap=Bu:=(by injection Cg)
    (try simp only[show(1:Int).toNat=1 from rfl,Nat.reduceMul,Nat.reduceEqDiff,Go.Addr.add, ↓reduceIte]at Af)
    have Ct:(1<(rd_L1 l0 Aa).length)=True:=ets (by omega)
    (try rw[show((1:Int)).toNat=1 from rfl]at Af)
    replace Af:=kc HB Af
    replace Bi:=ets Bi
    replace Bj:=ets Bj
    have Bk:0≤(2:Int):=(by omega)
    have Bl:2<((rd_L1 l0 Aa).length:Int):=od
    obtain⟨Bv,Ch,Ag⟩:=Kd.at_int Aq.out 2 Bk Bl
    have Ad:=Ag
    (try rw[show((2:Int)).toNat=2 from rfl]at Ad)
    (try rw[show 2*1=2 from rfl]at Ad)
    (try simp only[Nat.reduceMul,Nat.reduceEqDiff,Go.Addr.add, ↓reduceIte]at Ad)
    obtain rfl:Ap=Bv:=(by injection Ch)
    (try simp only[show(2:Int).toNat=2 from rfl,Nat.reduceMul,Nat.reduceEqDiff,Go.Addr.add, ↓reduceIte]at Ag)
    have Cu:(2<(rd_L1 l0 Aa).length)=True:=ets (by omega)
    (try rw[show((2:Int)).toNat=2 from rfl]at Ag)
    replace Ag:=kc HB Ag
    replace Bk:=ets Bk
    replace Bl:=ets Bl
    have Bm:0≤((Au):Int):=od
    have Bn:(Au)<(l1.length:Int):=od
    obtain⟨As,Ci,Ah⟩:=Kd.at_int Cl.out (Au) Bm Bn
    have Ai:=Ah
    cases Ci
    replace Ah:=kc HB Ah
    replace Bm:=ets Bm
    replace Bn:=ets Bn
    have Bo:0≤((Av):Int):=od
    have Bp:(Av)<(l1.length:Int):=od
    obtain⟨Bw,Cj,Aj⟩:=Kd.at_int Cl.out (Av) Bo Bp
    have Ak:=Aj
    obtain rfl:As=Bw:=(by injection Cj)
    replace Aj:=kc HB Aj
    replace Bo:=ets Bo
    replace Bp:=ets Bp
    have Bq:0≤((Ax):Int):=od
    have Br:(Ax)<(l1.length:Int):=od
    obtain⟨Bx,Ck,Al⟩:=Kd.at_int Cl.out (Ax) Bq Br
    have Am:=Al
    obtain rfl:As=Bx:=(by injection Ck)
    replace Al:=kc HB Al
    replace Bq:=ets Bq
    replace Br:=ets Br
    refine start_ (n:=27) (S:=fun w'=>w'.cell? Ap=some (.int .i64 (rd (rd_L1 l0 Aa) 0))∧w'.cell? ⟨Ap.block,Ap.off+1,none⟩=some (.int .i64 (rd (rd_L1 l0 Aa) 1))∧w'.cell? ⟨Ap.block,Ap.off+2,none⟩=some (.int .i64 (rd (rd_L1 l0 Aa) 2))∧w'.cell? (As.add ((Au)).toNat)=some (.int .i64 (rd l1 (Au)))∧w'.cell? (As.add ((Av)).toNat)=some (.int .i64 (rd l1 (Av)))∧w'.cell? (As.add ((Ax)).toNat)=some (.int .i64 (rd l1 (Ax)))) (ds:=[]) #[F,F,F,F,F,F,F,F,F,F,F,F,F,F,F,F,F,F,F,F,F,F,F,F,F,F,F] z21_0 rfl rfl ⟨(kc HB Ab),(kc HB Ac),(kc HB Ad),(kc HB Ai),(kc HB Ak),(kc HB Am)⟩ (fun hHeld=>?_);refine with_tabW fS.tab6 fS.bits6 (fun HT_ HW_=>?_)
    generalize wr.drew=Gg at HB Ae Ah Af Aj Ag Al hHeld ⊢
    refine pu (i:=0) (N:=some 33) #[T,F,F,F,F,F,F,F,F,F,F,F,F,F,F,F,F,F,F,F,F,F,F,F,F,F,F] (any_of HT_.out z21_0) ?_
    refine pu (i:=1) (N:=some 34) #[T,T,F,F,F,F,F,F,F,F,F,F,F,F,F,F,F,F,F,F,F,F,F,F,F,F,F] (any_of HT_.out z21_0) ?_
    refine pu (i:=2) (N:=some 35) #[T,T,T,F,F,F,F,F,F,F,F,F,F,F,F,F,F,F,F,F,F,F,F,F,F,F,F] (any_of HT_.out z21_0) ?_
    refine pu (i:=8) (N:=some 41) #[T,T,T,F,F,F,F,F,T,F,F,F,F,F,F,F,F,F,F,F,F,F,F,F,F,F,F] (any_of HT_.out z21_0) ?_
    refine pu (i:=9) (N:=some 42) #[T,T,T,F,F,F,F,F,T,T,F,F,F,F,F,F,F,F,F,F,F,F,F,F,F,F,F] (any_of HT_.out z21_0) ?_
    refine pu (i:=10) (N:=some 43) #[T,T,T,F,F,F,F,F,T,T,T,F,F,F,F,F,F,F,F,F,F,F,F,F,F,F,F] (any_of HT_.out z21_0) ?_
    refine pu (i:=16) (N:=some 49) #[T,T,T,F,F,F,F,F,T,T,T,F,F,F,F,F,T,F,F,F,F,F,F,F,F,F,F] (any_of HT_.out z21_0) ?_
    refine pu (i:=17) (N:=some 50) #[T,T,T,F,F,F,F,F,T,T,T,F,F,F,F,F,T,T,F,F,F,F,F,F,F,F,F] (any_of HT_.out z21_0) ?_
    refine pu (i:=18) (N:=some 51) #[T,T,T,F,F,F,F,F,T,T,T,F,F,F,F,F,T,T,T,F,F,F,F,F,F,F,F] (any_of HT_.out z21_0) ?_
    refine take_ (i:=3) (N:=some 36) (v:=?_) (a':=?_) #[T,T,T,T,F,F,F,F,T,T,T,F,F,F,F,F,T,T,T,F,F,F,F,F,F,F,F] rfl rfl (take_ofW HT_.out HW_.out z21_0) (fun _ _ _ h=>h) (Or.inl ⟨by rfl,?_⟩) hHeld ?_ ?_
    rotate_left
    ·rintro w' ⟨s0,s1,s2,s3,s4,s5⟩
     go_simp
     with_reducible rfl
    rotate_left
    ·exact acq
    refine take_ (i:=11) (N:=some 44) (v:=?_) (a':=?_) #[T,T,T,T,F,F,F,F,T,T,T,T,F,F,F,F,T,T,T,F,F,F,F,F,F,F,F] rfl rfl (take_ofW HT_.out HW_.out z21_0) (fun _ _ _ h=>h) (Or.inl ⟨by rfl,?_⟩) hHeld ?_ ?_
    rotate_left
    ·rintro w' ⟨s0,s1,s2,s3,s4,s5⟩
     go_simp
     with_reducible rfl
    rotate_left
    ·exact acq
    refine take_ (i:=19) (N:=some 52) (v:=?_) (a':=?_) #[T,T,T,T,F,F,F,F,T,T,T,T,F,F,F,F,T,T,T,T,F,F,F,F,F,F,F] rfl rfl (take_ofW HT_.out HW_.out z21_0) (fun _ _ _ h=>h) (Or.inl ⟨by rfl,?_⟩) hHeld ?_ ?_
    rotate_left
    ·rintro w' ⟨s0,s1,s2,s3,s4,s5⟩
     go_simp
     with_reducible rfl
    rotate_left
    ·exact acq
    refine one_ (i:=4) (N:=some 37) #[T,T,T,T,T,F,F,F,T,T,T,T,F,F,F,F,T,T,T,T,F,F,F,F,F,F,F] rfl rfl (one_of HT_.out z21_0) (by decide) (fun K hK=>?_)
    refine goes_ Try.func41 z21_0 rfl #[.int .i64 (rd (rd_L1 l0 Aa) 0)] (by rfl) rfl rfl ln_21 ?_
    with_reducible refine(gS.calls (rd (rd_L1 l0 Aa) 0) Cn _ Cw.out).mono ?_
    rintro e Gh ⟨rfl,hb⟩
    refine⟨_,rfl,?_⟩
    replace HB:=Az.mk (bwT bw_21 hb)
    (try clear hb)
    (try clear hb2)
    (try clear hk)
    (try clear hi)
    refine hK.out _ _ ⟨(kc HB Ab),(kc HB Ac),(kc HB Ad),(kc HB Ai),(kc HB Ak),(kc HB Am)⟩ (fun hHeld=>?_)
    clear hK K
    refine norm_ (a':=?_) ?_ ?_
    rotate_left
    ·show Act.put _ (some 37) _=_
     exact acq
    refine pu (i:=5) (N:=some 38) #[T,T,T,T,T,T,F,F,T,T,T,T,F,F,F,F,T,T,T,T,F,F,F,F,F,F,F] (any_of HT_.out z21_0) ?_
    refine pu (i:=6) (N:=some 39) #[T,T,T,T,T,T,T,F,T,T,T,T,F,F,F,F,T,T,T,T,F,F,F,F,F,F,F] (any_of HT_.out z21_0) ?_
    refine take_ (i:=7) (N:=some 40) (v:=?_) (a':=?_) #[T,T,T,T,T,T,T,T,T,T,T,T,F,F,F,F,T,T,T,T,F,F,F,F,F,F,F] rfl rfl (take_ofW HT_.out HW_.out z21_0) (fun _ _ _ h=>h) (Or.inl ⟨by rfl,?_⟩) hHeld ?_ ?_
    rotate_left
    ·rintro w' ⟨s0,s1,s2,s3,s4,s5⟩
     go_simp
     with_reducible rfl
    rotate_left
    ·exact acq
    refine one_ (i:=12) (N:=some 45) #[T,T,T,T,T,T,T,T,T,T,T,T,T,F,F,F,T,T,T,T,F,F,F,F,F,F,F] rfl rfl (one_of HT_.out z21_0) (by decide) (fun K hK=>?_)
    refine goes_ Try.func41 z21_0 rfl #[.int .i64 (rd (rd_L1 l0 Aa) 1)] (by rfl) rfl rfl ln_21 ?_
    with_reducible refine(gS.calls (rd (rd_L1 l0 Aa) 1) Co _ Cz.out).mono ?_
    rintro e Gi ⟨rfl,hb⟩
    refine⟨_,rfl,?_⟩
    replace HB:=Az.mk (bwT bw_21 hb)
    (try clear hb)
    (try clear hb2)
    (try clear hk)
    (try clear hi)
    refine hK.out _ _ ⟨(kc HB Ab),(kc HB Ac),(kc HB Ad),(kc HB Ai),(kc HB Ak),(kc HB Am)⟩ (fun hHeld=>?_)
    clear hK K
    refine norm_ (a':=?_) ?_ ?_
    rotate_left
    ·show Act.put _ (some 45) _=_
     exact acq
    refine pu (i:=13) (N:=some 46) #[T,T,T,T,T,T,T,T,T,T,T,T,T,T,F,F,T,T,T,T,F,F,F,F,F,F,F] (any_of HT_.out z21_0) ?_
    refine pu (i:=14) (N:=some 47) #[T,T,T,T,T,T,T,T,T,T,T,T,T,T,T,F,T,T,T,T,F,F,F,F,F,F,F] (any_of HT_.out z21_0) ?_
    refine take_ (i:=15) (N:=some 48) (v:=?_) (a':=?_) #[T,T,T,T,T,T,T,T,T,T,T,T,T,T,T,T,T,T,T,T,F,F,F,F,F,F,F] rfl rfl (take_ofW HT_.out HW_.out z21_0) (fun _ _ _ h=>h) (Or.inl ⟨by rfl,?_⟩) hHeld ?_ ?_
    rotate_left
    ·rintro w' ⟨s0,s1,s2,s3,s4,s5⟩
     go_simp
     with_reducible rfl
    rotate_left
    ·exact acq
    refine one_ (i:=20) (N:=some 53) #[T,T,T,T,T,T,T,T,T,T,T,T,T,T,T,T,T,T,T,T,T,F,F,F,F,F,F] rfl rfl (one_of HT_.out z21_0) (by decide) (fun K hK=>?_)
    refine goes_ Try.func41 z21_0 rfl #[.int .i64 (rd (rd_L1 l0 Aa) 2)] (by rfl) rfl rfl ln_21 ?_
    with_reducible refine(gS.calls (rd (rd_L1 l0 Aa) 2) Cp _ Dc.out).mono ?_
    rintro e Gj ⟨rfl,hb⟩
    refine⟨_,rfl,?_⟩
    replace HB:=Az.mk (bwT bw_21 hb)
    (try clear hb)
    (try clear hb2)
    (try clear hk)
    (try clear hi)
    refine hK.out _ _ ⟨(kc HB Ab),(kc HB Ac),(kc HB Ad),(kc HB Ai),(kc HB Ak),(kc HB Am)⟩ (fun hHeld=>?_)
    clear hK K
    refine norm_ (a':=?_) ?_ ?_
    rotate_left
    ·show Act.put _ (some 53) _=_
     exact acq
    refine pu (i:=21) (N:=some 54) #[T,T,T,T,T,T,T,T,T,T,T,T,T,T,T,T,T,T,T,T,T,T,F,F,F,F,F] (any_of HT_.out z21_0) ?_
    refine pu (i:=22) (N:=some 55) #[T,T,T,T,T,T,T,T,T,T,T,T,T,T,T,T,T,T,T,T,T,T,T,F,F,F,F] (any_of HT_.out z21_0) ?_
    refine pu (i:=24) (N:=some 7) #[T,T,T,T,T,T,T,T,T,T,T,T,T,T,T,T,T,T,T,T,T,T,T,F,T,F,F] (any_of HT_.out z21_0) ?_
    refine pu (i:=25) (N:=some 8) #[T,T,T,T,T,T,T,T,T,T,T,T,T,T,T,T,T,T,T,T,T,T,T,F,T,T,F] (any_of HT_.out z21_0) ?_
    refine take_ (i:=23) (N:=some 56) (v:=?_) (a':=?_) #[T,T,T,T,T,T,T,T,T,T,T,T,T,T,T,T,T,T,T,T,T,T,T,T,T,T,F] rfl rfl (take_ofW HT_.out HW_.out z21_0) (fun _ _ _ h=>h) (Or.inl ⟨by rfl,?_⟩) hHeld ?_ ?_
    rotate_left
    ·rintro w' ⟨s0,s1,s2,s3,s4,s5⟩
     go_simp
     with_reducible rfl
    rotate_left
    ·exact acq
    refine pu (i:=26) (N:=some 9) #[T,T,T,T,T,T,T,T,T,T,T,T,T,T,T,T,T,T,T,T,T,T,T,T,T,T,T] (any_of HT_.out z21_0) ?_
    refine done_ (done_of HT_.out z21_0) ?_
    try go_wp2
    go_ret
    exact⟨by first|rfl|(simp[eWn,eWs] <;> rfl)|(simp only[←By, ←Bt, ←Bs];first|rfl|(simp[eWn,eWs] <;> rfl))|(simp[*,eWn,eWs] <;> rfl),bw_21⟩
   rw[ig Dd]at H
   have Dl:decide ((wrap64 ((rd l1 (Av))+(rd l1 (Ax))))<(rd l1 (Au)))=false:=decide_eq_false Dd
   clear Dd
   by_cases De:(rd l1 (Av))>(wrap64 ((rd l1 (Au))+(rd l1 (Ax))))
   ·rw[ip De]at H
    have Dm:decide ((wrap64 ((rd l1 (Au))+(rd l1 (Ax))))<(rd l1 (Av)))=true:=ode De
    clear De
    obtain rfl:=Option.some.inj H
    have Bc:0≤(Aa:Int):=od
    have Bd:Aa<(l0.length:Int):=od
    obtain⟨Cr,Cc,Cd,Ce,Ay,Ba,Bb⟩:=at_L1 Cv.out Aa Bc Bd
    cases Ce
    replace Ay:=kc HB Ay
    have Aq:=Az.mk Bb
    have Bz:=Az.mk Ba
    clear Bb Ba
    replace Bc:=ets Bc
    replace Bd:=ets Bd
    try go_wp2
    replace HB:=Az.mk (bwD HB.out)
    have Bf:0≤(0:Int):=(by omega)
    have Bh:0<((rd_L1 l0 Aa).length:Int):=od
    obtain⟨Ap,Cf,Ae⟩:=Kd.at_int Aq.out 0 Bf Bh
    have Ab:=Ae
    (try rw[show((0:Int)).toNat=0 from rfl]at Ab)
    (try rw[show 0*1=0 from rfl]at Ab)
    (try rw[Addr.add_zero']at Ab)
    cases Cf
    have Cs:(0<(rd_L1 l0 Aa).length)=True:=ets (by omega)
    (try rw[show((0:Int)).toNat=0 from rfl]at Ae)
    (try rw[Addr.add_zero']at Ae)
    replace Ae:=kc HB Ae
    replace Bf:=ets Bf
    replace Bh:=ets Bh
    have Bi:0≤(1:Int):=(by omega)
    have Bj:1<((rd_L1 l0 Aa).length:Int):=od
    obtain⟨Bu,Cg,Af⟩:=Kd.at_int Aq.out 1 Bi Bj
    have Ac:=Af
    (try rw[show((1:Int)).toNat=1 from rfl]at Ac)
    (try rw[show 1*1=1 from rfl]at Ac)
    (try simp only[Nat.reduceMul,Nat.reduceEqDiff,Go.Addr.add, ↓reduceIte]at Ac)
    obtain rfl:Ap=Bu:=(by injection Cg)
    (try simp only[show(1:Int).toNat=1 from rfl,Nat.reduceMul,Nat.reduceEqDiff,Go.Addr.add, ↓reduceIte]at Af)
    have Ct:(1<(rd_L1 l0 Aa).length)=True:=ets (by omega)
    (try rw[show((1:Int)).toNat=1 from rfl]at Af)
    replace Af:=kc HB Af
    replace Bi:=ets Bi
    replace Bj:=ets Bj
    have Bk:0≤(2:Int):=(by omega)
    have Bl:2<((rd_L1 l0 Aa).length:Int):=od
    obtain⟨Bv,Ch,Ag⟩:=Kd.at_int Aq.out 2 Bk Bl
    have Ad:=Ag
    (try rw[show((2:Int)).toNat=2 from rfl]at Ad)
    (try rw[show 2*1=2 from rfl]at Ad)
    (try simp only[Nat.reduceMul,Nat.reduceEqDiff,Go.Addr.add, ↓reduceIte]at Ad)
    obtain rfl:Ap=Bv:=(by injection Ch)
    (try simp only[show(2:Int).toNat=2 from rfl,Nat.reduceMul,Nat.reduceEqDiff,Go.Addr.add, ↓reduceIte]at Ag)
    have Cu:(2<(rd_L1 l0 Aa).length)=True:=ets (by omega)
    (try rw[show((2:Int)).toNat=2 from rfl]at Ag)
    replace Ag:=kc HB Ag
    replace Bk:=ets Bk
    replace Bl:=ets Bl
    have Bm:0≤((Au):Int):=od
    have Bn:(Au)<(l1.length:Int):=od
    obtain⟨As,Ci,Ah⟩:=Kd.at_int Cl.out (Au) Bm Bn
    have Ai:=Ah
    cases Ci
    replace Ah:=kc HB Ah
    replace Bm:=ets Bm
    replace Bn:=ets Bn
    have Bo:0≤((Av):Int):=od
    have Bp:(Av)<(l1.length:Int):=od
    obtain⟨Bw,Cj,Aj⟩:=Kd.at_int Cl.out (Av) Bo Bp
    have Ak:=Aj
    obtain rfl:As=Bw:=(by injection Cj)
    replace Aj:=kc HB Aj
    replace Bo:=ets Bo
    replace Bp:=ets Bp
    have Bq:0≤((Ax):Int):=od
    have Br:(Ax)<(l1.length:Int):=od
    obtain⟨Bx,Ck,Al⟩:=Kd.at_int Cl.out (Ax) Bq Br
    have Am:=Al
    obtain rfl:As=Bx:=(by injection Ck)
    replace Al:=kc HB Al
    replace Bq:=ets Bq
    replace Br:=ets Br
    refine start_ (n:=27) (S:=fun w'=>w'.cell? Ap=some (.int .i64 (rd (rd_L1 l0 Aa) 0))∧w'.cell? ⟨Ap.block,Ap.off+1,none⟩=some (.int .i64 (rd (rd_L1 l0 Aa) 1))∧w'.cell? ⟨Ap.block,Ap.off+2,none⟩=some (.int .i64 (rd (rd_L1 l0 Aa) 2))∧w'.cell? (As.add ((Au)).toNat)=some (.int .i64 (rd l1 (Au)))∧w'.cell? (As.add ((Av)).toNat)=some (.int .i64 (rd l1 (Av)))∧w'.cell? (As.add ((Ax)).toNat)=some (.int .i64 (rd l1 (Ax)))) (ds:=[]) #[F,F,F,F,F,F,F,F,F,F,F,F,F,F,F,F,F,F,F,F,F,F,F,F,F,F,F] z21_0 rfl rfl ⟨(kc HB Ab),(kc HB Ac),(kc HB Ad),(kc HB Ai),(kc HB Ak),(kc HB Am)⟩ (fun hHeld=>?_);refine with_tabW fS.tab6 fS.bits6 (fun HT_ HW_=>?_)
    generalize wr.drew=Gk at HB Ae Ah Af Aj Ag Al hHeld ⊢
    refine pu (i:=0) (N:=some 33) #[T,F,F,F,F,F,F,F,F,F,F,F,F,F,F,F,F,F,F,F,F,F,F,F,F,F,F] (any_of HT_.out z21_0) ?_
    refine pu (i:=1) (N:=some 34) #[T,T,F,F,F,F,F,F,F,F,F,F,F,F,F,F,F,F,F,F,F,F,F,F,F,F,F] (any_of HT_.out z21_0) ?_
    refine pu (i:=2) (N:=some 35) #[T,T,T,F,F,F,F,F,F,F,F,F,F,F,F,F,F,F,F,F,F,F,F,F,F,F,F] (any_of HT_.out z21_0) ?_
    refine pu (i:=8) (N:=some 41) #[T,T,T,F,F,F,F,F,T,F,F,F,F,F,F,F,F,F,F,F,F,F,F,F,F,F,F] (any_of HT_.out z21_0) ?_
    refine pu (i:=9) (N:=some 42) #[T,T,T,F,F,F,F,F,T,T,F,F,F,F,F,F,F,F,F,F,F,F,F,F,F,F,F] (any_of HT_.out z21_0) ?_
    refine pu (i:=10) (N:=some 43) #[T,T,T,F,F,F,F,F,T,T,T,F,F,F,F,F,F,F,F,F,F,F,F,F,F,F,F] (any_of HT_.out z21_0) ?_
    refine pu (i:=16) (N:=some 49) #[T,T,T,F,F,F,F,F,T,T,T,F,F,F,F,F,T,F,F,F,F,F,F,F,F,F,F] (any_of HT_.out z21_0) ?_
    refine pu (i:=17) (N:=some 50) #[T,T,T,F,F,F,F,F,T,T,T,F,F,F,F,F,T,T,F,F,F,F,F,F,F,F,F] (any_of HT_.out z21_0) ?_
    refine pu (i:=18) (N:=some 51) #[T,T,T,F,F,F,F,F,T,T,T,F,F,F,F,F,T,T,T,F,F,F,F,F,F,F,F] (any_of HT_.out z21_0) ?_
    refine take_ (i:=3) (N:=some 36) (v:=?_) (a':=?_) #[T,T,T,T,F,F,F,F,T,T,T,F,F,F,F,F,T,T,T,F,F,F,F,F,F,F,F] rfl rfl (take_ofW HT_.out HW_.out z21_0) (fun _ _ _ h=>h) (Or.inl ⟨by rfl,?_⟩) hHeld ?_ ?_
    rotate_left
    ·rintro w' ⟨s0,s1,s2,s3,s4,s5⟩
     go_simp
     with_reducible rfl
    rotate_left
    ·exact acq
    refine take_ (i:=11) (N:=some 44) (v:=?_) (a':=?_) #[T,T,T,T,F,F,F,F,T,T,T,T,F,F,F,F,T,T,T,F,F,F,F,F,F,F,F] rfl rfl (take_ofW HT_.out HW_.out z21_0) (fun _ _ _ h=>h) (Or.inl ⟨by rfl,?_⟩) hHeld ?_ ?_
    rotate_left
    ·rintro w' ⟨s0,s1,s2,s3,s4,s5⟩
     go_simp
     with_reducible rfl
    rotate_left
    ·exact acq
    refine take_ (i:=19) (N:=some 52) (v:=?_) (a':=?_) #[T,T,T,T,F,F,F,F,T,T,T,T,F,F,F,F,T,T,T,T,F,F,F,F,F,F,F] rfl rfl (take_ofW HT_.out HW_.out z21_0) (fun _ _ _ h=>h) (Or.inl ⟨by rfl,?_⟩) hHeld ?_ ?_
    rotate_left
    ·rintro w' ⟨s0,s1,s2,s3,s4,s5⟩
     go_simp
     with_reducible rfl
    rotate_left
    ·exact acq
    refine one_ (i:=4) (N:=some 37) #[T,T,T,T,T,F,F,F,T,T,T,T,F,F,F,F,T,T,T,T,F,F,F,F,F,F,F] rfl rfl (one_of HT_.out z21_0) (by decide) (fun K hK=>?_)
    refine goes_ Try.func41 z21_0 rfl #[.int .i64 (rd (rd_L1 l0 Aa) 0)] (by rfl) rfl rfl ln_21 ?_
    with_reducible refine(gS.calls (rd (rd_L1 l0 Aa) 0) Cn _ Cw.out).mono ?_
    rintro e Gl ⟨rfl,hb⟩
    refine⟨_,rfl,?_⟩
    replace HB:=Az.mk (bwT bw_21 hb)
    (try clear hb)
    (try clear hb2)
    (try clear hk)
    (try clear hi)
    refine hK.out _ _ ⟨(kc HB Ab),(kc HB Ac),(kc HB Ad),(kc HB Ai),(kc HB Ak),(kc HB Am)⟩ (fun hHeld=>?_)
    clear hK K
    refine norm_ (a':=?_) ?_ ?_
    rotate_left
    ·show Act.put _ (some 37) _=_
     exact acq
    refine pu (i:=5) (N:=some 38) #[T,T,T,T,T,T,F,F,T,T,T,T,F,F,F,F,T,T,T,T,F,F,F,F,F,F,F] (any_of HT_.out z21_0) ?_
    refine pu (i:=6) (N:=some 39) #[T,T,T,T,T,T,T,F,T,T,T,T,F,F,F,F,T,T,T,T,F,F,F,F,F,F,F] (any_of HT_.out z21_0) ?_
    refine take_ (i:=7) (N:=some 40) (v:=?_) (a':=?_) #[T,T,T,T,T,T,T,T,T,T,T,T,F,F,F,F,T,T,T,T,F,F,F,F,F,F,F] rfl rfl (take_ofW HT_.out HW_.out z21_0) (fun _ _ _ h=>h) (Or.inl ⟨by rfl,?_⟩) hHeld ?_ ?_
    rotate_left
    ·rintro w' ⟨s0,s1,s2,s3,s4,s5⟩
     go_simp
     with_reducible rfl
    rotate_left
    ·exact acq
    refine one_ (i:=12) (N:=some 45) #[T,T,T,T,T,T,T,T,T,T,T,T,T,F,F,F,T,T,T,T,F,F,F,F,F,F,F] rfl rfl (one_of HT_.out z21_0) (by decide) (fun K hK=>?_)
    refine goes_ Try.func41 z21_0 rfl #[.int .i64 (rd (rd_L1 l0 Aa) 1)] (by rfl) rfl rfl ln_21 ?_
    with_reducible refine(gS.calls (rd (rd_L1 l0 Aa) 1) Co _ Cz.out).mono ?_
    rintro e Gm ⟨rfl,hb⟩
    refine⟨_,rfl,?_⟩
    replace HB:=Az.mk (bwT bw_21 hb)
    (try clear hb)
    (try clear hb2)
    (try clear hk)
    (try clear hi)
    refine hK.out _ _ ⟨(kc HB Ab),(kc HB Ac),(kc HB Ad),(kc HB Ai),(kc HB Ak),(kc HB Am)⟩ (fun hHeld=>?_)
    clear hK K
    refine norm_ (a':=?_) ?_ ?_
    rotate_left
    ·show Act.put _ (some 45) _=_
     exact acq
    refine pu (i:=13) (N:=some 46) #[T,T,T,T,T,T,T,T,T,T,T,T,T,T,F,F,T,T,T,T,F,F,F,F,F,F,F] (any_of HT_.out z21_0) ?_
    refine pu (i:=14) (N:=some 47) #[T,T,T,T,T,T,T,T,T,T,T,T,T,T,T,F,T,T,T,T,F,F,F,F,F,F,F] (any_of HT_.out z21_0) ?_
    refine take_ (i:=15) (N:=some 48) (v:=?_) (a':=?_) #[T,T,T,T,T,T,T,T,T,T,T,T,T,T,T,T,T,T,T,T,F,F,F,F,F,F,F] rfl rfl (take_ofW HT_.out HW_.out z21_0) (fun _ _ _ h=>h) (Or.inl ⟨by rfl,?_⟩) hHeld ?_ ?_
    rotate_left
    ·rintro w' ⟨s0,s1,s2,s3,s4,s5⟩
     go_simp
     with_reducible rfl
    rotate_left
    ·exact acq
    refine one_ (i:=20) (N:=some 53) #[T,T,T,T,T,T,T,T,T,T,T,T,T,T,T,T,T,T,T,T,T,F,F,F,F,F,F] rfl rfl (one_of HT_.out z21_0) (by decide) (fun K hK=>?_)
    refine goes_ Try.func41 z21_0 rfl #[.int .i64 (rd (rd_L1 l0 Aa) 2)] (by rfl) rfl rfl ln_21 ?_
    with_reducible refine(gS.calls (rd (rd_L1 l0 Aa) 2) Cp _ Dc.out).mono ?_
    rintro e Gn ⟨rfl,hb⟩
    refine⟨_,rfl,?_⟩
    replace HB:=Az.mk (bwT bw_21 hb)
    (try clear hb)
    (try clear hb2)
    (try clear hk)
    (try clear hi)
    refine hK.out _ _ ⟨(kc HB Ab),(kc HB Ac),(kc HB Ad),(kc HB Ai),(kc HB Ak),(kc HB Am)⟩ (fun hHeld=>?_)
    clear hK K
    refine norm_ (a':=?_) ?_ ?_
    rotate_left
    ·show Act.put _ (some 53) _=_
     exact acq
    refine pu (i:=21) (N:=some 54) #[T,T,T,T,T,T,T,T,T,T,T,T,T,T,T,T,T,T,T,T,T,T,F,F,F,F,F] (any_of HT_.out z21_0) ?_
    refine pu (i:=22) (N:=some 55) #[T,T,T,T,T,T,T,T,T,T,T,T,T,T,T,T,T,T,T,T,T,T,T,F,F,F,F] (any_of HT_.out z21_0) ?_
    refine pu (i:=24) (N:=some 7) #[T,T,T,T,T,T,T,T,T,T,T,T,T,T,T,T,T,T,T,T,T,T,T,F,T,F,F] (any_of HT_.out z21_0) ?_
    refine pu (i:=25) (N:=some 8) #[T,T,T,T,T,T,T,T,T,T,T,T,T,T,T,T,T,T,T,T,T,T,T,F,T,T,F] (any_of HT_.out z21_0) ?_
    refine take_ (i:=23) (N:=some 56) (v:=?_) (a':=?_) #[T,T,T,T,T,T,T,T,T,T,T,T,T,T,T,T,T,T,T,T,T,T,T,T,T,T,F] rfl rfl (take_ofW HT_.out HW_.out z21_0) (fun _ _ _ h=>h) (Or.inl ⟨by rfl,?_⟩) hHeld ?_ ?_
    rotate_left
    ·rintro w' ⟨s0,s1,s2,s3,s4,s5⟩
     go_simp
     with_reducible rfl
    rotate_left
    ·exact acq
    refine pu (i:=26) (N:=some 9) #[T,T,T,T,T,T,T,T,T,T,T,T,T,T,T,T,T,T,T,T,T,T,T,T,T,T,T] (any_of HT_.out z21_0) ?_
    refine done_ (done_of HT_.out z21_0) ?_
    try go_wp2
    go_ret
    exact⟨by first|rfl|(simp[eWn,eWs] <;> rfl)|(simp only[←By, ←Bt, ←Bs];first|rfl|(simp[eWn,eWs] <;> rfl))|(simp[*,eWn,eWs] <;> rfl),bw_21⟩
   rw[ig De]at H
   have Dm:decide ((wrap64 ((rd l1 (Au))+(rd l1 (Ax))))<(rd l1 (Av)))=false:=decide_eq_false De
   clear De
   by_cases Df:(rd l1 (Ax))>(wrap64 ((rd l1 (Au))+(rd l1 (Av))))
   ·rw[ip Df]at H
    have Dn:decide ((wrap64 ((rd l1 (Au))+(rd l1 (Av))))<(rd l1 (Ax)))=true:=ode Df
    clear Df
    obtain rfl:=Option.some.inj H
    have Bc:0≤(Aa:Int):=od
    have Bd:Aa<(l0.length:Int):=od
    obtain⟨Cr,Cc,Cd,Ce,Ay,Ba,Bb⟩:=at_L1 Cv.out Aa Bc Bd
    cases Ce
    replace Ay:=kc HB Ay
    have Aq:=Az.mk Bb
    have Bz:=Az.mk Ba
    clear Bb Ba
    replace Bc:=ets Bc
    replace Bd:=ets Bd
    try go_wp2
    replace HB:=Az.mk (bwD HB.out)
    have Bf:0≤(0:Int):=(by omega)
    have Bh:0<((rd_L1 l0 Aa).length:Int):=od
    obtain⟨Ap,Cf,Ae⟩:=Kd.at_int Aq.out 0 Bf Bh
    have Ab:=Ae
    (try rw[show((0:Int)).toNat=0 from rfl]at Ab)
    (try rw[show 0*1=0 from rfl]at Ab)
    (try rw[Addr.add_zero']at Ab)
    cases Cf
    have Cs:(0<(rd_L1 l0 Aa).length)=True:=ets (by omega)
    (try rw[show((0:Int)).toNat=0 from rfl]at Ae)
    (try rw[Addr.add_zero']at Ae)
    replace Ae:=kc HB Ae
    replace Bf:=ets Bf
    replace Bh:=ets Bh
    have Bi:0≤(1:Int):=(by omega)
    have Bj:1<((rd_L1 l0 Aa).length:Int):=od
    obtain⟨Bu,Cg,Af⟩:=Kd.at_int Aq.out 1 Bi Bj
    have Ac:=Af
    (try rw[show((1:Int)).toNat=1 from rfl]at Ac)
    (try rw[show 1*1=1 from rfl]at Ac)
    (try simp only[Nat.reduceMul,Nat.reduceEqDiff,Go.Addr.add, ↓reduceIte]at Ac)
    obtain rfl:Ap=Bu:=(by injection Cg)
    (try simp only[show(1:Int).toNat=1 from rfl,Nat.reduceMul,Nat.reduceEqDiff,Go.Addr.add, ↓reduceIte]at Af)
    have Ct:(1<(rd_L1 l0 Aa).length)=True:=ets (by omega)
    (try rw[show((1:Int)).toNat=1 from rfl]at Af)
    replace Af:=kc HB Af
    replace Bi:=ets Bi
    replace Bj:=ets Bj
    have Bk:0≤(2:Int):=(by omega)
    have Bl:2<((rd_L1 l0 Aa).length:Int):=od
    obtain⟨Bv,Ch,Ag⟩:=Kd.at_int Aq.out 2 Bk Bl
    have Ad:=Ag
    (try rw[show((2:Int)).toNat=2 from rfl]at Ad)
    (try rw[show 2*1=2 from rfl]at Ad)
    (try simp only[Nat.reduceMul,Nat.reduceEqDiff,Go.Addr.add, ↓reduceIte]at Ad)
    obtain rfl:Ap=Bv:=(by injection Ch)
    (try simp only[show(2:Int).toNat=2 from rfl,Nat.reduceMul,Nat.reduceEqDiff,Go.Addr.add, ↓reduceIte]at Ag)
    have Cu:(2<(rd_L1 l0 Aa).length)=True:=ets (by omega)
    (try rw[show((2:Int)).toNat=2 from rfl]at Ag)
    replace Ag:=kc HB Ag
    replace Bk:=ets Bk
    replace Bl:=ets Bl
    have Bm:0≤((Au):Int):=od
    have Bn:(Au)<(l1.length:Int):=od
    obtain⟨As,Ci,Ah⟩:=Kd.at_int Cl.out (Au) Bm Bn
    have Ai:=Ah
    cases Ci
    replace Ah:=kc HB Ah
    replace Bm:=ets Bm
    replace Bn:=ets Bn
    have Bo:0≤((Av):Int):=od
    have Bp:(Av)<(l1.length:Int):=od
    obtain⟨Bw,Cj,Aj⟩:=Kd.at_int Cl.out (Av) Bo Bp
    have Ak:=Aj
    obtain rfl:As=Bw:=(by injection Cj)
    replace Aj:=kc HB Aj
    replace Bo:=ets Bo
    replace Bp:=ets Bp
    have Bq:0≤((Ax):Int):=od
    have Br:(Ax)<(l1.length:Int):=od
    obtain⟨Bx,Ck,Al⟩:=Kd.at_int Cl.out (Ax) Bq Br
    have Am:=Al
    obtain rfl:As=Bx:=(by injection Ck)
    replace Al:=kc HB Al
    replace Bq:=ets Bq
    replace Br:=ets Br
    refine start_ (n:=27) (S:=fun w'=>w'.cell? Ap=some (.int .i64 (rd (rd_L1 l0 Aa) 0))∧w'.cell? ⟨Ap.block,Ap.off+1,none⟩=some (.int .i64 (rd (rd_L1 l0 Aa) 1))∧w'.cell? ⟨Ap.block,Ap.off+2,none⟩=some (.int .i64 (rd (rd_L1 l0 Aa) 2))∧w'.cell? (As.add ((Au)).toNat)=some (.int .i64 (rd l1 (Au)))∧w'.cell? (As.add ((Av)).toNat)=some (.int .i64 (rd l1 (Av)))∧w'.cell? (As.add ((Ax)).toNat)=some (.int .i64 (rd l1 (Ax)))) (ds:=[]) #[F,F,F,F,F,F,F,F,F,F,F,F,F,F,F,F,F,F,F,F,F,F,F,F,F,F,F] z21_0 rfl rfl ⟨(kc HB Ab),(kc HB Ac),(kc HB Ad),(kc HB Ai),(kc HB Ak),(kc HB Am)⟩ (fun hHeld=>?_);refine with_tabW fS.tab6 fS.bits6 (fun HT_ HW_=>?_)
    generalize wr.drew=Gp at HB Ae Ah Af Aj Ag Al hHeld ⊢
    refine pu (i:=0) (N:=some 33) #[T,F,F,F,F,F,F,F,F,F,F,F,F,F,F,F,F,F,F,F,F,F,F,F,F,F,F] (any_of HT_.out z21_0) ?_
    refine pu (i:=1) (N:=some 34) #[T,T,F,F,F,F,F,F,F,F,F,F,F,F,F,F,F,F,F,F,F,F,F,F,F,F,F] (any_of HT_.out z21_0) ?_
    refine pu (i:=2) (N:=some 35) #[T,T,T,F,F,F,F,F,F,F,F,F,F,F,F,F,F,F,F,F,F,F,F,F,F,F,F] (any_of HT_.out z21_0) ?_
    refine pu (i:=8) (N:=some 41) #[T,T,T,F,F,F,F,F,T,F,F,F,F,F,F,F,F,F,F,F,F,F,F,F,F,F,F] (any_of HT_.out z21_0) ?_
    refine pu (i:=9) (N:=some 42) #[T,T,T,F,F,F,F,F,T,T,F,F,F,F,F,F,F,F,F,F,F,F,F,F,F,F,F] (any_of HT_.out z21_0) ?_
    refine pu (i:=10) (N:=some 43) #[T,T,T,F,F,F,F,F,T,T,T,F,F,F,F,F,F,F,F,F,F,F,F,F,F,F,F] (any_of HT_.out z21_0) ?_
    refine pu (i:=16) (N:=some 49) #[T,T,T,F,F,F,F,F,T,T,T,F,F,F,F,F,T,F,F,F,F,F,F,F,F,F,F] (any_of HT_.out z21_0) ?_
    refine pu (i:=17) (N:=some 50) #[T,T,T,F,F,F,F,F,T,T,T,F,F,F,F,F,T,T,F,F,F,F,F,F,F,F,F] (any_of HT_.out z21_0) ?_
    refine pu (i:=18) (N:=some 51) #[T,T,T,F,F,F,F,F,T,T,T,F,F,F,F,F,T,T,T,F,F,F,F,F,F,F,F] (any_of HT_.out z21_0) ?_
    refine take_ (i:=3) (N:=some 36) (v:=?_) (a':=?_) #[T,T,T,T,F,F,F,F,T,T,T,F,F,F,F,F,T,T,T,F,F,F,F,F,F,F,F] rfl rfl (take_ofW HT_.out HW_.out z21_0) (fun _ _ _ h=>h) (Or.inl ⟨by rfl,?_⟩) hHeld ?_ ?_
    rotate_left
    ·rintro w' ⟨s0,s1,s2,s3,s4,s5⟩
     go_simp
     with_reducible rfl
    rotate_left
    ·exact acq
    refine take_ (i:=11) (N:=some 44) (v:=?_) (a':=?_) #[T,T,T,T,F,F,F,F,T,T,T,T,F,F,F,F,T,T,T,F,F,F,F,F,F,F,F] rfl rfl (take_ofW HT_.out HW_.out z21_0) (fun _ _ _ h=>h) (Or.inl ⟨by rfl,?_⟩) hHeld ?_ ?_
    rotate_left
    ·rintro w' ⟨s0,s1,s2,s3,s4,s5⟩
     go_simp
     with_reducible rfl
    rotate_left
    ·exact acq
    refine take_ (i:=19) (N:=some 52) (v:=?_) (a':=?_) #[T,T,T,T,F,F,F,F,T,T,T,T,F,F,F,F,T,T,T,T,F,F,F,F,F,F,F] rfl rfl (take_ofW HT_.out HW_.out z21_0) (fun _ _ _ h=>h) (Or.inl ⟨by rfl,?_⟩) hHeld ?_ ?_
    rotate_left
    ·rintro w' ⟨s0,s1,s2,s3,s4,s5⟩
     go_simp
     with_reducible rfl
    rotate_left
    ·exact acq
    refine one_ (i:=4) (N:=some 37) #[T,T,T,T,T,F,F,F,T,T,T,T,F,F,F,F,T,T,T,T,F,F,F,F,F,F,F] rfl rfl (one_of HT_.out z21_0) (by decide) (fun K hK=>?_)
    refine goes_ Try.func41 z21_0 rfl #[.int .i64 (rd (rd_L1 l0 Aa) 0)] (by rfl) rfl rfl ln_21 ?_
    with_reducible refine(gS.calls (rd (rd_L1 l0 Aa) 0) Cn _ Cw.out).mono ?_
    rintro e Gq ⟨rfl,hb⟩
    refine⟨_,rfl,?_⟩
    replace HB:=Az.mk (bwT bw_21 hb)
    (try clear hb)
    (try clear hb2)
    (try clear hk)
    (try clear hi)
    refine hK.out _ _ ⟨(kc HB Ab),(kc HB Ac),(kc HB Ad),(kc HB Ai),(kc HB Ak),(kc HB Am)⟩ (fun hHeld=>?_)
    clear hK K
    refine norm_ (a':=?_) ?_ ?_
    rotate_left
    ·show Act.put _ (some 37) _=_
     exact acq
    refine pu (i:=5) (N:=some 38) #[T,T,T,T,T,T,F,F,T,T,T,T,F,F,F,F,T,T,T,T,F,F,F,F,F,F,F] (any_of HT_.out z21_0) ?_
    refine pu (i:=6) (N:=some 39) #[T,T,T,T,T,T,T,F,T,T,T,T,F,F,F,F,T,T,T,T,F,F,F,F,F,F,F] (any_of HT_.out z21_0) ?_
    refine take_ (i:=7) (N:=some 40) (v:=?_) (a':=?_) #[T,T,T,T,T,T,T,T,T,T,T,T,F,F,F,F,T,T,T,T,F,F,F,F,F,F,F] rfl rfl (take_ofW HT_.out HW_.out z21_0) (fun _ _ _ h=>h) (Or.inl ⟨by rfl,?_⟩) hHeld ?_ ?_
    rotate_left
    ·rintro w' ⟨s0,s1,s2,s3,s4,s5⟩
     go_simp
     with_reducible rfl
    rotate_left
    ·exact acq
    refine one_ (i:=12) (N:=some 45) #[T,T,T,T,T,T,T,T,T,T,T,T,T,F,F,F,T,T,T,T,F,F,F,F,F,F,F] rfl rfl (one_of HT_.out z21_0) (by decide) (fun K hK=>?_)
    refine goes_ Try.func41 z21_0 rfl #[.int .i64 (rd (rd_L1 l0 Aa) 1)] (by rfl) rfl rfl ln_21 ?_
    with_reducible refine(gS.calls (rd (rd_L1 l0 Aa) 1) Co _ Cz.out).mono ?_
    rintro e Gr ⟨rfl,hb⟩
    refine⟨_,rfl,?_⟩
    replace HB:=Az.mk (bwT bw_21 hb)
    (try clear hb)
    (try clear hb2)
    (try clear hk)
    (try clear hi)
    refine hK.out _ _ ⟨(kc HB Ab),(kc HB Ac),(kc HB Ad),(kc HB Ai),(kc HB Ak),(kc HB Am)⟩ (fun hHeld=>?_)
    clear hK K
    refine norm_ (a':=?_) ?_ ?_
    rotate_left
    ·show Act.put _ (some 45) _=_
     exact acq
    refine pu (i:=13) (N:=some 46) #[T,T,T,T,T,T,T,T,T,T,T,T,T,T,F,F,T,T,T,T,F,F,F,F,F,F,F] (any_of HT_.out z21_0) ?_
    refine pu (i:=14) (N:=some 47) #[T,T,T,T,T,T,T,T,T,T,T,T,T,T,T,F,T,T,T,T,F,F,F,F,F,F,F] (any_of HT_.out z21_0) ?_
    refine take_ (i:=15) (N:=some 48) (v:=?_) (a':=?_) #[T,T,T,T,T,T,T,T,T,T,T,T,T,T,T,T,T,T,T,T,F,F,F,F,F,F,F] rfl rfl (take_ofW HT_.out HW_.out z21_0) (fun _ _ _ h=>h) (Or.inl ⟨by rfl,?_⟩) hHeld ?_ ?_
    rotate_left
    ·rintro w' ⟨s0,s1,s2,s3,s4,s5⟩
     go_simp
     with_reducible rfl
    rotate_left
    ·exact acq
    refine one_ (i:=20) (N:=some 53) #[T,T,T,T,T,T,T,T,T,T,T,T,T,T,T,T,T,T,T,T,T,F,F,F,F,F,F] rfl rfl (one_of HT_.out z21_0) (by decide) (fun K hK=>?_)
    refine goes_ Try.func41 z21_0 rfl #[.int .i64 (rd (rd_L1 l0 Aa) 2)] (by rfl) rfl rfl ln_21 ?_
    with_reducible refine(gS.calls (rd (rd_L1 l0 Aa) 2) Cp _ Dc.out).mono ?_
    rintro e Gs ⟨rfl,hb⟩
    refine⟨_,rfl,?_⟩
    replace HB:=Az.mk (bwT bw_21 hb)
    (try clear hb)
    (try clear hb2)
    (try clear hk)
    (try clear hi)
    refine hK.out _ _ ⟨(kc HB Ab),(kc HB Ac),(kc HB Ad),(kc HB Ai),(kc HB Ak),(kc HB Am)⟩ (fun hHeld=>?_)
    clear hK K
    refine norm_ (a':=?_) ?_ ?_
    rotate_left
    ·show Act.put _ (some 53) _=_
     exact acq
    refine pu (i:=21) (N:=some 54) #[T,T,T,T,T,T,T,T,T,T,T,T,T,T,T,T,T,T,T,T,T,T,F,F,F,F,F] (any_of HT_.out z21_0) ?_
    refine pu (i:=22) (N:=some 55) #[T,T,T,T,T,T,T,T,T,T,T,T,T,T,T,T,T,T,T,T,T,T,T,F,F,F,F] (any_of HT_.out z21_0) ?_
    refine pu (i:=24) (N:=some 7) #[T,T,T,T,T,T,T,T,T,T,T,T,T,T,T,T,T,T,T,T,T,T,T,F,T,F,F] (any_of HT_.out z21_0) ?_
    refine pu (i:=25) (N:=some 8) #[T,T,T,T,T,T,T,T,T,T,T,T,T,T,T,T,T,T,T,T,T,T,T,F,T,T,F] (any_of HT_.out z21_0) ?_
    refine take_ (i:=23) (N:=some 56) (v:=?_) (a':=?_) #[T,T,T,T,T,T,T,T,T,T,T,T,T,T,T,T,T,T,T,T,T,T,T,T,T,T,F] rfl rfl (take_ofW HT_.out HW_.out z21_0) (fun _ _ _ h=>h) (Or.inl ⟨by rfl,?_⟩) hHeld ?_ ?_
    rotate_left
    ·rintro w' ⟨s0,s1,s2,s3,s4,s5⟩
     go_simp
     with_reducible rfl
    rotate_left
    ·exact acq
    refine pu (i:=26) (N:=some 9) #[T,T,T,T,T,T,T,T,T,T,T,T,T,T,T,T,T,T,T,T,T,T,T,T,T,T,T] (any_of HT_.out z21_0) ?_
    refine done_ (done_of HT_.out z21_0) ?_
    try go_wp2
    go_ret
    exact⟨by first|rfl|(simp[eWn,eWs] <;> rfl)|(simp only[←By, ←Bt, ←Bs];first|rfl|(simp[eWn,eWs] <;> rfl))|(simp[*,eWn,eWs] <;> rfl),bw_21⟩
   rw[ig Df]at H
   have Dn:decide ((wrap64 ((rd l1 (Au))+(rd l1 (Av))))<(rd l1 (Ax)))=false:=decide_eq_false Df
   clear Df
   have H':=Az.mk H
   clear H
   have Bc:0≤(Aa:Int):=od
   have Bd:Aa<(l0.length:Int):=od
   obtain⟨Cr,Cc,Cd,Ce,Ay,Ba,Bb⟩:=at_L1 Cv.out Aa Bc Bd
   cases Ce
   replace Ay:=kc HB Ay
   have Aq:=Az.mk Bb
   have Bz:=Az.mk Ba
   clear Bb Ba
   replace Bc:=ets Bc
   replace Bd:=ets Bd
   try go_wp2
   replace HB:=Az.mk (bwD HB.out)
   have Bf:0≤(0:Int):=(by omega)
   have Bh:0<((rd_L1 l0 Aa).length:Int):=od
   obtain⟨Ap,Cf,Ae⟩:=Kd.at_int Aq.out 0 Bf Bh
   have Ab:=Ae
   (try rw[show((0:Int)).toNat=0 from rfl]at Ab)
   (try rw[show 0*1=0 from rfl]at Ab)
   (try rw[Addr.add_zero']at Ab)
   cases Cf
   have Cs:(0<(rd_L1 l0 Aa).length)=True:=ets (by omega)
   (try rw[show((0:Int)).toNat=0 from rfl]at Ae)
   (try rw[Addr.add_zero']at Ae)
   replace Ae:=kc HB Ae
   replace Bf:=ets Bf
   replace Bh:=ets Bh
   have Bi:0≤(1:Int):=(by omega)
   have Bj:1<((rd_L1 l0 Aa).length:Int):=od
   obtain⟨Bu,Cg,Af⟩:=Kd.at_int Aq.out 1 Bi Bj
   have Ac:=Af
   (try rw[show((1:Int)).toNat=1 from rfl]at Ac)
   (try rw[show 1*1=1 from rfl]at Ac)
   (try simp only[Nat.reduceMul,Nat.reduceEqDiff,Go.Addr.add, ↓reduceIte]at Ac)
   obtain rfl:Ap=Bu:=(by injection Cg)
   (try simp only[show(1:Int).toNat=1 from rfl,Nat.reduceMul,Nat.reduceEqDiff,Go.Addr.add, ↓reduceIte]at Af)
   have Ct:(1<(rd_L1 l0 Aa).length)=True:=ets (by omega)
   (try rw[show((1:Int)).toNat=1 from rfl]at Af)
   replace Af:=kc HB Af
   replace Bi:=ets Bi
   replace Bj:=ets Bj
   have Bk:0≤(2:Int):=(by omega)
   have Bl:2<((rd_L1 l0 Aa).length:Int):=od
   obtain⟨Bv,Ch,Ag⟩:=Kd.at_int Aq.out 2 Bk Bl
   have Ad:=Ag
   (try rw[show((2:Int)).toNat=2 from rfl]at Ad)
   (try rw[show 2*1=2 from rfl]at Ad)
   (try simp only[Nat.reduceMul,Nat.reduceEqDiff,Go.Addr.add, ↓reduceIte]at Ad)
   obtain rfl:Ap=Bv:=(by injection Ch)
   (try simp only[show(2:Int).toNat=2 from rfl,Nat.reduceMul,Nat.reduceEqDiff,Go.Addr.add, ↓reduceIte]at Ag)
   have Cu:(2<(rd_L1 l0 Aa).length)=True:=ets (by omega)
   (try rw[show((2:Int)).toNat=2 from rfl]at Ag)
   replace Ag:=kc HB Ag
   replace Bk:=ets Bk
   replace Bl:=ets Bl
   have Bm:0≤((Au):Int):=od
   have Bn:(Au)<(l1.length:Int):=od
   obtain⟨As,Ci,Ah⟩:=Kd.at_int Cl.out (Au) Bm Bn
   have Ai:=Ah
   cases Ci
   replace Ah:=kc HB Ah
   replace Bm:=ets Bm
   replace Bn:=ets Bn
   have Bo:0≤((Av):Int):=od
   have Bp:(Av)<(l1.length:Int):=od
   obtain⟨Bw,Cj,Aj⟩:=Kd.at_int Cl.out (Av) Bo Bp
   have Ak:=Aj
   obtain rfl:As=Bw:=(by injection Cj)
   replace Aj:=kc HB Aj
   replace Bo:=ets Bo
   replace Bp:=ets Bp
   have Bq:0≤((Ax):Int):=od
   have Br:(Ax)<(l1.length:Int):=od
   obtain⟨Bx,Ck,Al⟩:=Kd.at_int Cl.out (Ax) Bq Br
   have Am:=Al
   obtain rfl:As=Bx:=(by injection Ck)
   replace Al:=kc HB Al
   replace Bq:=ets Bq
   replace Br:=ets Br
   refine start_ (n:=27) (S:=fun w'=>w'.cell? Ap=some (.int .i64 (rd (rd_L1 l0 Aa) 0))∧w'.cell? ⟨Ap.block,Ap.off+1,none⟩=some (.int .i64 (rd (rd_L1 l0 Aa) 1))∧w'.cell? ⟨Ap.block,Ap.off+2,none⟩=some (.int .i64 (rd (rd_L1 l0 Aa) 2))∧w'.cell? (As.add ((Au)).toNat)=some (.int .i64 (rd l1 (Au)))∧w'.cell? (As.add ((Av)).toNat)=some (.int .i64 (rd l1 (Av)))∧w'.cell? (As.add ((Ax)).toNat)=some (.int .i64 (rd l1 (Ax)))) (ds:=[]) #[F,F,F,F,F,F,F,F,F,F,F,F,F,F,F,F,F,F,F,F,F,F,F,F,F,F,F] z21_0 rfl rfl ⟨(kc HB Ab),(kc HB Ac),(kc HB Ad),(kc HB Ai),(kc HB Ak),(kc HB Am)⟩ (fun hHeld=>?_);refine with_tabW fS.tab6 fS.bits6 (fun HT_ HW_=>?_)
   generalize wr.drew=Gt at HB Ae Ah Af Aj Ag Al hHeld ⊢
   refine pu (i:=0) (N:=some 33) #[T,F,F,F,F,F,F,F,F,F,F,F,F,F,F,F,F,F,F,F,F,F,F,F,F,F,F] (any_of HT_.out z21_0) ?_
   refine pu (i:=1) (N:=some 34) #[T,T,F,F,F,F,F,F,F,F,F,F,F,F,F,F,F,F,F,F,F,F,F,F,F,F,F] (any_of HT_.out z21_0) ?_
   refine pu (i:=2) (N:=some 35) #[T,T,T,F,F,F,F,F,F,F,F,F,F,F,F,F,F,F,F,F,F,F,F,F,F,F,F] (any_of HT_.out z21_0) ?_
   refine pu (i:=8) (N:=some 41) #[T,T,T,F,F,F,F,F,T,F,F,F,F,F,F,F,F,F,F,F,F,F,F,F,F,F,F] (any_of HT_.out z21_0) ?_
   refine pu (i:=9) (N:=some 42) #[T,T,T,F,F,F,F,F,T,T,F,F,F,F,F,F,F,F,F,F,F,F,F,F,F,F,F] (any_of HT_.out z21_0) ?_
   refine pu (i:=10) (N:=some 43) #[T,T,T,F,F,F,F,F,T,T,T,F,F,F,F,F,F,F,F,F,F,F,F,F,F,F,F] (any_of HT_.out z21_0) ?_
   refine pu (i:=16) (N:=some 49) #[T,T,T,F,F,F,F,F,T,T,T,F,F,F,F,F,T,F,F,F,F,F,F,F,F,F,F] (any_of HT_.out z21_0) ?_
   refine pu (i:=17) (N:=some 50) #[T,T,T,F,F,F,F,F,T,T,T,F,F,F,F,F,T,T,F,F,F,F,F,F,F,F,F] (any_of HT_.out z21_0) ?_
   refine pu (i:=18) (N:=some 51) #[T,T,T,F,F,F,F,F,T,T,T,F,F,F,F,F,T,T,T,F,F,F,F,F,F,F,F] (any_of HT_.out z21_0) ?_
   refine take_ (i:=3) (N:=some 36) (v:=?_) (a':=?_) #[T,T,T,T,F,F,F,F,T,T,T,F,F,F,F,F,T,T,T,F,F,F,F,F,F,F,F] rfl rfl (take_ofW HT_.out HW_.out z21_0) (fun _ _ _ h=>h) (Or.inl ⟨by rfl,?_⟩) hHeld ?_ ?_
   rotate_left
   ·rintro w' ⟨s0,s1,s2,s3,s4,s5⟩
    go_simp
    with_reducible rfl
   rotate_left
   ·exact acq
   refine take_ (i:=11) (N:=some 44) (v:=?_) (a':=?_) #[T,T,T,T,F,F,F,F,T,T,T,T,F,F,F,F,T,T,T,F,F,F,F,F,F,F,F] rfl rfl (take_ofW HT_.out HW_.out z21_0) (fun _ _ _ h=>h) (Or.inl ⟨by rfl,?_⟩) hHeld ?_ ?_
   rotate_left
   ·rintro w' ⟨s0,s1,s2,s3,s4,s5⟩
    go_simp
    with_reducible rfl
   rotate_left
   ·exact acq
   refine take_ (i:=19) (N:=some 52) (v:=?_) (a':=?_) #[T,T,T,T,F,F,F,F,T,T,T,T,F,F,F,F,T,T,T,T,F,F,F,F,F,F,F] rfl rfl (take_ofW HT_.out HW_.out z21_0) (fun _ _ _ h=>h) (Or.inl ⟨by rfl,?_⟩) hHeld ?_ ?_
   rotate_left
   ·rintro w' ⟨s0,s1,s2,s3,s4,s5⟩
    go_simp
    with_reducible rfl
   rotate_left
   ·exact acq
   refine one_ (i:=4) (N:=some 37) #[T,T,T,T,T,F,F,F,T,T,T,T,F,F,F,F,T,T,T,T,F,F,F,F,F,F,F] rfl rfl (one_of HT_.out z21_0) (by decide) (fun K hK=>?_)
   refine goes_ Try.func41 z21_0 rfl #[.int .i64 (rd (rd_L1 l0 Aa) 0)] (by rfl) rfl rfl ln_21 ?_
   with_reducible refine(gS.calls (rd (rd_L1 l0 Aa) 0) Cn _ Cw.out).mono ?_
   rintro e Gu ⟨rfl,hb⟩
   refine⟨_,rfl,?_⟩
   replace HB:=Az.mk (bwT bw_21 hb)
   (try clear hb)
   (try clear hb2)
   (try clear hk)
   (try clear hi)
   refine hK.out _ _ ⟨(kc HB Ab),(kc HB Ac),(kc HB Ad),(kc HB Ai),(kc HB Ak),(kc HB Am)⟩ (fun hHeld=>?_)
   clear hK K
   refine norm_ (a':=?_) ?_ ?_
   rotate_left
   ·show Act.put _ (some 37) _=_
    exact acq
   refine pu (i:=5) (N:=some 38) #[T,T,T,T,T,T,F,F,T,T,T,T,F,F,F,F,T,T,T,T,F,F,F,F,F,F,F] (any_of HT_.out z21_0) ?_
   refine pu (i:=6) (N:=some 39) #[T,T,T,T,T,T,T,F,T,T,T,T,F,F,F,F,T,T,T,T,F,F,F,F,F,F,F] (any_of HT_.out z21_0) ?_
   refine take_ (i:=7) (N:=some 40) (v:=?_) (a':=?_) #[T,T,T,T,T,T,T,T,T,T,T,T,F,F,F,F,T,T,T,T,F,F,F,F,F,F,F] rfl rfl (take_ofW HT_.out HW_.out z21_0) (fun _ _ _ h=>h) (Or.inl ⟨by rfl,?_⟩) hHeld ?_ ?_
   rotate_left
   ·rintro w' ⟨s0,s1,s2,s3,s4,s5⟩
    go_simp
    with_reducible rfl
   rotate_left
   ·exact acq
   refine one_ (i:=12) (N:=some 45) #[T,T,T,T,T,T,T,T,T,T,T,T,T,F,F,F,T,T,T,T,F,F,F,F,F,F,F] rfl rfl (one_of HT_.out z21_0) (by decide) (fun K hK=>?_)
   refine goes_ Try.func41 z21_0 rfl #[.int .i64 (rd (rd_L1 l0 Aa) 1)] (by rfl) rfl rfl ln_21 ?_
   with_reducible refine(gS.calls (rd (rd_L1 l0 Aa) 1) Co _ Cz.out).mono ?_
   rintro e Gv ⟨rfl,hb⟩
   refine⟨_,rfl,?_⟩
   replace HB:=Az.mk (bwT bw_21 hb)
   (try clear hb)
   (try clear hb2)
   (try clear hk)
   (try clear hi)
   refine hK.out _ _ ⟨(kc HB Ab),(kc HB Ac),(kc HB Ad),(kc HB Ai),(kc HB Ak),(kc HB Am)⟩ (fun hHeld=>?_)
   clear hK K
   refine norm_ (a':=?_) ?_ ?_
   rotate_left
   ·show Act.put _ (some 45) _=_
    exact acq
   refine pu (i:=13) (N:=some 46) #[T,T,T,T,T,T,T,T,T,T,T,T,T,T,F,F,T,T,T,T,F,F,F,F,F,F,F] (any_of HT_.out z21_0) ?_
   refine pu (i:=14) (N:=some 47) #[T,T,T,T,T,T,T,T,T,T,T,T,T,T,T,F,T,T,T,T,F,F,F,F,F,F,F] (any_of HT_.out z21_0) ?_
   refine take_ (i:=15) (N:=some 48) (v:=?_) (a':=?_) #[T,T,T,T,T,T,T,T,T,T,T,T,T,T,T,T,T,T,T,T,F,F,F,F,F,F,F] rfl rfl (take_ofW HT_.out HW_.out z21_0) (fun _ _ _ h=>h) (Or.inl ⟨by rfl,?_⟩) hHeld ?_ ?_
   rotate_left
   ·rintro w' ⟨s0,s1,s2,s3,s4,s5⟩
    go_simp
    with_reducible rfl
   rotate_left
   ·exact acq
   refine one_ (i:=20) (N:=some 53) #[T,T,T,T,T,T,T,T,T,T,T,T,T,T,T,T,T,T,T,T,T,F,F,F,F,F,F] rfl rfl (one_of HT_.out z21_0) (by decide) (fun K hK=>?_)
   refine goes_ Try.func41 z21_0 rfl #[.int .i64 (rd (rd_L1 l0 Aa) 2)] (by rfl) rfl rfl ln_21 ?_
   with_reducible refine(gS.calls (rd (rd_L1 l0 Aa) 2) Cp _ Dc.out).mono ?_
   rintro e Gw ⟨rfl,hb⟩
   refine⟨_,rfl,?_⟩
   replace HB:=Az.mk (bwT bw_21 hb)
   (try clear hb)
   (try clear hb2)
   (try clear hk)
   (try clear hi)
   refine hK.out _ _ ⟨(kc HB Ab),(kc HB Ac),(kc HB Ad),(kc HB Ai),(kc HB Ak),(kc HB Am)⟩ (fun hHeld=>?_)
   clear hK K
   refine norm_ (a':=?_) ?_ ?_
   rotate_left
   ·show Act.put _ (some 53) _=_
    exact acq
   refine pu (i:=21) (N:=some 54) #[T,T,T,T,T,T,T,T,T,T,T,T,T,T,T,T,T,T,T,T,T,T,F,F,F,F,F] (any_of HT_.out z21_0) ?_
   refine pu (i:=22) (N:=some 55) #[T,T,T,T,T,T,T,T,T,T,T,T,T,T,T,T,T,T,T,T,T,T,T,F,F,F,F] (any_of HT_.out z21_0) ?_
   refine pu (i:=24) (N:=some 7) #[T,T,T,T,T,T,T,T,T,T,T,T,T,T,T,T,T,T,T,T,T,T,T,F,T,F,F] (any_of HT_.out z21_0) ?_
   refine pu (i:=25) (N:=some 8) #[T,T,T,T,T,T,T,T,T,T,T,T,T,T,T,T,T,T,T,T,T,T,T,F,T,T,F] (any_of HT_.out z21_0) ?_
   refine take_ (i:=23) (N:=some 56) (v:=?_) (a':=?_) #[T,T,T,T,T,T,T,T,T,T,T,T,T,T,T,T,T,T,T,T,T,T,T,T,T,T,F] rfl rfl (take_ofW HT_.out HW_.out z21_0) (fun _ _ _ h=>h) (Or.inl ⟨by rfl,?_⟩) hHeld ?_ ?_
   rotate_left
   ·rintro w' ⟨s0,s1,s2,s3,s4,s5⟩
    go_simp
    with_reducible rfl
   rotate_left
   ·exact acq
   refine pu (i:=26) (N:=some 9) #[T,T,T,T,T,T,T,T,T,T,T,T,T,T,T,T,T,T,T,T,T,T,T,T,T,T,T] (any_of HT_.out z21_0) ?_
   refine done_ (done_of HT_.out z21_0) ?_
   try go_wp2
   go_roundg k2
   case measure=>have:=Eg.out;have:=HK2.out;omega
   case rel=>exact⟨(wrap64 (Aa+1)),rq2,H',⟨by have:=Eg.out;have:=HK2.out;omega⟩,⟨bw_21⟩⟩
end
section
open Bool renaming true → T, false → F
theorem z22_1 {p:Prop} (h:p:=by simp only[List.map_toArray,List.map_cons,List.map_nil,List.append_toArray,List.cons_append,List.nil_append];first|done|rfl):p:=h
theorem z22_0 {p:Prop} (h:p:=by kernel_rfl):p:=h
theorem goesF_ {P:Program}{ops:Array Oper}{Q:Exit→Act→World→Prop}{oi:Oper}{N:Option Tmp}{a:Act}{w:World}{K:Act→World→Prop}{f:FuncId}{fn:Func}{ars:Array Operand}{ts:Array TypeId}{c:Operand}{caps:Array Value} (hf:P.funcs[f]?= some fn) (hname:(fn.name== "runtime.NumGoroutine")=false) (hb:fn.body.isSome=true) (args:Array Value)
  (hw:Region.wanted oi (yielded ops a.tmps)=true) (hN:oi.dst=N) (hop:oi.op= .call { callee:= .value c,args:=ars,argTypes:=ts }) (hc:a.eval c= .func (.func f) #[] caps) (hargs:ars.map a.eval ++ caps=args)
  (h:Calls P f args w fun e w'=>∃v,e= .returned v∧K (a.put N v) w'):if Region.wanted oi (yielded ops a.tmps)=true then Oper.wp P oi a w K Q else K (a.put N undef) w:=by
 refine call_ f args hw hN ?_ h
 have he:=enters_ hf hname hb args w
 unfold execOp
 simp[hop,resolve,Deferred.ofValue,invoke,hc,hargs,he]
theorem rd_set_self {out:List Int}{Z V:Int} (h0:0≤Z) (h1:Z<(out.length:Int)):rd (out.set Z.toNat V) Z=V:=by
 unfold rd
 rw[List.getD_eq_getElem?_getD,List.getElem?_set_self (by omega)]
 rfl
theorem fc_some {w:World}{base:Nat}{ok:Nat→Prop}{A:Option Addr}{n c:Nat}{out:List Int} (HO:Kd.R (Kd.int .i64) 3 w base ok (.slice A n c) out){Z:Int} (h0:0≤Z) (h1:Z<(out.length:Int)):∃g:Nat,A=some ⟨g,0,none⟩:=by
 obtain⟨g,cap,eg,_⟩:=Kd.R_form HO (by omega)
 injection eg with ea en ec
 exact⟨g,ea⟩
theorem fc_at {w:World}{base:Nat}{ok:Nat→Prop}{g n c:Nat}{out:List Int}{w0:World} (HO:Kd.R (Kd.int .i64) 3 w base ok (.slice (some ⟨g,0,none⟩) n c) out) (HB:Below base w0 w){Z:Int} (h0:0≤Z) (h1:Z<(out.length:Int)):
  w.cell? ⟨g,Z.toNat,none⟩=some (.int .i64 (rd out Z))∧w.frozen? ⟨g,Z.toNat,none⟩=false∧(Z<(n:Int))∧Az (∀W v,Drawn0 w W→Kd.R (Kd.int .i64) 3 (W.setCell ⟨g,Z.toNat,none⟩ (.int .i64 v)) base ok (.slice (some ⟨g,0,none⟩) n c) (out.set Z.toNat v)∧Below base w0 (W.setCell ⟨g,Z.toNat,none⟩ (.int .i64 v))):=by
 have hn:=(Kd.R_reads' HO).1
 obtain⟨g',cap,eg,hg1,_⟩:=Kd.R_form HO (by omega)
 injection eg with ea en ec
 injection ea with ea
 injection ea with ea
 subst ea
 obtain⟨hx,hf⟩:=Kd.R_celln 0 HO Z h0 (by omega)
 refine⟨hx,hf,by omega,⟨?_⟩⟩
 rintro W v ⟨m,rfl⟩
 exact⟨(Kd.R_putg (Kd.R_drewN HO m) Z v).1,(pbN HB m).setCell hg1 _⟩
theorem flip_new (w:World) (v:Value) (t:TypeId):(w.alloc (.cells #[v] t)).cell? ⟨w.heap.size,0,none⟩=some v:=by
 have h:=cell_one_new w v t 0 v rfl
 exact h
theorem size_stay (a0:Int) (r:Int) (w:World) (h:gS.f a0=some r):
  Calls Try.prog 41 #[.int .i64 a0] w fun e w'=>e= .returned (.int .i64 r)∧w'=w:=by
 have H:(some (mx a0 (wrap64 (-a0))))=some r:=h
 clear h
 obtain⟨Ab,Aa⟩:∃j_:Int,(mx a0 (wrap64 (-a0)))=j_:=⟨_,rfl⟩
 replace H:(some Ab)=some r:=by first|(rw[Aa]at H;exact H)|(simp only[Aa]at H ⊢;exact H)
 have hji2_:(if a0<(wrap64 (-a0)) then(wrap64 (-a0))else a0)=Ab:=Aa
 obtain rfl:=Option.some.inj H
 go_enter Try.func41,Try.ntmps41
 go_wp2
 go_ret
 exact⟨by first|rfl|(simp[eWn,eWs] <;> rfl)|(simp only[←Aa];first|rfl|(simp[eWn,eWs] <;> rfl))|(simp[*,eWn,eWs] <;> rfl),rfl⟩
def flipNum.f (l1:List Int) (s:Int):Option Int:=(gS.f s).bind fun z=>if 0≤wrap64 (z - 1) then(if wrap64 (z - 1)<(l1.length:Int)then some (rd l1 (wrap64 (z - 1)))else none)else none
theorem flipNum.calls (i:Int) (p1:Addr) (A1:Option Addr) (c1:Nat) (l1:List Int) (r:Int) (w:World) (h1:w.cell? p1=some (.slice A1 l1.length c1)) (Aa:Kd.C (Kd.int .i64) w A1 l1.length l1) (h:flipNum.f l1 i=some r):
  Calls Try.prog 40 #[.int .i64 i, .pointer (some p1)] w fun e w'=>e= .returned (.int .i64 r)∧Drawn0 w w':=by
 have Ab:=Az.mk Aa
 clear Aa
 unfold flipNum.f at h
 replace h:=be.mp h
 obtain⟨s,hs,h⟩:=h
 by_cases b5:0≤wrap64 (s - 1)
 rotate_left
 ·rw[ig b5]at h;exact absurd h (by simp)
 rw[ip b5]at h
 by_cases b6:wrap64 (s - 1)<(l1.length:Int)
 rotate_left
 ·rw[ig b6]at h;exact absurd h (by simp)
 rw[ip b6]at h
 obtain rfl:=Option.some.inj h
 obtain⟨Ad,rfl,Ac⟩:=Kd.at_int Ab.out (wrap64 (s - 1)) b5 b6
 have SS:=Az.mk hs
 clear hs
 obtain⟨Z,hZ⟩:∃j_:Int,wrap64 (s - 1)=j_:=⟨_,rfl⟩
 have hZw:(IntKind.i64.wrap (s - 1))=Z:=(i64_w _).trans hZ
 rw[hZ]at b5 b6 Ac
 replace b5:=ets b5
 replace b6:=ets b6
 go_enter Try.func40,Try.ntmps40
 go_wp2
 go_quiet ((go_at_call 41;refine Calls.quiet_of_same (size_stay i s _ SS.out)))
 go_wp2
 go_ret
 exact⟨by rw[hZ];rfl,⟨⟨_,rfl⟩⟩⟩
def fP.g (l1:List Int) (a2:Int) (one two out:List Int):Option (List Int × Bool):=if 2<(one.length:Int) then(if 2<(two.length:Int) then((flipNum.f l1 (rd one 1)).bind fun n1=>((flipNum.f l1 (rd two 1)).bind fun n2=>((flipNum.f l1 (rd one 2)).bind fun n3=>((flipNum.f l1 (rd two 2)).bind fun n4=>(if 0≤wrap64 (a2 - 1) then(if wrap64 (a2 - 1)<(l1.length:Int) then(if wrap64 (a2 - 1)<(out.length:Int) then(if wrap64 (mx (wrap64 (n1+n2)) (wrap64 (n3+n4)) - rd l1 (wrap64 (a2 - 1)))>200 then some (([]:List Int),false)else some (out.set (wrap64 (a2 - 1)).toNat (wrap64 (mx (wrap64 (n1+n2)) (wrap64 (n3+n4)) - rd l1 (wrap64 (a2 - 1)))),true))else none)else none)else none)))))else none)else none
def fP.f (k:Nat) (l0:List (List Int)) (l1:List Int) (a2:Int):Option (List Int × Bool):=(gT.f k l0 a2).bind fun b1=>(if b1=true then((fS.f k l0 l1).bind fun b2=>(if b2=true then((gP.f k l0 a2).bind fun s=>((gP.f k l0 (wrap64 (-a2))).bind fun o=>(if 0≤s.1 then(if s.1<(l0.length:Int) then(if 0≤o.1 then(if o.1<(l0.length:Int) then((gU.f (rd_L1 l0 s.1) s.2).bind fun one=>((gU.f (rd_L1 l0 o.1) o.2).bind fun two=>((jL.f l1).bind fun out=>(fP.g l1 a2 one two out))))else none)else none)else none)else none)))else some (([]:List Int),false)))else some (([]:List Int),false))
def fP.T5:Bool × List (List Nat × List Nat):=(true,[([],[]),([],[]),([0,1],[0,1]),([2],[2]),([],[]),([3,4],[3,4]),([],[]),([],[]),([6,7],[6,7]),([8],[8]),([],[]),([9,10,5],[9,10]),([5,11,0,1,2,3,4,5],[5]),([11,12,0,1,2,3,4,5,6,7,8,9,10,11,12],[11])])
def fP.B5:List Nat:=[0,0,3,7,0,31,0,0,192,448,0,2047,4095,8191]
theorem fP.tab5:rtab .any (opsOf Try.f8 5)=fP.T5:=by kernel_rfl
theorem fP.bits5:waitsOk fP.T5.2 fP.B5=true:=by kernel_rfl
def fP.T8:Bool × List (List Nat × List Nat):=(true,[([],[]),([],[]),([1],[1]),([],[]),([],[]),([4],[4]),([5],[5]),([3,6],[3,6]),([],[]),([],[]),([9],[9]),([10],[10]),([8,11,7],[8,11]),([7,12],[7,12]),([],[]),([],[]),([15],[15]),([16],[16]),([14,17,12],[14,17]),([],[]),([],[]),([20],[20]),([21],[21]),([19,22,18],[19,22]),([18,23],[18,23]),([13,24],[13,24]),([],[]),([],[]),([27],[27]),([26,28],[26,28]),([29],[29]),([25,30],[25,30]),([0,2,0,1,2,3,4,5,6,7,8,9,10,11,12,13,14,15,16,17,18,19,20,21,22,23,24,25,26,27,28,29,30,31],[0,2]),([32,31,23,0,1,2,3,4,5,6,7,8,9,10,11,12,13,14,15,16,17,18,19,20,21,22,23,24,25,26,27,28,29,30,31],[31,32])])
def fP.B8:List Nat:=[0,0,2,0,0,16,48,120,0,0,512,1536,4088,8184,0,0,32768,98304,253944,0,0,1048576,3145728,8380408,16769016,33554424,0,0,134217728,469762048,1006632960,2147483640,4294967295,8589934591]
theorem fP.tab8:rtab .any (opsOf Try.f8 8)=fP.T8:=by kernel_rfl
theorem fP.bits8:waitsOk fP.T8.2 fP.B8=true:=by kernel_rfl
set_option maxHeartbeats 16000000 in
theorem fP.calls (k:Nat) (A0:Option Addr) (c0:Nat) (l0:List (List Int)) (A1:Option Addr) (c1:Nat) (l1:List Int) (a2:Int) (r1:List Int) (r2:Bool) (w:World) (Al:Kd.C (Kd.slice 3 (Kd.int .i64)) w A0 l0.length l0) (Am:l0.length≤c0) (Ap:Kd.C (Kd.int .i64) w A1 l1.length l1) (Aq:l1.length≤c1) (h:fP.f k l0 l1 a2=some (r1,r2)):
  Calls Try.prog 8 #[.slice A0 l0.length c0, .slice A1 l1.length c1, .int .i64 a2] w fun e w'=>∃v0_:Value,e= .returned (.tuple #[v0_, .bool r2])∧Kd.R (Kd.int .i64) 3 w' w.heap.size (fun _=>True) v0_ r1∧Below w.heap.size w w':=by
 have Ae:=Az.mk Am
 have HXC:=Az.mk Aq
 obtain⟨W0,hW0⟩:∃v,w.alloc (.cells #[.slice A1 l1.length c1] 25)=v:=⟨_,rfl⟩
 have HB0:Az (Below w.heap.size w W0):=⟨by rw[←hW0];exact(Below.refl _ _).alloc (Nat.le_refl _) _⟩
 have Ab:Az (Kd.C (Kd.slice 3 (Kd.int .i64)) W0 A0 l0.length l0):=⟨by rw[←hW0];exact Kd.C_alloc Al _⟩
 have HX:Az (Kd.C (Kd.int .i64) W0 A1 l1.length l1):=⟨by rw[←hW0];exact Kd.C_alloc Ap _⟩
 have Aa:W0.cell? ⟨w.heap.size,0,none⟩=some (.slice A1 l1.length c1):=by rw[←hW0];exact flip_new _ _ _
 clear Am Aq Al Ap
 obtain⟨r,hr⟩:∃r_:List Int × Bool,(r1,r2)=r_:=⟨_,rfl⟩
 have HR:=Az.mk hr
 rw[hr]at h
 clear hr
 unfold fP.f at h
 replace h:=be.mp h
 obtain⟨b1,T1,h⟩:=h
 have T1:=Az.mk T1
 by_cases p1:b1=true
 rotate_left
 ·rw[ig p1]at h
  replace p1:=Bool.eq_false_iff.mpr p1
  subst p1
  obtain rfl:=Option.some.inj h
  obtain⟨rfl,rfl⟩:=Prod.mk.injEq .. ▸ HR.out
  go_enter Try.func8,Try.ntmps8
  go_wp2_with (first
   |(go_at_call 20;refine(gT.calls k _ c0 l0 a2 false _ (by first|exact Kd.C_drewN Ab.out _|exact Ab.out) Ae.out T1.out).mono ?_;rintro e W1 ⟨rfl,hb⟩;have HB1:=Az.mk (bwT (by first|exact Below.refl _ _|exact pbN (Below.refl _ _) _) hb);have Ac:=(HB1.out.cell (World.block_lt_of_cell? W0 _ Aa)).trans Aa;clear hb T1))
  go_ret2
  exact⟨_,rfl,Kd.R_nil _ _ _ _ _,by first|exact bwT HB0.out HB1.out|exact pbN (bwT HB0.out HB1.out) _⟩
 subst p1
 rw[ip rfl]at h
 replace h:=be.mp h
 obtain⟨b2,T2,h⟩:=h
 have T2:=Az.mk T2
 by_cases p2:b2=true
 rotate_left
 ·rw[ig p2]at h
  replace p2:=Bool.eq_false_iff.mpr p2
  subst p2
  obtain rfl:=Option.some.inj h
  obtain⟨rfl,rfl⟩:=Prod.mk.injEq .. ▸ HR.out
  go_enter Try.func8,Try.ntmps8
  go_wp2_with (first
   |(go_at_call 20;refine(gT.calls k _ c0 l0 a2 true _ (by first|exact Kd.C_drewN Ab.out _|exact Ab.out) Ae.out T1.out).mono ?_;rintro e W1 ⟨rfl,hb⟩;have HB1:=Az.mk (bwT (by first|exact Below.refl _ _|exact pbN (Below.refl _ _) _) hb);have Ac:=(HB1.out.cell (World.block_lt_of_cell? W0 _ Aa)).trans Aa;clear hb T1)
   |(go_at_call 39;refine(fS.calls k _ c0 l0 A1 c1 l1 false _ (by first|exact Kd.C_drewN (Kd.C_below Ab.out HB1.out) _|exact Kd.C_below Ab.out HB1.out) Ae.out (by first|exact Kd.C_drewN (Kd.C_below HX.out HB1.out) _|exact Kd.C_below HX.out HB1.out) HXC.out T2.out).mono ?_;rintro e W2 ⟨rfl,hb⟩;have HB2:=Az.mk (bwT (by first|exact pbN HB1.out _|exact HB1.out) hb);clear hb T2 Ac;have Ac:=(HB2.out.cell (World.block_lt_of_cell? W0 _ Aa)).trans Aa))
  go_ret2
  exact⟨_,rfl,Kd.R_nil _ _ _ _ _,by first|exact bwT HB0.out HB2.out|exact pbN (bwT HB0.out HB2.out) _⟩
 subst p2
 rw[ip rfl]at h
 replace h:=be.mp h
 obtain⟨⟨s1,s2⟩,T3,h⟩:=h
 replace h:=be.mp h
 obtain⟨⟨o1,o2⟩,T4,h⟩:=h
 have T3:=Az.mk T3
 have T4:=Az.mk T4
 dsimp only at h
 by_cases q1:0≤s1
 rotate_left
 ·rw[ig q1]at h
  exact absurd h (by simp)
 rw[ip q1]at h
 by_cases q2:s1<(l0.length:Int)
 rotate_left
 ·rw[ig q2]at h
  exact absurd h (by simp)
 rw[ip q2]at h
 by_cases q3:0≤o1
 rotate_left
 ·rw[ig q3]at h
  exact absurd h (by simp)
 rw[ip q3]at h
 by_cases q4:o1<(l0.length:Int)
 rotate_left
 ·rw[ig q4]at h
  exact absurd h (by simp)
 rw[ip q4]at h
 replace h:=be.mp h
 obtain⟨one,T5,h⟩:=h
 replace h:=be.mp h
 obtain⟨two,T6,h⟩:=h
 replace h:=be.mp h
 obtain⟨out,T7,h⟩:=h
 have T5:=Az.mk T5
 have T6:=Az.mk T6
 have T7:=Az.mk T7
 have H':=Az.mk h
 clear h
 obtain⟨Ak,Ar1,cr1,ea1,Af,As,Au⟩:=at_L1 Ab.out s1 q1 q2
 obtain⟨ad1',Ar2,cr2,ea2,Ag,Av,Ax⟩:=at_L1 Ab.out o1 q3 q4
 subst ea1
 obtain rfl:Ak=ad1':=(by injection ea2)
 have HRr1:=Az.mk Au
 have HCr1:=Az.mk As
 have HRr2:=Az.mk Ax
 have HCr2:=Az.mk Av
 clear Au As Ax Av ea2
 replace q1:=ets q1
 replace q2:=ets q2
 replace q3:=ets q3
 replace q4:=ets q4
 go_enter Try.func8,Try.ntmps8
 go_wp2_with (first
  |(go_at_call 20;refine(gT.calls k _ c0 l0 a2 true _ (by first|exact Kd.C_drewN Ab.out _|exact Ab.out) Ae.out T1.out).mono ?_;rintro e W1 ⟨rfl,hb⟩;have HB1:=Az.mk (bwT (by first|exact Below.refl _ _|exact pbN (Below.refl _ _) _) hb);have Ac:=(HB1.out.cell (World.block_lt_of_cell? W0 _ Aa)).trans Aa;clear hb T1)
  |(go_at_call 39;refine(fS.calls k _ c0 l0 A1 c1 l1 true _ (by first|exact Kd.C_drewN (Kd.C_below Ab.out HB1.out) _|exact Kd.C_below Ab.out HB1.out) Ae.out (by first|exact Kd.C_drewN (Kd.C_below HX.out HB1.out) _|exact Kd.C_below HX.out HB1.out) HXC.out T2.out).mono ?_;rintro e W2 ⟨rfl,hb⟩;have HB2:=Az.mk (bwT (by first|exact pbN HB1.out _|exact HB1.out) hb);clear hb T2 Ac;have Ac:=(HB2.out.cell (World.block_lt_of_cell? W0 _ Aa)).trans Aa)
  |(go_at_call 33;refine(gP.calls k _ c0 l0 a2 s1 s2 _ (by first|exact Kd.C_drewN (Kd.C_below Ab.out HB2.out) _|exact Kd.C_below Ab.out HB2.out) Ae.out T3.out).mono ?_;rintro e W3 ⟨rfl,hd⟩;have hb:=Drawn0.below hd;clear hd;have HB3:=Az.mk (bwT (by first|exact pbN HB2.out _|exact HB2.out) hb);clear hb T3 HB2)
  |(go_at_call 33;refine(gP.calls k _ c0 l0 (wrap64 (-a2)) o1 o2 _ (by first|exact Kd.C_drewN (Kd.C_below Ab.out HB3.out) _|exact Kd.C_below Ab.out HB3.out) Ae.out T4.out).mono ?_;rintro e W4 ⟨rfl,hd⟩;have hb:=Drawn0.below hd;clear hd;have HB:=Az.mk (bwT (by first|exact pbN HB3.out _|exact HB3.out) hb);clear hb T4 HB3))
 refine start_ (n:=14) (S:=fun w'=>w'.cell? (Ak.add s1.toNat)=some (.slice Ar1 (rd_L1 l0 s1).length cr1)∧w'.cell? (Ak.add o1.toNat)=some (.slice Ar2 (rd_L1 l0 o1).length cr2)) (ds:=[]) #[F,F,F,F,F,F,F,F,F,F,F,F,F,F] z22_0 rfl rfl ⟨(HB.out.cell (World.block_lt_of_cell? W0 _ Af)).trans Af,(HB.out.cell (World.block_lt_of_cell? W0 _ Ag)).trans Ag⟩ (fun hHeld=>?_)
 refine with_tabW fP.tab5 fP.bits5 (fun HT_ HW_=>?_)
 have HBn:=Az.mk (bwD HB.out)
 clear HB
 have HB:=HBn
 clear HBn
 generalize W4.drew=W4d at HB hHeld ⊢
 refine pu (i:=0) (N:=some 39) #[T,F,F,F,F,F,F,F,F,F,F,F,F,F] (any_of HT_.out z22_0) ?_
 refine pu (i:=1) (N:=some 40) #[T,T,F,F,F,F,F,F,F,F,F,F,F,F] (any_of HT_.out z22_0) ?_
 refine pu (i:=2) (N:=some 41) #[T,T,T,F,F,F,F,F,F,F,F,F,F,F] (any_of HT_.out z22_0) ?_
 refine pu (i:=4) (N:=some 43) #[T,T,T,F,T,F,F,F,F,F,F,F,F,F] (any_of HT_.out z22_0) ?_
 refine pu (i:=6) (N:=some 45) #[T,T,T,F,T,F,T,F,F,F,F,F,F,F] (any_of HT_.out z22_0) ?_
 refine pu (i:=7) (N:=some 46) #[T,T,T,F,T,F,T,T,F,F,F,F,F,F] (any_of HT_.out z22_0) ?_
 refine pu (i:=8) (N:=some 47) #[T,T,T,F,T,F,T,T,T,F,F,F,F,F] (any_of HT_.out z22_0) ?_
 refine pu (i:=10) (N:=some 49) #[T,T,T,F,T,F,T,T,T,F,T,F,F,F] (any_of HT_.out z22_0) ?_
 refine take_ (i:=3) (N:=some 42) (v:=?_) (a':=?_) #[T,T,T,T,T,F,T,T,T,F,T,F,F,F] rfl rfl (take_ofW HT_.out HW_.out z22_0) (fun _ _ _ h=>h) (Or.inl ⟨by rfl,?_⟩) hHeld ?_ ?_
 rotate_left
 ·rintro w' ⟨s0,s1⟩
  go_simp
  with_reducible rfl
 rotate_left
 ·exact acq
 refine take_ (i:=9) (N:=some 48) (v:=?_) (a':=?_) #[T,T,T,T,T,F,T,T,T,T,T,F,F,F] rfl rfl (take_ofW HT_.out HW_.out z22_0) (fun _ _ _ h=>h) (Or.inl ⟨by rfl,?_⟩) hHeld ?_ ?_
 rotate_left
 ·rintro w' ⟨s0,s1⟩
  go_simp
  with_reducible rfl
 rotate_left
 ·exact acq
 refine one_ (i:=5) (N:=some 44) #[T,T,T,T,T,T,T,T,T,T,T,F,F,F] rfl rfl (one_of HT_.out z22_0) (by decide) (fun K hK=>?_)
 refine goes_ Try.func34 z22_0 rfl #[.slice Ar1 (rd_L1 l0 s1).length cr1, .int .i64 s2] (by rfl) rfl rfl (by(try simp only[List.map_toArray,List.map_cons,List.map_nil]);first|done|rfl) ?_
 refine(gU.calls _ _ (rd_L1 l0 s1) s2 one _ (Kd.C_below HRr1.out HB.out) HCr1.out T5.out).mono ?_
 rintro e W5 ⟨v1,rfl,ho,hb⟩
 refine⟨_,rfl,?_⟩
 have Ad:=Az.mk (Kd.R_lower (base':=W0.heap.size) ho HB.out.size)
 have HBn:=Az.mk (bwT HB.out hb)
 clear HB ho hb
 have HB:=HBn
 clear HBn
 refine hK.out _ _ ⟨(HB.out.cell (World.block_lt_of_cell? W0 _ Af)).trans Af,(HB.out.cell (World.block_lt_of_cell? W0 _ Ag)).trans Ag⟩ (fun hHeld=>?_)
 clear hK K
 refine norm_ (a':=?_) ?_ ?_
 rotate_left
 ·show Act.put _ (some 44) _=_
  exact acq
 refine one_ (i:=11) (N:=some 50) #[T,T,T,T,T,T,T,T,T,T,T,T,F,F] rfl rfl (one_of HT_.out z22_0) (by decide) (fun K hK=>?_)
 refine goes_ Try.func34 z22_0 rfl #[.slice Ar2 (rd_L1 l0 o1).length cr2, .int .i64 o2] (by rfl) rfl rfl (by(try simp only[List.map_toArray,List.map_cons,List.map_nil]);first|done|rfl) ?_
 refine(gU.calls _ _ (rd_L1 l0 o1) o2 two _ (Kd.C_below HRr2.out HB.out) HCr2.out T6.out).mono ?_
 rintro e W6 ⟨v2,rfl,ho,hb⟩
 refine⟨_,rfl,?_⟩
 have HO1n:=Az.mk (Kd.R_below Ad.out hb)
 clear Ad
 have Ad:=HO1n
 clear HO1n
 have Ah:=Az.mk (Kd.R_lower (base':=W0.heap.size) ho HB.out.size)
 have HBn:=Az.mk (bwT HB.out hb)
 clear HB ho hb
 have HB:=HBn
 clear HBn
 refine hK.out _ _ ⟨(HB.out.cell (World.block_lt_of_cell? W0 _ Af)).trans Af,(HB.out.cell (World.block_lt_of_cell? W0 _ Ag)).trans Ag⟩ (fun hHeld=>?_)
 clear hK K
 refine norm_ (a':=?_) ?_ ?_
 rotate_left
 ·show Act.put _ (some 50) _=_
  exact acq
 refine pu (i:=12) (N:=some 12) #[T,T,T,T,T,T,T,T,T,T,T,T,T,F] (any_of HT_.out z22_0) ?_
 refine pu (i:=13) (N:=some 13) #[T,T,T,T,T,T,T,T,T,T,T,T,T,T] (any_of HT_.out z22_0) ?_
 refine done_ (done_of HT_.out z22_0) ?_
 have Ac:=(HB.out.cell (World.block_lt_of_cell? W0 _ Aa)).trans Aa
 clear hHeld HRr1 HCr1 HRr2 HCr2 Af Ag
 go_wp2_with (first
  |(go_at_call 42;refine(jL.calls _ c1 l1 out _ (by first|exact Kd.C_drewN (Kd.C_below HX.out HB.out) _|exact Kd.C_below HX.out HB.out) HXC.out T7.out).mono ?_;rintro e W7 ⟨v3,rfl,ho,hb⟩;have HO:=Az.mk (Kd.R_lower (base':=W0.heap.size) ho (by first|exact HB.out.size|exact(pbN HB.out _).size));have HO1n:=Az.mk (Kd.R_below (by first|exact Kd.R_drewN Ad.out _|exact Ad.out) hb);have HO2n:=Az.mk (Kd.R_below (by first|exact Kd.R_drewN Ah.out _|exact Ah.out) hb);have HBn:=Az.mk (bwT (by first|exact pbN HB.out _|exact HB.out) hb);clear ho hb Ad Ah HB T7 Ac;have Ad:=HO1n;have Ah:=HO2n;have HB:=HBn;clear HO1n HO2n HBn;have Ac:=(HB.out.cell (World.block_lt_of_cell? W0 _ Aa)).trans Aa))
 have H:=H'.out
 clear H'
 unfold fP.g at H
 by_cases j1:2<(one.length:Int)
 rotate_left
 ·rw[ig j1]at H
  exact absurd H (by simp)
 rw[ip j1]at H
 by_cases j2:2<(two.length:Int)
 rotate_left
 ·rw[ig j2]at H
  exact absurd H (by simp)
 rw[ip j2]at H
 replace H:=be.mp H
 obtain⟨n1,N1,H⟩:=H
 replace H:=be.mp H
 obtain⟨n2,N2,H⟩:=H
 replace H:=be.mp H
 obtain⟨n3,N3,H⟩:=H
 replace H:=be.mp H
 obtain⟨n4,N4,H⟩:=H
 have N1:=Az.mk N1
 have N2:=Az.mk N2
 have N3:=Az.mk N3
 have N4:=Az.mk N4
 obtain⟨Z,hZ⟩:∃j_:Int,wrap64 (a2 - 1)=j_:=⟨_,rfl⟩
 have hZw:IntKind.i64.wrap (a2 - 1)=Z:=(i64_w _).trans hZ
 rw[hZ]at H
 by_cases z0:0≤Z
 rotate_left
 ·rw[ig z0]at H
  exact absurd H (by simp)
 rw[ip z0]at H
 by_cases z1:Z<(l1.length:Int)
 rotate_left
 ·rw[ig z1]at H
  exact absurd H (by simp)
 rw[ip z1]at H
 by_cases z2:Z<(out.length:Int)
 rotate_left
 ·rw[ig z2]at H
  exact absurd H (by simp)
 rw[ip z2]at H
 have H':=Az.mk H
 clear H
 obtain⟨adx,ex,hxz⟩:=Kd.at_int (Kd.C_below HX.out HB.out) Z z0 z1
 subst ex
 obtain⟨Bb,Bc,Ay⟩:=Kd.R_slice Ad.out
 subst Ay
 obtain⟨Bd,Bf,Ba⟩:=Kd.R_slice Ah.out
 subst Ba
 obtain⟨Ao,co,eo⟩:=Kd.R_slice HO.out
 subst eo
 obtain⟨Ai,e3,hone2⟩:=Kd.at_int (Kd.R_reads' Ad.out).2.2 2 (by omega) j1
 subst e3
 obtain⟨ad3',e3,hone1⟩:=Kd.at_int (Kd.R_reads' Ad.out).2.2 1 (by omega) (by omega)
 obtain rfl:Ai=ad3':=(by injection e3)
 obtain⟨Aj,e4,htwo2⟩:=Kd.at_int (Kd.R_reads' Ah.out).2.2 2 (by omega) j2
 subst e4
 obtain⟨ad4',e4,htwo1⟩:=Kd.at_int (Kd.R_reads' Ah.out).2.2 1 (by omega) (by omega)
 obtain rfl:Aj=ad4':=(by injection e4)
 simp only[show(2:Int).toNat=2 from rfl,show(1:Int).toNat=1 from rfl,Nat.reduceMul,Nat.reduceEqDiff,Go.Addr.add, ↓reduceIte]at hone2 hone1 htwo2 htwo1
 obtain⟨g,eg⟩:=fc_some HO.out z0 z2
 subst eg
 obtain⟨hx,hf,zn,fin⟩:=fc_at HO.out HB.out z0 z2
 have zzn:=ets zn
 have j1b:=ets j1
 have j2b:=ets j2
 have j1c:(2<one.length)=True:=ets (by omega)
 have j2c:(2<two.length)=True:=ets (by omega)
 have j1d:(1<one.length)=True:=ets (by omega)
 have j2d:(1<two.length)=True:=ets (by omega)
 have j1e:((1:Int)<(one.length:Int))=True:=ets (by omega)
 have j2e:((1:Int)<(two.length:Int))=True:=ets (by omega)
 have z0b:=ets z0
 have z1b:=ets z1
 have z2b:=ets z2
 clear e3 e4 zn j1 j2 z0 z1 fin
 refine start_ (n:=34) (S:=fun w'=>w'.cell? ⟨w.heap.size,0,none⟩=some (.slice (some adx) l1.length c1)∧w'.cell? ⟨Ai.block,Ai.off+1,none⟩=some (.int .i64 (rd one 1))∧w'.cell? ⟨Aj.block,Aj.off+1,none⟩=some (.int .i64 (rd two 1))∧w'.cell? ⟨Ai.block,Ai.off+2,none⟩=some (.int .i64 (rd one 2))∧w'.cell? ⟨Aj.block,Aj.off+2,none⟩=some (.int .i64 (rd two 2))∧w'.cell? (adx.add Z.toNat)=some (.int .i64 (rd l1 Z))) (ds:=[33]) #[F,F,F,F,F,F,F,F,F,F,F,F,F,F,F,F,F,F,F,F,F,F,F,F,F,F,F,F,F,F,F,F,F,F] z22_0 rfl rfl ⟨by simpa using Ac,by simpa using hone1,by simpa using htwo1,by simpa using hone2,by simpa using htwo2,by simpa using hxz⟩ (fun hHeld=>?_)
 refine with_tabW fP.tab8 fP.bits8 (fun HT_ HW_=>?_)
 have HBn:=Az.mk (bwD HB.out)
 have HOn:=Az.mk (Kd.R_drew HO.out)
 clear HB HO
 have HB:=HBn
 have HO:=HOn
 clear HBn HOn
 replace hx:=(show W7.drew.cell? ⟨g,Z.toNat,none⟩=some (.int .i64 (rd out Z))from by simpa using hx)
 replace hf:=(show W7.drew.frozen? ⟨g,Z.toNat,none⟩=false from by simpa using hf)
 generalize W7.drew=W7d at HB HO hHeld hx hf ⊢
 refine pu (i:=0) (N:=some 54) #[T,F,F,F,F,F,F,F,F,F,F,F,F,F,F,F,F,F,F,F,F,F,F,F,F,F,F,F,F,F,F,F,F,F] (any_of HT_.out z22_0) ?_
 refine pu (i:=1) (N:=some 55) #[T,T,F,F,F,F,F,F,F,F,F,F,F,F,F,F,F,F,F,F,F,F,F,F,F,F,F,F,F,F,F,F,F,F] (any_of HT_.out z22_0) ?_
 refine pu (i:=2) (N:=some 56) #[T,T,T,F,F,F,F,F,F,F,F,F,F,F,F,F,F,F,F,F,F,F,F,F,F,F,F,F,F,F,F,F,F,F] (any_of HT_.out z22_0) ?_
 refine pu (i:=3) (N:=some 57) #[T,T,T,T,F,F,F,F,F,F,F,F,F,F,F,F,F,F,F,F,F,F,F,F,F,F,F,F,F,F,F,F,F,F] (any_of HT_.out z22_0) ?_
 refine pu (i:=4) (N:=some 58) #[T,T,T,T,T,F,F,F,F,F,F,F,F,F,F,F,F,F,F,F,F,F,F,F,F,F,F,F,F,F,F,F,F,F] (any_of HT_.out z22_0) ?_
 refine pu (i:=5) (N:=some 59) #[T,T,T,T,T,T,F,F,F,F,F,F,F,F,F,F,F,F,F,F,F,F,F,F,F,F,F,F,F,F,F,F,F,F] (any_of HT_.out z22_0) ?_
 refine pu (i:=8) (N:=some 62) #[T,T,T,T,T,T,F,F,T,F,F,F,F,F,F,F,F,F,F,F,F,F,F,F,F,F,F,F,F,F,F,F,F,F] (any_of HT_.out z22_0) ?_
 refine pu (i:=9) (N:=some 63) #[T,T,T,T,T,T,F,F,T,T,F,F,F,F,F,F,F,F,F,F,F,F,F,F,F,F,F,F,F,F,F,F,F,F] (any_of HT_.out z22_0) ?_
 refine pu (i:=10) (N:=some 64) #[T,T,T,T,T,T,F,F,T,T,T,F,F,F,F,F,F,F,F,F,F,F,F,F,F,F,F,F,F,F,F,F,F,F] (any_of HT_.out z22_0) ?_
 refine pu (i:=14) (N:=some 68) #[T,T,T,T,T,T,F,F,T,T,T,F,F,F,T,F,F,F,F,F,F,F,F,F,F,F,F,F,F,F,F,F,F,F] (any_of HT_.out z22_0) ?_
 refine pu (i:=15) (N:=some 69) #[T,T,T,T,T,T,F,F,T,T,T,F,F,F,T,T,F,F,F,F,F,F,F,F,F,F,F,F,F,F,F,F,F,F] (any_of HT_.out z22_0) ?_
 refine pu (i:=16) (N:=some 70) #[T,T,T,T,T,T,F,F,T,T,T,F,F,F,T,T,T,F,F,F,F,F,F,F,F,F,F,F,F,F,F,F,F,F] (any_of HT_.out z22_0) ?_
 refine pu (i:=19) (N:=some 73) #[T,T,T,T,T,T,F,F,T,T,T,F,F,F,T,T,T,F,F,T,F,F,F,F,F,F,F,F,F,F,F,F,F,F] (any_of HT_.out z22_0) ?_
 refine pu (i:=20) (N:=some 74) #[T,T,T,T,T,T,F,F,T,T,T,F,F,F,T,T,T,F,F,T,T,F,F,F,F,F,F,F,F,F,F,F,F,F] (any_of HT_.out z22_0) ?_
 refine pu (i:=21) (N:=some 75) #[T,T,T,T,T,T,F,F,T,T,T,F,F,F,T,T,T,F,F,T,T,T,F,F,F,F,F,F,F,F,F,F,F,F] (any_of HT_.out z22_0) ?_
 refine pu (i:=27) (N:=some 81) #[T,T,T,T,T,T,F,F,T,T,T,F,F,F,T,T,T,F,F,T,T,T,F,F,F,F,F,T,F,F,F,F,F,F] (any_of HT_.out z22_0) ?_
 refine pu (i:=28) (N:=some 82) #[T,T,T,T,T,T,F,F,T,T,T,F,F,F,T,T,T,F,F,T,T,T,F,F,F,F,F,T,T,F,F,F,F,F] (any_of HT_.out z22_0) ?_
 refine take_ (i:=6) (N:=some 60) (v:=?_) (a':=?_) #[T,T,T,T,T,T,T,F,T,T,T,F,F,F,T,T,T,F,F,T,T,T,F,F,F,F,F,T,T,F,F,F,F,F] rfl rfl (take_ofW HT_.out HW_.out z22_0) (fun _ _ _ h=>h) (Or.inl ⟨by rfl,?_⟩) hHeld ?_ ?_
 rotate_left
 ·rintro w' ⟨s0,s1,s2,s3,s4,s5⟩
  go_simp
  with_reducible rfl
 rotate_left
 ·exact acq
 refine take_ (i:=11) (N:=some 65) (v:=?_) (a':=?_) #[T,T,T,T,T,T,T,F,T,T,T,T,F,F,T,T,T,F,F,T,T,T,F,F,F,F,F,T,T,F,F,F,F,F] rfl rfl (take_ofW HT_.out HW_.out z22_0) (fun _ _ _ h=>h) (Or.inl ⟨by rfl,?_⟩) hHeld ?_ ?_
 rotate_left
 ·rintro w' ⟨s0,s1,s2,s3,s4,s5⟩
  go_simp
  with_reducible rfl
 rotate_left
 ·exact acq
 refine take_ (i:=17) (N:=some 71) (v:=?_) (a':=?_) #[T,T,T,T,T,T,T,F,T,T,T,T,F,F,T,T,T,T,F,T,T,T,F,F,F,F,F,T,T,F,F,F,F,F] rfl rfl (take_ofW HT_.out HW_.out z22_0) (fun _ _ _ h=>h) (Or.inl ⟨by rfl,?_⟩) hHeld ?_ ?_
 rotate_left
 ·rintro w' ⟨s0,s1,s2,s3,s4,s5⟩
  go_simp
  with_reducible rfl
 rotate_left
 ·exact acq
 refine take_ (i:=22) (N:=some 76) (v:=?_) (a':=?_) #[T,T,T,T,T,T,T,F,T,T,T,T,F,F,T,T,T,T,F,T,T,T,T,F,F,F,F,T,T,F,F,F,F,F] rfl rfl (take_ofW HT_.out HW_.out z22_0) (fun _ _ _ h=>h) (Or.inl ⟨by rfl,?_⟩) hHeld ?_ ?_
 rotate_left
 ·rintro w' ⟨s0,s1,s2,s3,s4,s5⟩
  go_simp
  with_reducible rfl
 rotate_left
 ·exact acq
 refine take_ (i:=26) (N:=some 80) (v:=?_) (a':=?_) #[T,T,T,T,T,T,T,F,T,T,T,T,F,F,T,T,T,T,F,T,T,T,T,F,F,F,T,T,T,F,F,F,F,F] rfl rfl (take_ofW HT_.out HW_.out z22_0) (fun _ _ _ h=>h) (Or.inl ⟨by rfl,?_⟩) hHeld ?_ ?_
 rotate_left
 ·rintro w' ⟨s0,s1,s2,s3,s4,s5⟩
  go_simp
  with_reducible rfl
 rotate_left
 ·exact acq
 refine pu (i:=29) (N:=some 83) #[T,T,T,T,T,T,T,F,T,T,T,T,F,F,T,T,T,T,F,T,T,T,T,F,F,F,T,T,T,T,F,F,F,F] (any_of HT_.out z22_0) ?_
 refine take_ (i:=30) (N:=some 84) (v:=?_) (a':=?_) #[T,T,T,T,T,T,T,F,T,T,T,T,F,F,T,T,T,T,F,T,T,T,T,F,F,F,T,T,T,T,T,F,F,F] rfl rfl (take_ofW HT_.out HW_.out z22_0) (fun _ _ _ h=>h) (Or.inl ⟨by rfl,?_⟩) hHeld ?_ ?_
 rotate_left
 ·rintro w' ⟨s0,s1,s2,s3,s4,s5⟩
  go_simp
  with_reducible rfl
 rotate_left
 ·exact acq
 refine one_ (i:=7) (N:=some 61) #[T,T,T,T,T,T,T,T,T,T,T,T,F,F,T,T,T,T,F,T,T,T,T,F,F,F,T,T,T,T,T,F,F,F] rfl rfl (one_of HT_.out z22_0) (by decide) (fun K hK=>?_)
 refine goesF_ Try.func40 z22_0 rfl #[.int .i64 (rd one 1), .pointer (some ⟨w.heap.size,0,none⟩)] (by rfl) rfl rfl rfl z22_1 ?_
 refine(flipNum.calls (rd one 1) _ _ c1 l1 n1 _ hHeld.1 (by repeat(first|exact Kd.C_below HX.out HB.out|refine Kd.C_drewN ?_ _)) N1.out).mono ?_
 rintro e W11 ⟨rfl,⟨nd11,rfl⟩⟩
 refine⟨_,rfl,?_⟩
 refine hK.out _ _ ⟨by simpa using hHeld.1,by simpa using hHeld.2.1,by simpa using hHeld.2.2.1,by simpa using hHeld.2.2.2.1,by simpa using hHeld.2.2.2.2.1,by simpa using hHeld.2.2.2.2.2⟩ (fun hHeld=>?_)
 clear hK K
 refine norm_ (a':=?_) ?_ ?_
 rotate_left
 ·show Act.put _ (some 61) _=_
  exact acq
 refine one_ (i:=12) (N:=some 66) #[T,T,T,T,T,T,T,T,T,T,T,T,T,F,T,T,T,T,F,T,T,T,T,F,F,F,T,T,T,T,T,F,F,F] rfl rfl (one_of HT_.out z22_0) (by decide) (fun K hK=>?_)
 refine goesF_ Try.func40 z22_0 rfl #[.int .i64 (rd two 1), .pointer (some ⟨w.heap.size,0,none⟩)] (by rfl) rfl rfl rfl z22_1 ?_
 refine(flipNum.calls (rd two 1) _ _ c1 l1 n2 _ hHeld.1 (by repeat(first|exact Kd.C_below HX.out HB.out|refine Kd.C_drewN ?_ _)) N2.out).mono ?_
 rintro e W12 ⟨rfl,⟨nd12,rfl⟩⟩
 refine⟨_,rfl,?_⟩
 refine hK.out _ _ ⟨by simpa using hHeld.1,by simpa using hHeld.2.1,by simpa using hHeld.2.2.1,by simpa using hHeld.2.2.2.1,by simpa using hHeld.2.2.2.2.1,by simpa using hHeld.2.2.2.2.2⟩ (fun hHeld=>?_)
 clear hK K
 refine norm_ (a':=?_) ?_ ?_
 rotate_left
 ·show Act.put _ (some 66) _=_
  exact acq
 refine pu (i:=13) (N:=some 67) #[T,T,T,T,T,T,T,T,T,T,T,T,T,T,T,T,T,T,F,T,T,T,T,F,F,F,T,T,T,T,T,F,F,F] (any_of HT_.out z22_0) ?_
 refine one_ (i:=18) (N:=some 72) #[T,T,T,T,T,T,T,T,T,T,T,T,T,T,T,T,T,T,T,T,T,T,T,F,F,F,T,T,T,T,T,F,F,F] rfl rfl (one_of HT_.out z22_0) (by decide) (fun K hK=>?_)
 refine goesF_ Try.func40 z22_0 rfl #[.int .i64 (rd one 2), .pointer (some ⟨w.heap.size,0,none⟩)] (by rfl) rfl rfl rfl z22_1 ?_
 refine(flipNum.calls (rd one 2) _ _ c1 l1 n3 _ hHeld.1 (by repeat(first|exact Kd.C_below HX.out HB.out|refine Kd.C_drewN ?_ _)) N3.out).mono ?_
 rintro e W13 ⟨rfl,⟨nd13,rfl⟩⟩
 refine⟨_,rfl,?_⟩
 refine hK.out _ _ ⟨by simpa using hHeld.1,by simpa using hHeld.2.1,by simpa using hHeld.2.2.1,by simpa using hHeld.2.2.2.1,by simpa using hHeld.2.2.2.2.1,by simpa using hHeld.2.2.2.2.2⟩ (fun hHeld=>?_)
 clear hK K
 refine norm_ (a':=?_) ?_ ?_
 rotate_left
 ·show Act.put _ (some 72) _=_
  exact acq
 refine one_ (i:=23) (N:=some 77) #[T,T,T,T,T,T,T,T,T,T,T,T,T,T,T,T,T,T,T,T,T,T,T,T,F,F,T,T,T,T,T,F,F,F] rfl rfl (one_of HT_.out z22_0) (by decide) (fun K hK=>?_)
 refine goesF_ Try.func40 z22_0 rfl #[.int .i64 (rd two 2), .pointer (some ⟨w.heap.size,0,none⟩)] (by rfl) rfl rfl rfl z22_1 ?_
 refine(flipNum.calls (rd two 2) _ _ c1 l1 n4 _ hHeld.1 (by repeat(first|exact Kd.C_below HX.out HB.out|refine Kd.C_drewN ?_ _)) N4.out).mono ?_
 rintro e W14 ⟨rfl,⟨nd14,rfl⟩⟩
 refine⟨_,rfl,?_⟩
 refine hK.out _ _ ⟨by simpa using hHeld.1,by simpa using hHeld.2.1,by simpa using hHeld.2.2.1,by simpa using hHeld.2.2.2.1,by simpa using hHeld.2.2.2.2.1,by simpa using hHeld.2.2.2.2.2⟩ (fun hHeld=>?_)
 clear hK K
 refine norm_ (a':=?_) ?_ ?_
 rotate_left
 ·show Act.put _ (some 77) _=_
  exact acq
 refine pu (i:=24) (N:=some 78) #[T,T,T,T,T,T,T,T,T,T,T,T,T,T,T,T,T,T,T,T,T,T,T,T,T,F,T,T,T,T,T,F,F,F] (any_of HT_.out z22_0) ?_
 refine pu (i:=25) (N:=some 79) #[T,T,T,T,T,T,T,T,T,T,T,T,T,T,T,T,T,T,T,T,T,T,T,T,T,T,T,T,T,T,T,F,F,F] (any_of HT_.out z22_0) ?_
 refine pu (i:=31) (N:=some 85) #[T,T,T,T,T,T,T,T,T,T,T,T,T,T,T,T,T,T,T,T,T,T,T,T,T,T,T,T,T,T,T,T,F,F] (any_of HT_.out z22_0) ?_
 refine pu (i:=32) (N:=some 86) #[T,T,T,T,T,T,T,T,T,T,T,T,T,T,T,T,T,T,T,T,T,T,T,T,T,T,T,T,T,T,T,T,T,F] (any_of HT_.out z22_0) ?_
 refine last_ (i:=33) (N:=none) #[T,T,T,T,T,T,T,T,T,T,T,T,T,T,T,T,T,T,T,T,T,T,T,T,T,T,T,T,T,T,T,T,T,T] rfl rfl (one_of HT_.out z22_0) (by decide) (fun K hK=>?_)
 refine skip_ (w1:=?ww1) (by rfl) rfl ?_ ?_
 rotate_left
 ·first|(go_simp;done)|(go_simp;rfl)
 refine hK.out _ _ ?_
 clear hK K
 refine done_ (done_of HT_.out z22_0) ?_
 obtain⟨_,_,_,fin⟩:=fc_at HO.out HB.out (of_eq_true z0b) (of_eq_true z2b)
 obtain⟨V,hV⟩:∃j_:Int,wrap64 ((if wrap64 (n1+n2)<wrap64 (n3+n4)then wrap64 (n3+n4)else wrap64 (n1+n2)) - rd l1 Z)=j_:=⟨_,rfl⟩
 have hmx:wrap64 (mx (wrap64 (n1+n2)) (wrap64 (n3+n4)) - rd l1 Z)=V:=hV
 have H:=H'.out
 clear H'
 rw[hmx]at H
 rw[hV]
 have E1:=fin.out (W7d.drewN (nd11+nd12+nd13+nd14)) V ⟨_,rfl⟩
 have HOE:=Az.mk E1.1
 have HBE:=Az.mk E1.2
 clear E1 fin hx hf hV hmx HO HB hHeld hxz hone1 hone2 htwo1 htwo2 Ac
 generalize ((W7d.drewN (nd11+nd12+nd13+nd14)).setCell ⟨g,Z.toNat,none⟩ (.int .i64 V))=E at HOE HBE ⊢
 obtain⟨hxE,hfE,_,_⟩:=fc_at HOE.out HBE.out (of_eq_true z0b) (by rw[List.length_set];exact of_eq_true z2b)
 rw[rd_set_self (of_eq_true z0b) (of_eq_true z2b)]at hxE
 by_cases v2:V>200
 ·rw[ip v2]at H
  have v2b:decide (V>200)=true:=ode v2
  have v2c:decide (200<V)=true:=ode v2
  clear v2
  obtain rfl:=Option.some.inj H
  obtain⟨rfl,rfl⟩:=Prod.mk.injEq .. ▸ HR.out
  go_wp2
  all_goals go_ret2
  all_goals exact⟨_,rfl,Kd.R_nil _ _ _ _ _,by first|exact bwT HB0.out HBE.out|exact pbN (bwT HB0.out HBE.out) _⟩
 rw[ig v2]at H
 have v2b:decide (V>200)=false:=decide_eq_false v2
 have v2c:decide (200<V)=false:=decide_eq_false v2
 clear v2
 obtain rfl:=Option.some.inj H
 obtain⟨rfl,rfl⟩:=Prod.mk.injEq .. ▸ HR.out
 go_wp2
 all_goals go_ret2
 all_goals exact⟨_,rfl,by first|exact Kd.R_lower HOE.out HB0.out.size|exact Kd.R_lower (Kd.R_drewN HOE.out _) HB0.out.size,by first|exact bwT HB0.out HBE.out|exact pbN (bwT HB0.out HBE.out) _⟩
end
end Go.Proofs.Ytemeiocmgbgikaa.P

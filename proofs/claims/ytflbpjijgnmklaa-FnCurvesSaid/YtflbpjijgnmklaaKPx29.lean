-- The walks, cut and laid together by this session's tools (prune.py, sq2.py, min.py: shorter names, no needless spaces). Not trusted: Lean checks it.
import Derived.Test.YtflbpjijgnmklaaKWZip
import Derived.Test.YtflbpjijgnmklaaKPx24
namespace Go.Proofs.Ytflbpjijgnmklaa.P
open Go.RowKit Go.Proofs.YtflbpjijgnmklaaW.PrintWords Go.Proofs.YtflbpjijgnmklaaW.PrintLast Go.Proofs.YtflbpjijgnmklaaW.PrintMore
attribute [local go_sem] max2_int min2_int max_two min_two max_three min_three max_four min_four   -- for this text's walks alone
set_option linter.unusedVariables false
set_option linter.unusedSimpArgs false
set_option maxHeartbeats 8000000
set_option maxRecDepth 100000
open Option renaming bind_eq_some_iff → be
theorem bw_29 {n:Nat}{v v':World} (h:Below n v v':=by repeat(first|(with_reducible first|exact HB.out|apply bwA|apply pbN|apply bwD)|exact HB.out)):Below n v v':=h
mutual
def fD.l0:Nat→List (List Int)→List Int→Int→Option (Int)
 |0,_,_,_=>none
 |k+1,x0,x3,x4=>if x4<(x0.length:Int) then(if x3.length<17592186044416 then(fD.l0 k x0 (x3 ++ [x4]) (wrap64 (x4+1))) else(none)) else(fD.l1 k x0 x3 0)
def fD.l1:Nat→List (List Int)→List Int→Int→Option (Int)
 |0,_,_,_=>none
 |k+1,x0,x3,x5=>if x5<(x0.length:Int) then(fD.l2 k x0 x3 x5 0) else(fD.l4 k x0 x3 0 0)
def fD.l2:Nat→List (List Int)→List Int→Int→Int→Option (Int)
 |0,_,_,_,_=>none
 |k+1,x0,x3,x5,x6=>if x6<x5 then(fD.l3 k x0 x3 x5 x6 0) else(fD.l1 k x0 x3 (wrap64 (x5+1)))
def fD.l3:Nat→List (List Int)→List Int→Int→Int→Int→Option (Int)
 |0,_,_,_,_,_=>none
 |k+1,x0,x3,x5,x6,x7=>if x7<9 then(if 0≤x5 then(if x5<(x0.length:Int) then(if 0≤(wrap64 (Int.tdiv x7 3)) then(if(wrap64 (Int.tdiv x7 3))<((rd_L1 x0 x5).length:Int) then(if 0≤x6 then(if x6<(x0.length:Int) then(if 0≤(Int.tmod x7 3) then(if(Int.tmod x7 3)<((rd_L1 x0 x6).length:Int) then(if(rd (rd_L1 x0 x5) (wrap64 (Int.tdiv x7 3)))=(wrap64 (-(rd (rd_L1 x0 x6) (Int.tmod x7 3)))) then((fS.f k x3 x5).bind fun t551=>((fS.f k x3 x6).bind fun t552=>(if 0≤t551 then(if t551<(x3.length:Int) then(fD.l3 k x0 (x3.set (t551:Int).toNat t552) x5 x6 (wrap64 (x7+1))) else(none)) else(none)))) else(fD.l3 k x0 x3 x5 x6 (wrap64 (x7+1)))) else(none)) else(none)) else(none)) else(none)) else(none)) else(none)) else(none)) else(none)) else(fD.l2 k x0 x3 x5 (wrap64 (x6+1)))
def fD.l4:Nat→List (List Int)→List Int→Int→Int→Option (Int)
 |0,_,_,_,_=>none
 |k+1,x0,x3,x8,x9=>if x9<(x0.length:Int) then(if 0≤x9 then(if x9<(x3.length:Int) then((gK.f ((rd x3 x9)== x9)).bind fun t555=>(fD.l4 k x0 x3 (wrap64 (x8+t555)) (wrap64 (x9+1)))) else(none)) else(none)) else(some x8)
end
def fD.f (k:Nat) (l0:List (List Int)):Option (Int):=fD.l0 k l0 (([]:List Int)) 0
theorem fD.calls (k:Nat) (A0:Option Addr) (c0:Nat) (l0:List (List Int)) (r:Int) (w:World) (Eo:Kd.C (Kd.slice 3 (Kd.int .i64)) w A0 l0.length l0) (Ep:l0.length≤c0) (h:fD.f k l0=some r):
  Calls Try.prog 59 #[.slice A0 l0.length c0] w fun e w'=>e= .returned (.int .i64 r)∧Below w.heap.size w w':=by
 have Dm:=Az.mk Eo
 have Gi:=Az.mk Ep
 clear Eo Ep
 have HB:=Az.mk (Below.refl w.heap.size w)
 have H:(fD.l0 k l0 (([]:List Int)) 0)=some r:=h
 clear h
 obtain⟨Dc,hy⟩:∃y_:List Int,y_=(([]:List Int)):=⟨_,rfl⟩
 replace H:(fD.l0 k l0 Dc 0)=some r:=rh
 have Bn:=Az.mk hy
 clear hy
 have H':=Az.mk H
 clear H
 go_enter Try.func59,Try.ntmps59
 go_wp2_with (((with_reducible refine gtD (N:=10) rfl ?_);refine Kd.R_lit (Kd.int .i64) _ 3 ?hg (N:=10) ?hd (xs:=([]:List Int)) (inner:=[]) (ok:=fun _=>True) (okp:=fun _=>True) ?hr ?hp (fun _ hk=>hk) trivial (Below.refl _ _) (Nat.le_refl _) (by simp) ?_;(case hd=>rfl);(case hg=>rfl);(case hr=>first|(go_simp;done)|(go_simp;rfl));(case hp=>exact(Reps.none _ _));intro Ea w2 Bo hb hg_ hnew_;clear hg_ hnew_;(first|rw[←Bn.out]at Bo|(simp only[Int.reduceToNat]at Bo;rw[←Bn.out]at Bo));have Ce:=Az.mk (Kd.R_lower Bo (bwZ bw_29));replace HB:=Az.mk (bwT bw_29 hb);clear hb Bo))
 repeat(go_quiet (fail);try go_wp2_with (((with_reducible refine gtD (N:=10) rfl ?_);refine Kd.R_lit (Kd.int .i64) _ 3 ?hg (N:=10) ?hd (xs:=([]:List Int)) (inner:=[]) (ok:=fun _=>True) (okp:=fun _=>True) ?hr ?hp (fun _ hk=>hk) trivial (Below.refl _ _) (Nat.le_refl _) (by simp) ?_;(case hd=>rfl);(case hg=>rfl);(case hr=>first|(go_simp;done)|(go_simp;rfl));(case hp=>exact(Reps.none _ _));intro Ea w2 Bo hb hg_ hnew_;clear hg_ hnew_;(first|rw[←Bn.out]at Bo|(simp only[Int.reduceToNat]at Bo;rw[←Bn.out]at Bo));have Ce:=Az.mk (Kd.R_lower Bo (bwZ bw_29));replace HB:=Az.mk (bwT bw_29 hb);clear hb Bo)))
 go_loopg [3,4] k (fun kq v3 v4 w'=>∃(Bc:List Int) (Aw:Int),v4= .int .i64 Aw∧Az (fD.l0 kq l0 Bc Aw=some r)∧Az (kq≤k)∧Az (Kd.R (Kd.int .i64) 3 w' w.heap.size (fun _=>True) v3 Bc)∧Az (Below w.heap.size w w'))
 case atStart=>exact⟨(Dc),(0),rq2,H',⟨Nat.le_refl _⟩,⟨kR Ce.out⟩,⟨bw_29⟩⟩
 clear H'
 obtain⟨Bc,Aw,rfl,HA,HK1,Aa,HB⟩:=hrel
 cases gk with
 |zero=>exact absurd HA.out (by simp[fD.l0])
 |succ k1=>
  have H:=HA.out
  clear HA
  simp only[fD.l0]at H
  by_cases c4:Aw<(l0.length:Int)
  ·rw[ip c4]at H
   have Bp:=ode c4
   clear c4
   by_cases c5:Bc.length<17592186044416
   rotate_left
   ·rw[ig c5]at H
    exact absurd H (by simp)
   rw[ip c5]at H
   have LMc5:=Az.mk c5
   clear c5
   obtain⟨Dd,hy⟩:∃y_:List Int,y_=(Bc ++ [Aw]):=⟨_,rfl⟩
   replace H:(fD.l0 k1 l0 Dd (wrap64 (Aw+1)))=some r:=rh
   have Cf:=Az.mk hy
   clear hy
   have H':=Az.mk H
   clear H
   go_wp2_with (((with_reducible refine gate_builtin (b:= .append) (xs:= #[.tmp 17, .tmp 19]) rfl ?_);at_builtin;refine Kd.R_append (Kd.int .i64) (w0:=w) w.heap.size rfl (.tmp 17) (.tmp 19) 25 3 (.int .i64 0) 8 rfl Try.underlying25 info3 rfl (by decide) (by omega) u3 Bc Aw [.int .i64 Aw] (fun _=>True) (fun _=>False) rfl rfl ?aP (fun _ hk=>hk.elim) ?aF ?aO ?aB ?aS ?aL ?_;(case aP=>exact rfl);(case aB=>exact bw_29);(case aF=>exact(fun _ _=>trivial));(case aO=>exact(kR Aa.out));(case aS=>exact(bwZ bw_29));(case aL=>have:=LMc5.out;omega);intro Eb w6 ho hb hg hat;rw[←Cf.out]at ho;have n0_:=Az.mk (hb);have n1_:=Az.mk (ho);clear HB;clear Aa;have HB:=n0_;have Cg:=n1_;clear n0_ n1_;clear ho hb hg hat))
   repeat(go_quiet (fail);try go_wp2_with (((with_reducible refine gate_builtin (b:= .append) (xs:= #[.tmp 17, .tmp 19]) rfl ?_);at_builtin;refine Kd.R_append (Kd.int .i64) (w0:=w) w.heap.size rfl (.tmp 17) (.tmp 19) 25 3 (.int .i64 0) 8 rfl Try.underlying25 info3 rfl (by decide) (by omega) u3 Bc Aw [.int .i64 Aw] (fun _=>True) (fun _=>False) rfl rfl ?aP (fun _ hk=>hk.elim) ?aF ?aO ?aB ?aS ?aL ?_;(case aP=>exact rfl);(case aB=>exact bw_29);(case aF=>exact(fun _ _=>trivial));(case aO=>exact(kR Aa.out));(case aS=>exact(bwZ bw_29));(case aL=>have:=LMc5.out;omega);intro Eb w6 ho hb hg hat;rw[←Cf.out]at ho;have n0_:=Az.mk (hb);have n1_:=Az.mk (ho);clear HB;clear Aa;have HB:=n0_;have Cg:=n1_;clear n0_ n1_;clear ho hb hg hat)))
   go_roundg k1
   case measure=>have:=HK1.out;omega
   case rel=>exact⟨(Dd),(wrap64 (Aw+1)),rq2,H',⟨by have:=HK1.out;omega⟩,⟨kR Cg.out⟩,⟨bw_29⟩⟩
  rw[ig c4]at H
  have Bp:=decide_eq_false c4
  clear c4
  have H':=Az.mk H
  clear H
  go_wp2
  repeat(go_quiet (fail);try go_wp2)
  go_loopg [5] k1 (fun kq v5 w'=>∃(Ax:List Int) (Ab:Int),v5= .int .i64 Ab∧Az (fD.l1 kq l0 Ax Ab=some r)∧Az (kq≤k1)∧Az (Kd.R (Kd.int .i64) 3 w' w.heap.size (fun _=>True) u3 Ax)∧Az (Below w.heap.size w w'))
  case atStart=>exact⟨(Bc),(0),rq2,H',⟨Nat.le_refl _⟩,⟨kR Aa.out⟩,⟨bw_29⟩⟩
  clear H'
  try clear c4
  try clear Bp
  try clear c5
  obtain⟨Ax,Ab,rfl,HA,HK2,Aa,HB⟩:=hrel
  cases gk with
  |zero=>exact absurd HA.out (by simp[fD.l1])
  |succ k2=>
   have H:=HA.out
   clear HA
   simp only[fD.l1]at H
   by_cases c7:Ab<(l0.length:Int)
   rotate_left
   ·rw[ig c7]at H
    have Bx:=decide_eq_false c7
    clear c7
    have H':=Az.mk H
    clear H
    go_wp2
    repeat(go_quiet (fail);try go_wp2)
    go_loopg [8,9] k2 (fun kq v8 v9 w'=>∃(By:Int) (Ag:Int),v8= .int .i64 By∧v9= .int .i64 Ag∧Az (fD.l4 kq l0 Ax By Ag=some r)∧Az (kq≤k2)∧Az (Kd.R (Kd.int .i64) 3 w' w.heap.size (fun _=>True) u3 Ax)∧Az (Below w.heap.size w w'))
    case atStart=>exact⟨(0),(0),rq2,rq2,H',⟨Nat.le_refl _⟩,⟨kR Aa.out⟩,⟨bw_29⟩⟩
    clear H'
    try clear c4
    try clear Bp
    try clear c5
    try clear c7
    try clear Bx
    obtain⟨By,Ag,rfl,rfl,HA,HK3,Aa,HB⟩:=hrel
    cases gk with
    |zero=>exact absurd HA.out (by simp[fD.l4])
    |succ k3=>
     have H:=HA.out
     clear HA
     simp only[fD.l4]at H
     by_cases Db:Ag<(l0.length:Int)
     rotate_left
     ·rw[ig Db]at H
      have De:=decide_eq_false Db
      clear Db
      obtain rfl:=Option.some.inj H
      go_wp2
      repeat(go_quiet (fail);try go_wp2)
      go_ret
      exact⟨rq1,bw_29⟩
     rw[ip Db]at H
     have De:=ode Db
     clear Db
     by_cases Dn:0≤Ag
     rotate_left
     ·rw[ig Dn]at H
      exact absurd H (by simp)
     rw[ip Dn]at H
     have Er:=ode Dn
     clear Dn
     by_cases Do:Ag<(Ax.length:Int)
     rotate_left
     ·rw[ig Do]at H
      exact absurd H (by simp)
     rw[ip Do]at H
     have Es:=ode Do
     clear Do
     replace H:=bez H
     obtain⟨Bz,Ec,H⟩:=H
     try dsimp only at H
     have H':=Az.mk H
     clear H
     obtain⟨Gf,Gg,Ed⟩:=Kd.R_slice Aa.out
     subst Ed
     have Ci:0≤(Ag:Int):=od
     have Cj:Ag<(Ax.length:Int):=od
     obtain⟨Et,Ee,Dp⟩:=Kd.at_int (Kd.R_reads' Aa.out).2.2 Ag Ci Cj
     cases Ee
     replace Ci:=ets Ci
     replace Cj:=ets Cj
     go_wp2_with ((go_at_call 61;(with_reducible refine(gK.calls ((rd Ax Ag)== Ag) Bz _ Ec.out).mono ?_);rintro e w' ⟨rfl,⟨nd,rfl⟩⟩;(try first|exact⟨rfl,_,World.drewN_drewN _ _ _⟩|exact⟨rfl,_,Eq.trans (World.drewN_drewN _ _ _) (congrArg (World.drewN _) (Nat.add_assoc _ _ _))⟩)))
     repeat(go_quiet ((go_at_call 61;(with_reducible refine(gK.calls ((rd Ax Ag)== Ag) Bz _ Ec.out).mono ?_);rintro e w' ⟨rfl,⟨nd,rfl⟩⟩;(try first|exact⟨rfl,_,World.drewN_drewN _ _ _⟩|exact⟨rfl,_,Eq.trans (World.drewN_drewN _ _ _) (congrArg (World.drewN _) (Nat.add_assoc _ _ _))⟩)));try go_wp2_with ((go_at_call 61;(with_reducible refine(gK.calls ((rd Ax Ag)== Ag) Bz _ Ec.out).mono ?_);rintro e w' ⟨rfl,⟨nd,rfl⟩⟩;(try first|exact⟨rfl,_,World.drewN_drewN _ _ _⟩|exact⟨rfl,_,Eq.trans (World.drewN_drewN _ _ _) (congrArg (World.drewN _) (Nat.add_assoc _ _ _))⟩))))
     go_roundg k3
     case measure=>have:=HK1.out;have:=HK2.out;have:=HK3.out;omega
     case rel=>exact⟨(wrap64 (By+Bz)),(wrap64 (Ag+1)),rq2,rq2,H',⟨by have:=HK1.out;have:=HK2.out;have:=HK3.out;omega⟩,⟨kR Aa.out⟩,⟨bw_29⟩⟩
   rw[ip c7]at H
   have Bx:=ode c7
   clear c7
   have H':=Az.mk H
   clear H
   go_wp2
   repeat(go_quiet (fail);try go_wp2)
   go_loopg [6] k2 (fun kq v6 w'=>∃(Bq:List Int) (Ac:Int),v6= .int .i64 Ac∧Az (fD.l2 kq l0 Bq Ab Ac=some r)∧Az (kq≤k2)∧Az (Kd.R (Kd.int .i64) 3 w' w.heap.size (fun _=>True) u3 Bq)∧Az (Below w.heap.size w w'))
   case atStart=>exact⟨(Ax),(0),rq2,H',⟨Nat.le_refl _⟩,⟨kR Aa.out⟩,⟨bw_29⟩⟩
   clear H'
   try clear c4
   try clear Bp
   try clear c5
   try clear c7
   try clear Bx
   obtain⟨Bq,Ac,rfl,HA,HK3,Aa,HB⟩:=hrel
   cases gk with
   |zero=>exact absurd HA.out (by simp[fD.l2])
   |succ k3=>
    have H:=HA.out
    clear HA
    simp only[fD.l2]at H
    by_cases c8:Ac<Ab
    rotate_left
    ·rw[ig c8]at H
     have Df:=decide_eq_false c8
     clear c8
     have H':=Az.mk H
     clear H
     go_wp2
     repeat(go_quiet (fail);try go_wp2)
     go_roundg k3
     case measure=>have:=HK1.out;have:=HK2.out;have:=HK3.out;omega
     case rel=>exact⟨(Bq),(wrap64 (Ab+1)),rq2,H',⟨by have:=HK1.out;have:=HK2.out;have:=HK3.out;omega⟩,⟨kR Aa.out⟩,⟨bw_29⟩⟩
    rw[ip c8]at H
    have Df:=ode c8
    clear c8
    have H':=Az.mk H
    clear H
    go_wp2
    repeat(go_quiet (fail);try go_wp2)
    go_loopg [7] k3 (fun kq v7 w'=>∃(Ae:List Int) (Af:Int),v7= .int .i64 Af∧Az (fD.l3 kq l0 Ae Ab Ac Af=some r)∧Az (kq≤k3)∧Az (Kd.R (Kd.int .i64) 3 w' w.heap.size (fun _=>True) u3 Ae)∧Az (Below w.heap.size w w'))
    case atStart=>exact⟨(Bq),(0),rq2,H',⟨Nat.le_refl _⟩,⟨kR Aa.out⟩,⟨bw_29⟩⟩
    clear H'
    try clear c4
    try clear Bp
    try clear c5
    try clear c7
    try clear Bx
    try clear c8
    try clear Df
    obtain⟨Ae,Af,rfl,HA,HK4,Aa,HB⟩:=hrel
    cases gk with
    |zero=>exact absurd HA.out (by simp[fD.l3])
    |succ k4=>
     have H:=HA.out
     clear HA
     simp only[fD.l3]at H
     by_cases c9:Af<9
     rotate_left
     ·rw[ig c9]at H
      have Ef:=decide_eq_false c9
      clear c9
      have H':=Az.mk H
      clear H
      go_wp2
      repeat(go_quiet (fail);try go_wp2)
      go_roundg k4
      case measure=>have:=HK1.out;have:=HK2.out;have:=HK3.out;have:=HK4.out;omega
      case rel=>exact⟨(Ae),(wrap64 (Ac+1)),rq2,H',⟨by have:=HK1.out;have:=HK2.out;have:=HK3.out;have:=HK4.out;omega⟩,⟨kR Aa.out⟩,⟨bw_29⟩⟩
     rw[ip c9]at H
     have Ef:=ode c9
     clear c9
     by_cases Dq:0≤Ab
     rotate_left
     ·rw[ig Dq]at H
      exact absurd H (by simp)
     rw[ip Dq]at H
     have Eu:=ode Dq
     clear Dq
     by_cases Dr:Ab<(l0.length:Int)
     rotate_left
     ·rw[ig Dr]at H
      exact absurd H (by simp)
     rw[ip Dr]at H
     have Ev:=ode Dr
     clear Dr
     obtain⟨Ah,Br⟩:∃j_:Int,(wrap64 (Int.tdiv Af 3))=j_:=⟨_,rfl⟩
     replace H:(if 0≤(Ah) then(if(Ah)<((rd_L1 l0 Ab).length:Int) then(if 0≤Ac then(if Ac<(l0.length:Int) then(if 0≤(Int.tmod Af 3) then(if(Int.tmod Af 3)<((rd_L1 l0 Ac).length:Int) then(if(rd (rd_L1 l0 Ab) (Ah))=(wrap64 (-(rd (rd_L1 l0 Ac) (Int.tmod Af 3)))) then((fS.f k4 Ae Ab).bind fun Ad=>((fS.f k4 Ae Ac).bind fun Ay=>(if 0≤Ad then(if Ad<(Ae.length:Int) then(fD.l3 k4 l0 (Ae.set (Ad:Int).toNat Ay) Ab Ac (wrap64 (Af+1))) else(none)) else(none)))) else(fD.l3 k4 l0 Ae Ab Ac (wrap64 (Af+1)))) else(none)) else(none)) else(none)) else(none)) else(none)) else(none))=some r:=by first|(rw[Br]at H;exact H)|(simp only[Br]at H ⊢;exact H)
     have hji12w:(IntKind.i64.wrap (Int.tdiv Af 3))=Ah:=(i64_w _).trans Br
     by_cases Ds:0≤(Ah)
     rotate_left
     ·rw[ig Ds]at H
      exact absurd H (by simp)
     rw[ip Ds]at H
     have Ew:=ode Ds
     clear Ds
     by_cases Dt:(Ah)<((rd_L1 l0 Ab).length:Int)
     rotate_left
     ·rw[ig Dt]at H
      exact absurd H (by simp)
     rw[ip Dt]at H
     have Ex:=ode Dt
     clear Dt
     by_cases Du:0≤Ac
     rotate_left
     ·rw[ig Du]at H
      exact absurd H (by simp)
     rw[ip Du]at H
     have Ey:=ode Du
     clear Du
     by_cases Dv:Ac<(l0.length:Int)
     rotate_left
     ·rw[ig Dv]at H
      exact absurd H (by simp)
     rw[ip Dv]at H
     have Ez:=ode Dv
     clear Dv
     obtain⟨Av,Ch⟩:∃j_:Int,(Int.tmod Af 3)=j_:=⟨_,rfl⟩
     replace H:(if 0≤(Av) then(if(Av)<((rd_L1 l0 Ac).length:Int) then(if(rd (rd_L1 l0 Ab) (Ah))=(wrap64 (-(rd (rd_L1 l0 Ac) (Av)))) then((fS.f k4 Ae Ab).bind fun Ad=>((fS.f k4 Ae Ac).bind fun Ay=>(if 0≤Ad then(if Ad<(Ae.length:Int) then(fD.l3 k4 l0 (Ae.set (Ad:Int).toNat Ay) Ab Ac (wrap64 (Af+1))) else(none)) else(none)))) else(fD.l3 k4 l0 Ae Ab Ac (wrap64 (Af+1)))) else(none)) else(none))=some r:=by first|(rw[Ch]at H;exact H)|(simp only[Ch]at H ⊢;exact H)
     by_cases Dw:0≤(Av)
     rotate_left
     ·rw[ig Dw]at H
      exact absurd H (by simp)
     rw[ip Dw]at H
     have Ga:=ode Dw
     clear Dw
     by_cases Dx:(Av)<((rd_L1 l0 Ac).length:Int)
     rotate_left
     ·rw[ig Dx]at H
      exact absurd H (by simp)
     rw[ip Dx]at H
     have Gb:=ode Dx
     clear Dx
     by_cases Ck:(rd (rd_L1 l0 Ab) (Ah))=(wrap64 (-(rd (rd_L1 l0 Ac) (Av))))
     rotate_left
     ·rw[ig Ck]at H
      have Dg:=beq_eq_false_iff_ne.mpr Ck
      have Dh:=bne_iff_ne.mpr Ck
      have H':=Az.mk H
      clear H
      have Bd:0≤(Ab:Int):=od
      have Bf:Ab<(l0.length:Int):=od
      obtain⟨Bs,Cl,Cm,Cn,Ai,Aj,Ak⟩:=at_L1 Dm.out Ab Bd Bf
      cases Cn
      replace Ai:=kc HB Ai
      have Ba:=Az.mk Ak
      have Ca:=Az.mk Aj
      clear Ak Aj
      replace Bd:=ets Bd
      replace Bf:=ets Bf
      have Bh:0≤((Ah):Int):=od
      have Bi:(Ah)<((rd_L1 l0 Ab).length:Int):=od
      obtain⟨Di,Co,Al⟩:=Kd.at_int Ba.out (Ah) Bh Bi
      cases Co
      replace Al:=kc HB Al
      replace Bh:=ets Bh
      replace Bi:=ets Bi
      have Bj:0≤(Ac:Int):=od
      have Bk:Ac<(l0.length:Int):=od
      obtain⟨Bt,Cp,Cq,Cs,Am,Ao,Ap⟩:=at_L1 Dm.out Ac Bj Bk
      obtain rfl:Bs=Bt:=(by injection Cs)
      replace Am:=kc HB Am
      have Bb:=Az.mk Ap
      have Cc:=Az.mk Ao
      clear Ap Ao
      replace Bj:=ets Bj
      replace Bk:=ets Bk
      have Bl:0≤((Av):Int):=od
      have Bm:(Av)<((rd_L1 l0 Ac).length:Int):=od
      obtain⟨Dj,Ct,Aq⟩:=Kd.at_int Bb.out (Av) Bl Bm
      cases Ct
      replace Aq:=kc HB Aq
      replace Bl:=ets Bl
      replace Bm:=ets Bm
      go_wp2
      repeat(go_quiet (fail);try go_wp2)
      go_roundg k4
      case measure=>have:=HK1.out;have:=HK2.out;have:=HK3.out;have:=HK4.out;omega
      case rel=>exact⟨(Ae),(wrap64 (Af+1)),rq2,H',⟨by have:=HK1.out;have:=HK2.out;have:=HK3.out;have:=HK4.out;omega⟩,⟨kR Aa.out⟩,⟨bw_29⟩⟩
     rw[ip Ck]at H
     have Dg:=beq_iff_eq.mpr Ck
     have Dh:=bne_eq_false_iff_eq.mpr Ck
     clear Ck
     replace H:=bez H
     obtain⟨Ad,Eg,H⟩:=H
     try dsimp only at H
     replace H:=bez H
     obtain⟨Ay,Gc,H⟩:=H
     try dsimp only at H
     by_cases Dy:0≤Ad
     rotate_left
     ·rw[ig Dy]at H
      exact absurd H (by simp)
     rw[ip Dy]at H
     have Gd:=ode Dy
     clear Dy
     by_cases Dz:Ad<(Ae.length:Int)
     rotate_left
     ·rw[ig Dz]at H
      exact absurd H (by simp)
     rw[ip Dz]at H
     have Ge:=ode Dz
     clear Dz
     obtain⟨Cu,hy⟩:∃y_:List Int,y_=(Ae.set (Ad:Int).toNat Ay):=⟨_,rfl⟩
     replace H:(fD.l3 k4 l0 Cu Ab Ac (wrap64 (Af+1)))=some r:=rh
     have Dk:=Az.mk hy
     clear hy
     have H':=Az.mk H
     clear H
     have Bd:0≤(Ab:Int):=od
     have Bf:Ab<(l0.length:Int):=od
     obtain⟨Bs,Cl,Cm,Cn,Ai,Aj,Ak⟩:=at_L1 Dm.out Ab Bd Bf
     cases Cn
     replace Ai:=kc HB Ai
     have Ba:=Az.mk Ak
     have Ca:=Az.mk Aj
     clear Ak Aj
     replace Bd:=ets Bd
     replace Bf:=ets Bf
     have Bh:0≤((Ah):Int):=od
     have Bi:(Ah)<((rd_L1 l0 Ab).length:Int):=od
     obtain⟨Di,Co,Al⟩:=Kd.at_int Ba.out (Ah) Bh Bi
     cases Co
     replace Al:=kc HB Al
     replace Bh:=ets Bh
     replace Bi:=ets Bi
     have Bj:0≤(Ac:Int):=od
     have Bk:Ac<(l0.length:Int):=od
     obtain⟨Bt,Cp,Cq,Cs,Am,Ao,Ap⟩:=at_L1 Dm.out Ac Bj Bk
     obtain rfl:Bs=Bt:=(by injection Cs)
     replace Am:=kc HB Am
     have Bb:=Az.mk Ap
     have Cc:=Az.mk Ao
     clear Ap Ao
     replace Bj:=ets Bj
     replace Bk:=ets Bk
     have Bl:0≤((Av):Int):=od
     have Bm:(Av)<((rd_L1 l0 Ac).length:Int):=od
     obtain⟨Dj,Ct,Aq⟩:=Kd.at_int Bb.out (Av) Bl Bm
     cases Ct
     replace Aq:=kc HB Aq
     replace Bl:=ets Bl
     replace Bm:=ets Bm
     obtain⟨Gh,Eh,Ei⟩:=Kd.R_slice Aa.out
     subst Ei
     go_wp2_with ((go_at_call 66;(with_reducible refine(fS.calls k4 _ _ Ae Ab Ad _ ?As ?Au Eg.out).mono ?_);(case As=>exact kC (Kd.R_reads' Aa.out).2.2);(case Au=>exact(Kd.R_reads' Aa.out).2.1);rintro e w' ⟨rfl,⟨nd,rfl⟩⟩;(try first|exact⟨rfl,_,World.drewN_drewN _ _ _⟩|exact⟨rfl,_,Eq.trans (World.drewN_drewN _ _ _) (congrArg (World.drewN _) (Nat.add_assoc _ _ _))⟩)))
     repeat(go_quiet (first|(go_at_call 66;(with_reducible refine(fS.calls k4 _ _ Ae Ab Ad _ ?As ?Au Eg.out).mono ?_);(case As=>exact kC (Kd.R_reads' Aa.out).2.2);(case Au=>exact(Kd.R_reads' Aa.out).2.1);rintro e w' ⟨rfl,⟨nd,rfl⟩⟩;(try first|exact⟨rfl,_,World.drewN_drewN _ _ _⟩|exact⟨rfl,_,Eq.trans (World.drewN_drewN _ _ _) (congrArg (World.drewN _) (Nat.add_assoc _ _ _))⟩))|(go_at_call 66;(with_reducible refine(fS.calls k4 _ _ Ae Ac Ay _ ?As ?Au Gc.out).mono ?_);(case As=>exact kC (Kd.R_reads' Aa.out).2.2);(case Au=>exact(Kd.R_reads' Aa.out).2.1);rintro e w' ⟨rfl,⟨nd,rfl⟩⟩;(try first|exact⟨rfl,_,World.drewN_drewN _ _ _⟩|exact⟨rfl,_,Eq.trans (World.drewN_drewN _ _ _) (congrArg (World.drewN _) (Nat.add_assoc _ _ _))⟩);have p25:0≤(Ad:Int):=od;have Cv:(Ad:Int)<((Ae.length:Int):Int):=od;obtain⟨Cd,Ej,Bu,Bv,gl25,Ek,HG25⟩:=Kd.R_form Aa.out (by omega);(first|cases Bu|(injection Bu with ea_ en_ ec_;(first|subst ea_|(injection ea_ with ea_;subst ea_));subst ec_;clear en_));have Dl:=Az.mk Bv;have El:=Az.mk HG25;clear Bv gl25 HG25;obtain⟨Cw,Da⟩:=Kd.R_celln 0 Aa.out (Ad:Int) p25 Cv;replace p25:=ets p25;replace Cv:=ets Cv;obtain⟨hy27_,hz27_⟩:=Kd.R_celln 0 Aa.out (Ad:Int) (od) (od);have Bw:=Kd.R_putg Aa.out (Ad:Int) Ay));try go_wp2_with (first|(go_at_call 66;(with_reducible refine(fS.calls k4 _ _ Ae Ab Ad _ ?As ?Au Eg.out).mono ?_);(case As=>exact kC (Kd.R_reads' Aa.out).2.2);(case Au=>exact(Kd.R_reads' Aa.out).2.1);rintro e w' ⟨rfl,⟨nd,rfl⟩⟩;(try first|exact⟨rfl,_,World.drewN_drewN _ _ _⟩|exact⟨rfl,_,Eq.trans (World.drewN_drewN _ _ _) (congrArg (World.drewN _) (Nat.add_assoc _ _ _))⟩))|(go_at_call 66;(with_reducible refine(fS.calls k4 _ _ Ae Ac Ay _ ?As ?Au Gc.out).mono ?_);(case As=>exact kC (Kd.R_reads' Aa.out).2.2);(case Au=>exact(Kd.R_reads' Aa.out).2.1);rintro e w' ⟨rfl,⟨nd,rfl⟩⟩;(try first|exact⟨rfl,_,World.drewN_drewN _ _ _⟩|exact⟨rfl,_,Eq.trans (World.drewN_drewN _ _ _) (congrArg (World.drewN _) (Nat.add_assoc _ _ _))⟩);have p25:0≤(Ad:Int):=od;have Cv:(Ad:Int)<((Ae.length:Int):Int):=od;obtain⟨Cd,Ej,Bu,Bv,gl25,Ek,HG25⟩:=Kd.R_form Aa.out (by omega);(first|cases Bu|(injection Bu with ea_ en_ ec_;(first|subst ea_|(injection ea_ with ea_;subst ea_));subst ec_;clear en_));have Dl:=Az.mk Bv;have El:=Az.mk HG25;clear Bv gl25 HG25;obtain⟨Cw,Da⟩:=Kd.R_celln 0 Aa.out (Ad:Int) p25 Cv;replace p25:=ets p25;replace Cv:=ets Cv;obtain⟨hy27_,hz27_⟩:=Kd.R_celln 0 Aa.out (Ad:Int) (od) (od);have Bw:=Kd.R_putg Aa.out (Ad:Int) Ay)|((with_reducible refine gate_store (t:=3) (p:=61) rfl ?_);(try(rw[drewN_self wr];generalize hq_:World.drewN wr _=wr;have n0_:=Az.mk (Kd.R_at hq_ Aa.out);have n1_:=Az.mk (below_at hq_ HB.out);clear hq_ Aa HB;have Aa:=n0_;have HB:=n1_;clear n0_ n1_;(try(obtain⟨hy27_,hz27_⟩:=Kd.R_celln 0 Aa.out (Ad:Int) (od) (od)));(try(have Bw:=Kd.R_putg Aa.out (Ad:Int) Ay))));refine store_event (t:=3) (p:=61) (v:=?vo_w28) (w1:=(wr.setCell ⟨Cd,(Ad:Int).toNat,none⟩ (.int .i64 Ay))) ?hg ?ho ?hn ?hr ?_;(case ho=>rfl);(case hg=>rfl);(case hn=>rfl);(case hr=>first|(go_simp;done)|(go_simp;rfl));intro Em hw;have hg:wr.grownBy Em (some Cd):=(by rw[hw];exact Bw.2);have hp_:Kd.R (Kd.int .i64) 3 Em w.heap.size (fun _=>True) (.slice (some ⟨Cd,0,none⟩) Ae.length Eh) Cu:=(by rw[hw,Dk.out];exact Bw.1);clear Bw;replace Aa:=Az.mk (hp_);replace HB:=Az.mk ((by rw[hw];exact bwS (HB.out) Dl.out:Below w.heap.size w Em));clear hg hw hp_)))
     go_roundg k4
     case measure=>have:=HK1.out;have:=HK2.out;have:=HK3.out;have:=HK4.out;omega
     case rel=>exact⟨(Cu),(wrap64 (Af+1)),rq2,H',⟨by have:=HK1.out;have:=HK2.out;have:=HK3.out;have:=HK4.out;omega⟩,⟨kR Aa.out⟩,⟨bw_29⟩⟩
theorem bw_30 {n:Nat}{v v':World} (h:Below n v v':=by repeat(first|(with_reducible first|exact HB.out|apply bwA|apply pbN|apply bwD|refine bwS ?_ GE556.out)|exact HB.out)):Below n v v':=h
theorem ln_30 {P:Prop} (h:P:=by(try simp only[List.map_toArray,List.map_cons,List.map_nil]);first|done|rfl|(simp only[List.length_drop,List.length_take];rfl)):P:=h
mutual
def gD.j0:Nat→List (List Int)→Bool→Option (Int × Int × Int × Int × Bool)
 |0,_,_=>none
 |k+1,x0,x15=>if x15=true then(some (0,0,0,0,false)) else((fT.f k x0).bind fun t559=>(gD.l0 k x0 t559 0 2))
def gD.l0:Nat→List (List Int)→List Int→Int→Int→Option (Int × Int × Int × Int × Bool)
 |0,_,_,_,_=>none
 |k+1,x0,x5,x6,x7=>if x7<(x5.length:Int) then(if 0≤x7 then((gK.f ((rd x5 x7)== x7)).bind fun t563=>(gD.l0 k x0 x5 (wrap64 (x6+t563)) (wrap64 (x7+1)))) else(none)) else(some (wrap64 (Int.tdiv (wrap64 ((wrap64 (2 - x6))+(wrap64 ((x0.length:Int) / 2)))) 2),0,0,x6,true))
end
def gD.f (k:Nat) (l0:List (List Int)):Option (Int × Int × Int × Int × Bool):=(fA.f k l0).bind fun t557=>(if t557=true then((fD.f k l0).bind fun t558=>(gD.j0 k l0 (t558 != 1))) else(gD.j0 k l0 true))
theorem gD.calls (k:Nat) (A0:Option Addr) (c0:Nat) (l0:List (List Int)) (r1:Int) (r2:Int) (r3:Int) (r4:Int) (r5:Bool) (w:World) (Bu:Kd.C (Kd.slice 3 (Kd.int .i64)) w A0 l0.length l0) (Bv:l0.length≤c0) (h:gD.f k l0=some (r1,r2,r3,r4,r5)):
  Calls Try.prog 18 #[.slice A0 l0.length c0] w fun e w'=>e= .returned (.tuple #[.agg #[.int .i64 r1, .int .i64 r2, .int .i64 r3], .int .i64 r4, .bool r5])∧Below w.heap.size w w':=by
 have hu42:=Try.underlying42
 have Bc:=Az.mk Bu
 have Bd:=Az.mk Bv
 clear Bu Bv
 have HB:=Az.mk (Below.refl w.heap.size w)
 have H:((fA.f k l0).bind fun As=>(if As=true then((fD.f k l0).bind fun Ai=>(gD.j0 k l0 (Ai != 1))) else(gD.j0 k l0 true)))=some (r1,r2,r3,r4,r5):=h
 clear h
 have Bo:=Az.mk H
 clear H
 go_enter Try.func18,Try.ntmps18
 go_upto_region 1 with (first|((with_reducible refine gtD (N:=2) rfl ?_);refine bx (N:=2) (cs:= #[.int .i64 0, .int .i64 0, .int .i64 0]) (t:=42) ?_;intro Ag hg w3 hbox hb;have Aa:=Az.mk (hbox);have Bw:=gwz hg bw_30;have GE556:=gwz hg bw_30;replace HB:=Az.mk (bwT bw_30 hb);clear hb hbox hg))
 (try simp only[Act.put,List.setIfInBounds_toArray,List.set_cons_zero,List.set_cons_succ])
 go_cut [15] (fun Cc wc=>∃(kq:Nat) (Ah:Bool),Cc= .bool Ah∧Az (gD.j0 kq l0 Ah=some (r1,r2,r3,r4,r5))∧Az (kq≤k)∧Az (wc.heap[Ag]?= some (.cells #[.int .i64 0, .int .i64 0, .int .i64 0] 42 (0,0)))∧Az (Below w.heap.size w wc))
 case first=>
  have H:=Bo.out
  clear Bo
  replace H:=bez H
  obtain⟨As,A4,H⟩:=H
  try dsimp only at H
  by_cases c5:As=true
  rotate_left
  ·replace c5:=Bool.eq_false_iff.mpr c5
   subst c5
   rw[ig ff]at H
   have H':=Az.mk H
   clear H
   go_wp2_with (first|((with_reducible refine gtC (f:=31) rfl ?_);refine clz Try.func31 (some 9) #[.slice A0 l0.length c0] ?_;(with_reducible refine(fA.calls k _ _ l0 false _ ?Ac ?Ad A4.out).mono ?_);(case Ac=>exact kC (Kd.C_below Bc.out HB.out));(case Ad=>exact Bd.out);rintro e w9 ⟨rfl,hb⟩;refine⟨_,rfl,?_⟩;replace Aa:=bkz Aa hb;replace HB:=Az.mk (bwT bw_30 hb);(try clear hb)))
   go_meet
   case rel=>exact⟨_,(true),rq2,H',⟨by first|omega|exact Nat.le_refl _⟩,⟨bk1 Aa⟩,⟨bw_30⟩⟩
  subst c5
  rw[ip rfl]at H
  replace H:=bez H
  obtain⟨Ai,A6,H⟩:=H
  try dsimp only at H
  have H':=Az.mk H
  clear H
  go_wp2_with (first|((with_reducible refine gtC (f:=31) rfl ?_);refine clz Try.func31 (some 9) #[.slice A0 l0.length c0] ?_;(with_reducible refine(fA.calls k _ _ l0 true _ ?Ac ?Ad A4.out).mono ?_);(case Ac=>exact kC (Kd.C_below Bc.out HB.out));(case Ad=>exact Bd.out);rintro e w7 ⟨rfl,hb⟩;refine⟨_,rfl,?_⟩;replace Aa:=bkz Aa hb;replace HB:=Az.mk (bwT bw_30 hb);(try clear hb))|(go_at_call 59;(with_reducible refine(fD.calls k _ _ l0 Ai _ ?Ac ?Ad A6.out).mono ?_);(case Ac=>exact kC (Kd.C_below Bc.out HB.out));(case Ad=>exact Bd.out);rintro e w8 ⟨rfl,hb⟩;replace Aa:=bkz Aa hb;replace HB:=Az.mk (bwT bw_30 hb);(try clear hb)))
  go_meet
  case rel=>exact⟨_,((Ai != 1)),rq2,H',⟨by first|omega|exact Nat.le_refl _⟩,⟨bk1 Aa⟩,⟨bw_30⟩⟩
 clear Bo
 try clear c5
 obtain⟨kq,Ah,rfl,HA,Bx,Aa,HB⟩:=hcut
 cases kq with
 |zero=>exact absurd HA.out (by simp[gD.j0])
 |succ Bp=>
  have H:=HA.out
  clear HA
  simp only[gD.j0]at H
  by_cases Ax:Ah=true
  ·subst Ax
   rw[ip rfl]at H
   simp only[Option.some.injEq,Prod.mk.injEq]at H
   obtain⟨rfl,rfl,rfl,rfl,rfl⟩:=H
   have Aj:=bkc0 Aa
   have Ak:=bkc1 Aa
   have Al:=bkc2 Aa
   have Am:=bkF Aa.out 0
   have Ao:=bkF Aa.out 1
   have Ap:=bkF Aa.out 2
   go_wp2
   refine bodyPost_ret (results_ctt rfl _ _ Ag 42 #[.int .i64 0, .int .i64 0, .int .i64 0] (0,0) _ rfl bkv Try.underlying42 rfl (by kernel_rfl)) rfl ?_
   exact⟨rq1,bw_30⟩
  replace Ax:=Bool.eq_false_iff.mpr Ax
  subst Ax
  rw[ig ff]at H
  replace H:=bez H
  obtain⟨Ae,Cd,H⟩:=H
  try dsimp only at H
  have H':=Az.mk H
  clear H
  go_wp2_with (first|((with_reducible refine gtC (f:=60) rfl ?_);refine clz Try.func60 (some 18) #[.slice A0 l0.length c0] ?_;(with_reducible refine(fT.calls Bp _ _ l0 Ae _ ?Ac ?Ad Cd.out).mono ?_);(case Ac=>exact kC (Kd.C_below Bc.out HB.out));(case Ad=>exact Bd.out);rintro e Cj ⟨Bq,rfl,By,hb⟩;refine⟨_,rfl,?_⟩;have Ay:=Az.mk (Kd.R_lower By (bwZ bw_30));replace Aa:=bkz Aa hb;replace HB:=Az.mk (bwT bw_30 hb);(try clear hb);(try clear By)))
  go_loopg [6,7] Bp (fun kq v6 v7 w'=>∃(Af:Int) (Ab:Int),v6= .int .i64 Af∧v7= .int .i64 Ab∧Az (gD.l0 kq l0 Ae Af Ab=some (r1,r2,r3,r4,r5))∧Az (kq≤Bp)∧Az (Kd.R (Kd.int .i64) 3 w' w.heap.size (fun _=>True) Bq Ae)∧Az (w'.heap[Ag]?= some (.cells #[.int .i64 0, .int .i64 0, .int .i64 0] 42 (0,0)))∧Az (Below w.heap.size w w'))
  case atStart=>exact⟨(0),(2),rq2,rq2,H',⟨Nat.le_refl _⟩,⟨kR Ay.out⟩,⟨bk1 Aa⟩,⟨bw_30⟩⟩
  clear H'
  try clear c5
  try clear Ax
  try clear Aj
  try clear Ak
  try clear Al
  try clear Am
  try clear Ao
  try clear Ap
  obtain⟨Af,Ab,rfl,rfl,HA,HK2,Aq,Aa,HB⟩:=hrel
  cases gk with
  |zero=>exact absurd HA.out (by simp[gD.l0])
  |succ k2=>
   have H:=HA.out
   clear HA
   simp only[gD.l0]at H
   by_cases Aw:Ab<(Ae.length:Int)
   rotate_left
   ·rw[ig Aw]at H
    have Ba:=decide_eq_false Aw
    clear Aw
    simp only[Option.some.injEq,Prod.mk.injEq]at H
    obtain⟨rfl,rfl,rfl,rfl,rfl⟩:=H
    obtain⟨Ce,Cf,Br⟩:=Kd.R_slice Aq.out
    subst Br
    have Bf:=bkc0 Aa
    have Bh:=bkc1 Aa
    have Bi:=bkc2 Aa
    have Bj:=bkF Aa.out 0
    have Bk:=bkF Aa.out 1
    have Bl:=bkF Aa.out 2
    go_wp2
    refine bodyPost_ret (results_ctt rfl _ _ Ag 42 #[.int .i64 (wrap64 (Int.tdiv (wrap64 ((wrap64 (2 - Af))+(wrap64 ((l0.length:Int) / 2)))) 2)), .int .i64 0, .int .i64 0] (0,0) _ rfl (by(with_reducible repeat first|apply bkN|apply bkD|apply bkA);refine bkp (cs:= #[.int .i64 (wrap64 (Int.tdiv (wrap64 ((wrap64 (2 - Af))+(wrap64 ((l0.length:Int) / 2)))) 2)), .int .i64 0, .int .i64 0]) ?_ 2 _ rfl;(with_reducible repeat first|apply bkN|apply bkD|apply bkA);refine bkp (cs:= #[.int .i64 (wrap64 (Int.tdiv (wrap64 ((wrap64 (2 - Af))+(wrap64 ((l0.length:Int) / 2)))) 2)), .int .i64 0, .int .i64 0]) ?_ 1 _ rfl;(with_reducible repeat first|apply bkN|apply bkD|apply bkA);refine bkp (cs:= #[.int .i64 0, .int .i64 0, .int .i64 0]) ?_ 0 _ rfl;(with_reducible repeat first|apply bkN|apply bkD|apply bkA);exact Aa.out) Try.underlying42 rfl (by kernel_rfl)) rfl ?_
    exact⟨rq1,bw_30⟩
   rw[ip Aw]at H
   have Ba:=ode Aw
   clear Aw
   by_cases Bm:0≤Ab
   rotate_left
   ·rw[ig Bm]at H
    exact absurd H (by simp)
   rw[ip Bm]at H
   have Bz:=ode Bm
   clear Bm
   replace H:=bez H
   obtain⟨Bb,Cg,H⟩:=H
   try dsimp only at H
   have H':=Az.mk H
   clear H
   obtain⟨Ch,Ci,Bs⟩:=Kd.R_slice Aq.out
   subst Bs
   have Au:0≤(Ab:Int):=od
   have Av:Ab<(Ae.length:Int):=od
   obtain⟨Ca,Bt,Bn⟩:=Kd.at_int (Kd.R_reads' Aq.out).2.2 Ab Au Av
   cases Bt
   replace Au:=ets Au
   replace Av:=ets Av
   go_wp2_with (first|((with_reducible refine gtC (f:=61) rfl ?_);refine clz Try.func61 (some 32) #[.bool ((rd Ae Ab)== Ab)] ?_;(with_reducible refine(gK.calls ((rd Ae Ab)== Ab) Bb _ Cg.out).mono ?_);rintro e w' ⟨rfl,⟨nd,rfl⟩⟩;refine⟨_,rfl,?_⟩))
   go_roundg k2
   case measure=>have:=Bx.out;have:=HK2.out;omega
   case rel=>exact⟨(wrap64 (Af+Bb)),(wrap64 (Ab+1)),rq2,rq2,H',⟨by have:=Bx.out;have:=HK2.out;omega⟩,⟨kR Aq.out⟩,⟨bk1 Aa⟩,⟨bw_30⟩⟩
def jZ.f (l0:List Int):Option (List Int):=(some (([]:List Int):List Int)).bind fun y564=>(if y564.length+l0.length<17592186044416 then(some (y564 ++ l0)) else(none))
theorem jZ.calls (A0:Option Addr) (c0:Nat) (l0:List Int) (r:List Int) (w:World) (Ai:Kd.C (Kd.int .i64) w A0 l0.length l0) (Aj:l0.length≤c0) (h:jZ.f l0=some r):
  Calls Try.prog 62 #[.slice A0 l0.length c0] w fun e w'=>∃v0_:Value,e= .returned (v0_)∧Kd.R (Kd.int .i64) 3 w' w.heap.size (fun _=>True) v0_ r∧Below w.heap.size w w':=by
 have Ak:=Az.mk Ai
 have Am:=Az.mk Aj
 clear Ai Aj
 have HB:=Az.mk (Below.refl w.heap.size w)
 have H:((some (([]:List Int):List Int)).bind fun Aa=>(if Aa.length+l0.length<17592186044416 then(some (Aa ++ l0)) else(none)))=some r:=h
 clear h
 obtain⟨Aa,hy⟩:∃y_:List Int,y_=(([]:List Int)):=⟨_,rfl⟩
 replace H:(if Aa.length+l0.length<17592186044416 then(some (Aa ++ l0)) else(none))=some r:=rh
 have Ab:=Az.mk hy
 clear hy
 by_cases c2:Aa.length+l0.length<17592186044416
 rotate_left
 ·rw[ig c2]at H
  exact absurd H (by simp)
 rw[ip c2]at H
 have LMc2:=Az.mk c2
 clear c2
 obtain⟨Ag,hy⟩:∃y_:List Int,y_=(Aa ++ l0):=⟨_,rfl⟩
 replace H:(some Ag)=some r:=rh
 have Ad:=Az.mk hy
 clear hy
 obtain rfl:=Option.some.inj H
 go_enter Try.func62,Try.ntmps62
 go_wp2_with (first|((with_reducible refine gtD (N:=3) rfl ?_);refine Kd.R_lit (Kd.int .i64) _ 3 ?hg (N:=3) ?hd (xs:=([]:List Int)) (inner:=[]) (ok:=fun _=>True) (okp:=fun _=>True) ?hr ?hp (fun _ hk=>hk) trivial (Below.refl _ _) (Nat.le_refl _) (by simp) ?_;(case hd=>rfl);(case hg=>rfl);(case hr=>first|(go_simp;done)|(go_simp;rfl));(case hp=>exact(Reps.none _ _));intro Ah w3 Ae hb hg_ hnew_;clear hg_ hnew_;(first|rw[←Ab.out]at Ae|(simp only[Int.reduceToNat]at Ae;rw[←Ab.out]at Ae));have Ac:=Az.mk (Kd.R_lower Ae (bwZ bw_30));replace HB:=Az.mk (bwT bw_30 hb);clear hb Ae)|((with_reducible refine gate_builtin (b:= .append) (xs:= #[.tmp 3, .tmp 4]) rfl ?_);at_builtin;refine Kd.R_append_rows (Kd.int .i64) (w0:=w) w.heap.size rfl (.tmp 3) (.tmp 4) 25 3 (.int .i64 0) 8 rfl Try.underlying25 info3 rfl (by decide) (by omega) Ah Aa l0 _ _ _ (fun _=>True) (fun _=>False) rfl rfl ?aO ?aR (fun _ _ h=>h) (fun _ h=>h.elim) ?aF ?aB ?aS ?aL ?_;(case aR=>exact kC (Kd.C_below Ak.out HB.out));(case aB=>exact bw_30);(case aF=>exact(fun _ _=>trivial));(case aO=>exact(kR Ac.out));(case aS=>exact(bwZ bw_30));(case aL=>have:=LMc2.out;omega);intro Al w5 ho hb hg hat;rw[←Ad.out]at ho;have n0_:=Az.mk (hb);have n1_:=Az.mk (ho);clear HB;clear Ac;have HB:=n0_;have Af:=n1_;clear n0_ n1_;clear ho hb hg hat))
 go_ret
 exact⟨_,rq1,kR Af.out,bw_30⟩
mutual
def gE.l0:Nat→List (List Int)→List Int→List Int→Int→Int→Option Bool
 |0,_,_,_,_,_=>none
 |k+1,t,x,up,corner,i=>if i<(t.length:Int) then(gE.l1 k t x up corner i 0) else(some true)
def gE.l1:Nat→List (List Int)→List Int→List Int→Int→Int→Int→Option Bool
 |0,_,_,_,_,_,_=>none
 |k+1,t,x,up,corner,i,j=>if j<3 then((joiner_top.l0 k up (wrap64 (wrap64 (3*i)+Int.tmod (wrap64 (j+1)) 3))).bind fun a=>((joiner_top.l0 k up corner).bind fun b=>(if a=b then((jG.f t x i j).bind fun n=>(if n<1 then some false else(gE.l1 k t x up corner i (wrap64 (j+1))))) else(gE.l1 k t x up corner i (wrap64 (j+1)))))) else(gE.l0 k t x up corner (wrap64 (i+1)))
end
theorem gE.calls (k:Nat) (A0:Option Addr) (c0:Nat) (l0:List (List Int)) (A1:Option Addr) (c1:Nat) (l1:List Int) (base p:Nat) (AJ:Option Addr) (cJ:Nat) (up:List Int) (a3:Int) (r:Bool) (w:World) (Ab:Kd.C (Kd.slice 3 (Kd.int .i64)) w A0 l0.length l0) (Ac:l0.length≤c0) (Ad:Kd.C (Kd.int .i64) w A1 l1.length l1) (Ae:l1.length≤c1) (hJ:Jn w base p AJ cJ up) (h:gE.l0 k l0 l1 up a3 0=some r):
  Calls Try.prog 63 #[.slice A0 l0.length c0, .slice A1 l1.length c1, .pointer (some ⟨p,0,none⟩), .int .i64 a3] w fun e w'=>e= .returned (.bool r)∧Below w.heap.size w w':=by
 have Aa:=Az.mk Ab
 have Af:=Az.mk Ac
 have HR1:=Az.mk Ad
 have Ag:=Az.mk Ae
 have Ah:=Az.mk hJ
 have H':=Az.mk h
 clear Ab Ac Ad Ae hJ h
 go_enter Try.func63,Try.ntmps63
 go_wp2
 go_loopg [13] k (fun kq Ai w'=>∃(i_1:Int),Ai= .int .i64 i_1∧Az (gE.l0 kq l0 l1 up a3 i_1=some r)∧Az (kq≤k)∧Az (Below w.heap.size w w'))
 case atStart=>exact⟨0,rfl,H',⟨Nat.le_refl _⟩,⟨by first|exact Below.refl _ _|exact pbN (Below.refl _ _) _⟩⟩
 clear H'
 obtain⟨i_1,rfl,HA,HK1,HB⟩:=hrel
 cases gk with
 |zero=>exact absurd HA.out (by simp[gE.l0])
 |succ k1=>
  have H:=HA.out
  clear HA
  simp only[gE.l0]at H
  by_cases b2:i_1<(l0.length:Int)
  rotate_left
  ·rw[ig b2]at H
   have b2b:decide (i_1<(l0.length:Int))=false:=decide_eq_false b2
   clear b2
   obtain rfl:=Option.some.inj H
   go_wp2
   go_ret
   exact⟨rfl,HB.out⟩
  rw[ip b2]at H
  have b2b:=ode b2
  clear b2
  have H':=Az.mk H
  clear H
  go_wp2
  go_loopg [16] k1 (fun kq Aj w'=>∃(j_1:Int),Aj= .int .i64 j_1∧Az (gE.l1 kq l0 l1 up a3 i_1 j_1=some r)∧Az (kq≤k1)∧Az (Below w.heap.size w w'))
  case atStart=>exact⟨0,rfl,H',⟨Nat.le_refl _⟩,HB⟩
  clear H' HB
  obtain⟨j_1,rfl,HA,HK2,HB⟩:=hrel
  cases gk with
  |zero=>exact absurd HA.out (by simp[gE.l1])
  |succ k2=>
   have H:=HA.out
   clear HA
   simp only[gE.l1]at H
   by_cases d2:j_1<3
   rotate_left
   ·rw[ig d2]at H
    have d2b:decide (j_1<3)=false:=decide_eq_false d2
    clear d2
    have H':=Az.mk H
    clear H
    go_wp2
    go_roundg k2
    case measure=>have:=HK1.out;have:=HK2.out;omega
    case rel=>exact⟨_,rfl,H',⟨by have:=HK1.out;have:=HK2.out;omega⟩,HB⟩
   rw[ip d2]at H
   have d2b:=ode d2
   clear d2
   replace H:=be.mp H
   obtain⟨ta,T1,H⟩:=H
   replace H:=be.mp H
   obtain⟨tb,T2,H⟩:=H
   have T1:=Az.mk T1
   have T2:=Az.mk T2
   have HJ:=Az.mk (Ah.out.below HB.out)
   by_cases e1:ta=tb
   rotate_left
   ·rw[ig e1]at H
    have e1b:(ta== tb)=false:=beq_eq_false_iff_ne.mpr e1
    clear e1
    have H':=Az.mk H
    clear H
    go_wp2_with (first
      |(go_at_call 40;refine(joiner_top.calls k2 ⟨p,0,none⟩ AJ cJ up _ _ _ (by first|exact(HJ.out.drewN _).cell|exact HJ.out.cell) (by first|exact(HJ.out.drewN _).C|exact HJ.out.C) T1.out).mono ?_;rintro e w' ⟨rfl,⟨nd1,rfl⟩⟩;clear T1)
      |(go_at_call 40;refine(joiner_top.calls k2 ⟨p,0,none⟩ AJ cJ up _ _ _ (by first|exact(HJ.out.drewN _).cell|exact HJ.out.cell) (by first|exact(HJ.out.drewN _).C|exact HJ.out.C) T2.out).mono ?_;rintro e w' ⟨rfl,⟨nd2,rfl⟩⟩;clear T2))
    go_roundg k2
    case measure=>have:=HK1.out;have:=HK2.out;omega
    case rel=>exact⟨_,rfl,H',⟨by have:=HK2.out;omega⟩,⟨by first|exact HB.out|exact pbN HB.out _⟩⟩
   rw[ip e1]at H
   have e1b:(ta== tb)=true:=beq_iff_eq.mpr e1
   clear e1
   replace H:=be.mp H
   obtain⟨n,T3,H⟩:=H
   have T3:=Az.mk T3
   by_cases e2:n<1
   ·rw[ip e2]at H
    have e2b:=ode e2
    clear e2
    obtain rfl:=Option.some.inj H
    go_wp2_with (first
     |(go_at_call 40;refine(joiner_top.calls k2 ⟨p,0,none⟩ AJ cJ up _ _ _ (by first|exact(HJ.out.drewN _).cell|exact HJ.out.cell) (by first|exact(HJ.out.drewN _).C|exact HJ.out.C) T1.out).mono ?_;rintro e w' ⟨rfl,⟨nd1,rfl⟩⟩;clear T1)
     |(go_at_call 40;refine(joiner_top.calls k2 ⟨p,0,none⟩ AJ cJ up _ _ _ (by first|exact(HJ.out.drewN _).cell|exact HJ.out.cell) (by first|exact(HJ.out.drewN _).C|exact HJ.out.C) T2.out).mono ?_;rintro e w' ⟨rfl,⟨nd2,rfl⟩⟩;clear T2)
     |(go_at_call 68;refine(jG.calls A0 c0 l0 A1 c1 l1 _ _ n _ (by first|exact Kd.C_drewN (Kd.C_below Aa.out HB.out) _|exact Kd.C_below Aa.out HB.out) Af.out (by first|exact Kd.C_drewN (Kd.C_below HR1.out HB.out) _|exact Kd.C_below HR1.out HB.out) Ag.out T3.out).mono ?_;rintro e W3 ⟨rfl,hb⟩;have HB3:=Az.mk (bwT (by first|exact pbN HB.out _|exact HB.out) hb);clear hb T3 HB;have HB:=HB3;clear HB3))
    go_ret
    exact⟨rfl,by first|exact HB.out|exact pbN HB.out _⟩
   rw[ig e2]at H
   have e2b:decide (n<1)=false:=decide_eq_false e2
   clear e2
   have H':=Az.mk H
   clear H
   go_wp2_with (first
    |(go_at_call 40;refine(joiner_top.calls k2 ⟨p,0,none⟩ AJ cJ up _ _ _ (by first|exact(HJ.out.drewN _).cell|exact HJ.out.cell) (by first|exact(HJ.out.drewN _).C|exact HJ.out.C) T1.out).mono ?_;rintro e w' ⟨rfl,⟨nd1,rfl⟩⟩;clear T1)
    |(go_at_call 40;refine(joiner_top.calls k2 ⟨p,0,none⟩ AJ cJ up _ _ _ (by first|exact(HJ.out.drewN _).cell|exact HJ.out.cell) (by first|exact(HJ.out.drewN _).C|exact HJ.out.C) T2.out).mono ?_;rintro e w' ⟨rfl,⟨nd2,rfl⟩⟩;clear T2)
    |(go_at_call 68;refine(jG.calls A0 c0 l0 A1 c1 l1 _ _ n _ (by first|exact Kd.C_drewN (Kd.C_below Aa.out HB.out) _|exact Kd.C_below Aa.out HB.out) Af.out (by first|exact Kd.C_drewN (Kd.C_below HR1.out HB.out) _|exact Kd.C_below HR1.out HB.out) Ag.out T3.out).mono ?_;rintro e W3 ⟨rfl,hb⟩;have HB3:=Az.mk (bwT (by first|exact pbN HB.out _|exact HB.out) hb);clear hb T3 HB;have HB:=HB3;clear HB3))
   go_roundg k2
   case measure=>have:=HK1.out;have:=HK2.out;omega
   case rel=>exact⟨_,rfl,H',⟨by have:=HK2.out;omega⟩,⟨by first|exact HB.out|exact pbN HB.out _⟩⟩
theorem gE.callsn (k:Nat) (A0:Option Addr) (c0:Nat) (l0:List (List Int)) (A1:Option Addr) (c1:Nat) (l1:List Int) (n1:Nat) (hn:n1=l1.length) (base p:Nat) (AJ:Option Addr) (cJ:Nat) (up:List Int) (a3:Int) (r:Bool) (w:World) (Aa:Kd.C (Kd.slice 3 (Kd.int .i64)) w A0 l0.length l0) (Ab:l0.length≤c0) (Ac:Kd.C (Kd.int .i64) w A1 l1.length l1) (Ad:l1.length≤c1) (hJ:Jn w base p AJ cJ up) (h:gE.l0 k l0 l1 up a3 0=some r):
  Calls Try.prog 63 #[.slice A0 l0.length c0, .slice A1 n1 c1, .pointer (some ⟨p,0,none⟩), .int .i64 a3] w fun e w'=>e= .returned (.bool r)∧Below w.heap.size w w':=by
 subst hn
 exact gE.calls k A0 c0 l0 A1 c1 l1 base p AJ cJ up a3 r w Aa Ab Ac Ad hJ h
theorem z31_0 {p:Prop} (h:p:=by first|exact Kd.C_drewN (Kd.C_below HR1.out HB.out) _|exact Kd.C_below HR1.out HB.out):p:=h
def cornerOf (c:Int):Int:=if Int.tmod c 3=2 then wrap64 (wrap64 (Int.tdiv c 3)*3)else wrap64 (wrap64 (wrap64 (Int.tdiv c 3)*3)+Int.tmod (wrap64 (c+1)) 3)
mutual
def fC.l0:Nat→List (List Int)→List Int→List Int→Bool→Option (List Int × Bool)
 |0,_,_,_,_=>none
 |k+1,t,up,out,again=>if again=true then(fC.l1 k t up out 0 false) else(some (out,true))
def fC.l1:Nat→List (List Int)→List Int→List Int→Int→Bool→Option (List Int × Bool)
 |0,_,_,_,_,_=>none
 |k+1,t,up,out,c,again=>if c<wrap64 (3*(t.length:Int)) then(if again=true then(fC.l0 k t up out again) else((gE.l0 k t out up (cornerOf c) 0).bind fun b=>(if b=true then((gH.f k t (cornerOf c)).bind fun y=>(fC.l2 k t up out c y 0)) else(fC.l1 k t up out (wrap64 (c+1)) again)))) else(fC.l0 k t up out again)
def fC.l2:Nat→List (List Int)→List Int→List Int→Int→List Int→Int→Option (List Int × Bool)
 |0,_,_,_,_,_,_=>none
 |k+1,t,up,out,c,y,e=>if e<(y.length:Int) then(if 0≤e then(if e<(out.length:Int) then(fC.l2 k t up (out.set e.toNat (wrap64 (rd out e - rd y e))) c y (wrap64 (e+1)))else none)else none) else(fC.l1 k t up out (wrap64 (c+1)) true)
end
def fC.f (k:Nat) (t:List (List Int)) (x:List Int):Option (List Int × Bool):=(fH.f k t x).bind fun b=>(if b=true then((gB.f k t).bind fun up=>((jZ.f x).bind fun out=>(fC.l0 k t up out true))) else(some (([]:List Int),false)))
set_option maxHeartbeats 16000000 in
theorem fC.calls (k:Nat) (A0:Option Addr) (c0:Nat) (l0:List (List Int)) (A1:Option Addr) (c1:Nat) (l1:List Int) (r1:List Int) (r2:Bool) (w:World) (Aj:Kd.C (Kd.slice 3 (Kd.int .i64)) w A0 l0.length l0) (Ak:l0.length≤c0) (Al:Kd.C (Kd.int .i64) w A1 l1.length l1) (Am:l1.length≤c1) (h:fC.f k l0 l1=some (r1,r2)):
  Calls Try.prog 19 #[.slice A0 l0.length c0, .slice A1 l1.length c1] w fun e w'=>∃v0_:Value,e= .returned (.tuple #[v0_, .bool r2])∧Kd.R (Kd.int .i64) 3 w' w.heap.size (fun _=>True) v0_ r1∧Below w.heap.size w w':=by
 have Af:=Az.mk Aj
 have Ae:=Az.mk Ak
 have Ag:=Az.mk Al
 have HXC:=Az.mk Am
 clear Aj Ak Al Am
 obtain⟨r,hr⟩:∃r_:List Int × Bool,(r1,r2)=r_:=⟨_,rfl⟩
 have HR:=Az.mk hr
 rw[hr]at h
 clear hr
 unfold fC.f at h
 replace h:=be.mp h
 obtain⟨bf,T1,h⟩:=h
 have T1:=Az.mk T1
 by_cases b1:bf=true
 rotate_left
 ·rw[ig b1]at h
  replace b1:=Bool.eq_false_iff.mpr b1
  subst b1
  obtain rfl:=Option.some.inj h
  obtain⟨rfl,rfl⟩:=Prod.mk.injEq .. ▸ HR.out
  go_enter Try.func19,Try.ntmps19
  go_wp2_with (first
   |(go_at_call 26;refine(fH.calls k A0 c0 l0 A1 c1 l1 false _ (by first|exact Kd.C_drewN Af.out _|exact Af.out) Ae.out (by first|exact Kd.C_drewN Ag.out _|exact Ag.out) HXC.out T1.out).mono ?_;rintro e W0 ⟨rfl,hb⟩;have HBa:=Az.mk hb;clear hb T1))
  go_ret2
  exact⟨_,rfl,Kd.R_nil _ _ _ _ _,by first|exact HBa.out|exact pbN HBa.out _⟩
 subst b1
 rw[ip rfl]at h
 replace h:=be.mp h
 obtain⟨up,T2,h⟩:=h
 replace h:=be.mp h
 obtain⟨out,T3,h⟩:=h
 have T2:=Az.mk T2
 have T3:=Az.mk T3
 have H':=Az.mk h
 clear h
 have HB0:=Az.mk (Below.refl w.heap.size w)
 obtain⟨L3,hL3⟩:∃j_:Int,wrap64 (3*(l0.length:Int))=j_:=⟨_,rfl⟩
 have hL3w:IntKind.i64.wrap (3*(l0.length:Int))=L3:=(i64_w _).trans hL3
 go_enter Try.func19,Try.ntmps19
 go_wp2_with (first
  |(go_at_call 26;refine(fH.calls k A0 c0 l0 A1 c1 l1 true _ (by first|exact Kd.C_drewN Af.out _|exact Af.out) Ae.out (by first|exact Kd.C_drewN Ag.out _|exact Ag.out) HXC.out T1.out).mono ?_;rintro e W0 ⟨rfl,hb⟩;have HBa:=Az.mk (bwT (by first|exact pbN HB0.out _|exact HB0.out) hb);clear hb T1 HB0)
  |(go_at_call 57;refine(gB.calls k A0 c0 l0 up _ (by first|exact Kd.C_drewN (Kd.C_below Af.out HBa.out) _|exact Kd.C_below Af.out HBa.out) Ae.out T2.out).mono ?_;rintro e W1 ⟨p,AJ,cJ,rfl,hj,hb⟩;have HB1:=Az.mk (bwT (by first|exact pbN HBa.out _|exact HBa.out) hb);have Ao:=Az.mk (hj.lower (by first|exact HBa.out.size|exact(pbN HBa.out _).size));have HR1:=Az.mk (Kd.C_below Af.out HB1.out);have Ah:=Az.mk (Kd.C_below Ag.out HB1.out);clear hj hb T2 HBa Af Ag)
  |(go_at_call 62;refine(jZ.calls A1 c1 l1 out _ (by first|exact Kd.C_drewN Ah.out _|exact Ah.out) HXC.out T3.out).mono ?_;rintro e W2 ⟨v,rfl,ho,hb⟩;have HO:=Az.mk (Kd.R_lower (base':=W1.heap.size) ho (by first|exact Nat.le_refl _));have HB:=Az.mk (bwT (by first|exact Below.refl _ _|exact pbN (Below.refl _ _) _) hb);clear ho hb T3 Ah;obtain⟨AO,cO,eO⟩:=Kd.R_slice HO.out;generalize out.length=nO at eO;subst eO))
 go_loopg [8] k (fun kq v8 w'=>∃(Ad:List Int) (ag:Bool),v8= .bool ag∧Az (fC.l0 kq l0 up Ad ag=some r)∧Az (kq≤k)∧Az (Kd.R (Kd.int .i64) 3 w' W1.heap.size (fun _=>True) (.slice AO nO cO) Ad)∧Az (Below W1.heap.size W1 w'))
 case atStart=>exact⟨out,true,rfl,H',⟨Nat.le_refl _⟩,HO,HB⟩
 clear H' HO HB
 obtain⟨Ad,ag,rfl,HA,HK1,HO,HB⟩:=hrel
 cases gk with
 |zero=>exact absurd HA.out (by simp[fC.l0])
 |succ k1=>
  have H:=HA.out
  clear HA
  simp only[fC.l0]at H
  by_cases b2:ag=true
  rotate_left
  ·rw[ig b2]at H
   replace b2:=Bool.eq_false_iff.mpr b2
   subst b2
   obtain rfl:=Option.some.inj H
   obtain⟨rfl,rfl⟩:=Prod.mk.injEq .. ▸ HR.out
   go_wp2
   go_ret2
   exact⟨_,rfl,Kd.R_lower HO.out HB1.out.size,bwT HB1.out HB.out⟩
  subst b2
  rw[ip rfl]at H
  have H':=Az.mk H
  clear H
  go_wp2
  go_loopg [8,9] k1 (fun kq v8 v9 w'=>∃(Aa:List Int) (ag:Bool) (c_1:Int),v8= .bool ag∧v9= .int .i64 c_1∧Az (fC.l1 kq l0 up Aa c_1 ag=some r)∧Az (kq≤k1)∧Az (Kd.R (Kd.int .i64) 3 w' W1.heap.size (fun _=>True) (.slice AO nO cO) Aa)∧Az (Below W1.heap.size W1 w'))
  case atStart=>exact⟨Ad,false,0,rfl,rfl,H',⟨Nat.le_refl _⟩,HO,HB⟩
  clear H' HO HB
  obtain⟨Aa,ag,c_1,rfl,rfl,HA,HK2,HO,HB⟩:=hrel
  cases gk with
  |zero=>exact absurd HA.out (by simp[fC.l1])
  |succ k2=>
   have H:=HA.out
   clear HA
   simp only[fC.l1]at H
   rw[hL3]at H
   by_cases d1:c_1<L3
   rotate_left
   ·rw[ig d1]at H
    have d1b:decide (c_1<L3)=false:=decide_eq_false d1
    clear d1
    have H':=Az.mk H
    clear H
    go_wp2
    go_roundg k2
    case measure=>have:=HK1.out;have:=HK2.out;omega
    case rel=>exact⟨Aa,ag,rfl,H',⟨by have:=HK1.out;have:=HK2.out;omega⟩,HO,HB⟩
   rw[ip d1]at H
   have d1b:=ode d1
   replace d1:=ets d1
   by_cases d2:ag=true
   ·subst d2
    rw[ip rfl]at H
    have H':=Az.mk H
    clear H
    go_wp2
    go_roundg k2
    case measure=>have:=HK1.out;have:=HK2.out;omega
    case rel=>exact⟨Aa,true,rfl,H',⟨by have:=HK1.out;have:=HK2.out;omega⟩,HO,HB⟩
   rw[ig d2]at H
   replace d2:=Bool.eq_false_iff.mpr d2
   subst d2
   by_cases m2:Int.tmod c_1 3=2
   ·have em:cornerOf c_1=wrap64 (wrap64 (Int.tdiv c_1 3)*3):=by unfold cornerOf;rw[ip m2]
    have m2b:(Int.tmod c_1 3== 2)=true:=beq_iff_eq.mpr m2
    rw[em]at H
    clear em m2
    have HJ:=Az.mk (Ao.out.below HB.out)
    replace H:=be.mp H
    obtain⟨b,T1,H⟩:=H
    have T1:=Az.mk T1
    by_cases bb:b=true
    rotate_left
    ·rw[ig bb]at H
     replace bb:=Bool.eq_false_iff.mpr bb
     subst bb
     have H':=Az.mk H
     clear H
     go_wp2_with (first
      |(go_at_call 63;refine(gE.callsn k2 A0 c0 l0 AO cO Aa nO (Kd.R_reads' HO.out).1 w.heap.size p AJ cJ up _ false _ z31_0 Ae.out (by first|exact Kd.C_drewN (Kd.R_reads' HO.out).2.2 _|exact(Kd.R_reads' HO.out).2.2) (Nat.le_trans (Nat.le_of_eq (Kd.R_reads' HO.out).1.symm) (Kd.R_reads' HO.out).2.1) (by first|exact HJ.out.drewN _|exact HJ.out) T1.out).mono ?_;rintro e W3 ⟨rfl,hb⟩;have HB3:=Az.mk (bwT (by first|exact pbN HB.out _|exact HB.out) hb);have Ac:=Az.mk (Kd.R_below (by first|exact Kd.R_drewN HO.out _|exact HO.out) hb);clear hb T1 HB HO HJ;have HB:=HB3;have HO:=Ac;clear HB3 Ac))
     go_roundg k2
     case measure=>have:=HK1.out;have:=HK2.out;omega
     case rel=>exact⟨Aa,false,_,rfl,rfl,H',⟨by have:=HK2.out;omega⟩,HO,HB⟩
    subst bb
    rw[ip rfl]at H
    replace H:=be.mp H
    obtain⟨ys,T2,H⟩:=H
    have T2:=Az.mk T2
    have H':=Az.mk H
    clear H
    go_wp2_with (first
     |(go_at_call 63;refine(gE.callsn k2 A0 c0 l0 AO cO Aa nO (Kd.R_reads' HO.out).1 w.heap.size p AJ cJ up _ true _ z31_0 Ae.out (by first|exact Kd.C_drewN (Kd.R_reads' HO.out).2.2 _|exact(Kd.R_reads' HO.out).2.2) (Nat.le_trans (Nat.le_of_eq (Kd.R_reads' HO.out).1.symm) (Kd.R_reads' HO.out).2.1) (by first|exact HJ.out.drewN _|exact HJ.out) T1.out).mono ?_;rintro e W3 ⟨rfl,hb⟩;have HB3:=Az.mk (bwT (by first|exact pbN HB.out _|exact HB.out) hb);have Ac:=Az.mk (Kd.R_below (by first|exact Kd.R_drewN HO.out _|exact HO.out) hb);clear hb T1 HB HO HJ;have HB:=HB3;have HO:=Ac;clear HB3 Ac)
     |(go_at_call 48;refine(gH.calls k2 A0 c0 l0 _ ys _ z31_0 Ae.out T2.out).mono ?_;rintro e W4 ⟨vy,rfl,ho,hb⟩;have HB3:=Az.mk (bwT (by first|exact pbN HB.out _|exact HB.out) hb);have Ac:=Az.mk (Kd.R_below (by first|exact Kd.R_drewN HO.out _|exact HO.out) hb);have HY:=Az.mk (Kd.R_lower (Kd.R_new' ho (Kd.R_lt (by first|exact Kd.R_drewN HO.out _|exact HO.out))) (by first|exact HB.out.size|exact(pbN HB.out _).size));clear ho hb T2 HB HO;have HB:=HB3;have HO:=Ac;clear HB3 Ac;obtain⟨AY,cY,eY⟩:=Kd.R_slice HY.out;subst eY))
    go_loopg [55] k2 (fun kq Ai w'=>∃(Ab:List Int) (e_1:Int),Ai= .int .i64 e_1∧Az (fC.l2 kq l0 up Ab c_1 ys e_1=some r)∧Az (kq≤k2)∧Az (Kd.R (Kd.int .i64) 3 w' W1.heap.size (fun _=>True) (.slice AO nO cO) Ab)∧Az (Kd.R (Kd.int .i64) 3 w' W1.heap.size (fun k_=>True∧some k_≠(Value.slice AO nO cO).ownBlock) (.slice AY ys.length cY) ys)∧Az (Below W1.heap.size W1 w'))
    case atStart=>exact⟨Aa,0,rfl,H',⟨Nat.le_refl _⟩,HO,HY,HB⟩
    clear H' HO HY HB
    obtain⟨Ab,e_1,rfl,HA,HK3,HO,HY,HB⟩:=hrel
    cases gk with
    |zero=>exact absurd HA.out (by simp[fC.l2])
    |succ k3=>
     have H:=HA.out
     clear HA
     simp only[fC.l2]at H
     by_cases f1:e_1<(ys.length:Int)
     rotate_left
     ·rw[ig f1]at H
      have f1b:decide (e_1<(ys.length:Int))=false:=decide_eq_false f1
      clear f1
      have H':=Az.mk H
      clear H
      go_wp2
      go_roundg k3
      case measure=>have:=HK1.out;have:=HK2.out;have:=HK3.out;omega
      case rel=>exact⟨Ab,true,_,rfl,rfl,H',⟨by have:=HK2.out;have:=HK3.out;omega⟩,HO,HB⟩
     rw[ip f1]at H
     by_cases f0:0≤e_1
     rotate_left
     ·rw[ig f0]at H
      exact absurd H (by simp)
     rw[ip f0]at H
     by_cases f2:e_1<(Ab.length:Int)
     rotate_left
     ·rw[ig f2]at H
      exact absurd H (by simp)
     rw[ip f2]at H
     have H':=Az.mk H
     clear H
     obtain⟨ady,ey,hy⟩:=Kd.at_int (Kd.R_reads' HY.out).2.2 e_1 f0 f1
     subst ey
     obtain⟨g,eg⟩:=row_some HO.out f0 f2
     subst eg
     obtain⟨hx,hf,zn,fin⟩:=row_at HO.out HB.out f0 f2
     have f1b:=ode f1
     replace f0:=ets f0
     replace f1:=ets f1
     replace f2:=ets f2
     replace zn:=ets zn
     go_wp2
     go_roundg k3
     case measure=>have:=HK1.out;have:=HK2.out;have:=HK3.out;omega
     case rel=>exact⟨_,_,rfl,H',⟨by have:=HK3.out;omega⟩,⟨(fin.out _ _ (by first|exact⟨_,rfl⟩|exact Drawn0.refl _)).1⟩,⟨Kd.R_far (p:=⟨g,e_1.toNat,none⟩) HY.out (fun k_ hk_ e_=>hk_.2 (by rw[e_];rfl)) _⟩,⟨(fin.out _ _ (by first|exact⟨_,rfl⟩|exact Drawn0.refl _)).2⟩⟩
   have em:cornerOf c_1=wrap64 (wrap64 (wrap64 (Int.tdiv c_1 3)*3)+Int.tmod (wrap64 (c_1+1)) 3):=by unfold cornerOf;rw[ig m2]
   have m2b:(Int.tmod c_1 3== 2)=false:=beq_eq_false_iff_ne.mpr m2
   rw[em]at H
   clear em m2
   have HJ:=Az.mk (Ao.out.below HB.out)
   replace H:=be.mp H
   obtain⟨b,T1,H⟩:=H
   have T1:=Az.mk T1
   by_cases bb:b=true
   rotate_left
   ·rw[ig bb]at H
    replace bb:=Bool.eq_false_iff.mpr bb
    subst bb
    have H':=Az.mk H
    clear H
    go_wp2_with (first
     |(go_at_call 63;refine(gE.callsn k2 A0 c0 l0 AO cO Aa nO (Kd.R_reads' HO.out).1 w.heap.size p AJ cJ up _ false _ z31_0 Ae.out (by first|exact Kd.C_drewN (Kd.R_reads' HO.out).2.2 _|exact(Kd.R_reads' HO.out).2.2) (Nat.le_trans (Nat.le_of_eq (Kd.R_reads' HO.out).1.symm) (Kd.R_reads' HO.out).2.1) (by first|exact HJ.out.drewN _|exact HJ.out) T1.out).mono ?_;rintro e W3 ⟨rfl,hb⟩;have HB3:=Az.mk (bwT (by first|exact pbN HB.out _|exact HB.out) hb);have Ac:=Az.mk (Kd.R_below (by first|exact Kd.R_drewN HO.out _|exact HO.out) hb);clear hb T1 HB HO HJ;have HB:=HB3;have HO:=Ac;clear HB3 Ac))
    go_roundg k2
    case measure=>have:=HK1.out;have:=HK2.out;omega
    case rel=>exact⟨Aa,false,_,rfl,rfl,H',⟨by have:=HK2.out;omega⟩,HO,HB⟩
   subst bb
   rw[ip rfl]at H
   replace H:=be.mp H
   obtain⟨ys,T2,H⟩:=H
   have T2:=Az.mk T2
   have H':=Az.mk H
   clear H
   go_wp2_with (first
    |(go_at_call 63;refine(gE.callsn k2 A0 c0 l0 AO cO Aa nO (Kd.R_reads' HO.out).1 w.heap.size p AJ cJ up _ true _ z31_0 Ae.out (by first|exact Kd.C_drewN (Kd.R_reads' HO.out).2.2 _|exact(Kd.R_reads' HO.out).2.2) (Nat.le_trans (Nat.le_of_eq (Kd.R_reads' HO.out).1.symm) (Kd.R_reads' HO.out).2.1) (by first|exact HJ.out.drewN _|exact HJ.out) T1.out).mono ?_;rintro e W3 ⟨rfl,hb⟩;have HB3:=Az.mk (bwT (by first|exact pbN HB.out _|exact HB.out) hb);have Ac:=Az.mk (Kd.R_below (by first|exact Kd.R_drewN HO.out _|exact HO.out) hb);clear hb T1 HB HO HJ;have HB:=HB3;have HO:=Ac;clear HB3 Ac)
    |(go_at_call 48;refine(gH.calls k2 A0 c0 l0 _ ys _ z31_0 Ae.out T2.out).mono ?_;rintro e W4 ⟨vy,rfl,ho,hb⟩;have HB3:=Az.mk (bwT (by first|exact pbN HB.out _|exact HB.out) hb);have Ac:=Az.mk (Kd.R_below (by first|exact Kd.R_drewN HO.out _|exact HO.out) hb);have HY:=Az.mk (Kd.R_lower (Kd.R_new' ho (Kd.R_lt (by first|exact Kd.R_drewN HO.out _|exact HO.out))) (by first|exact HB.out.size|exact(pbN HB.out _).size));clear ho hb T2 HB HO;have HB:=HB3;have HO:=Ac;clear HB3 Ac;obtain⟨AY,cY,eY⟩:=Kd.R_slice HY.out;subst eY))
   go_loopg [55] k2 (fun kq Ai w'=>∃(Ab:List Int) (e_1:Int),Ai= .int .i64 e_1∧Az (fC.l2 kq l0 up Ab c_1 ys e_1=some r)∧Az (kq≤k2)∧Az (Kd.R (Kd.int .i64) 3 w' W1.heap.size (fun _=>True) (.slice AO nO cO) Ab)∧Az (Kd.R (Kd.int .i64) 3 w' W1.heap.size (fun k_=>True∧some k_≠(Value.slice AO nO cO).ownBlock) (.slice AY ys.length cY) ys)∧Az (Below W1.heap.size W1 w'))
   case atStart=>exact⟨Aa,0,rfl,H',⟨Nat.le_refl _⟩,HO,HY,HB⟩
   clear H' HO HY HB
   obtain⟨Ab,e_1,rfl,HA,HK3,HO,HY,HB⟩:=hrel
   cases gk with
   |zero=>exact absurd HA.out (by simp[fC.l2])
   |succ k3=>
    have H:=HA.out
    clear HA
    simp only[fC.l2]at H
    by_cases f1:e_1<(ys.length:Int)
    rotate_left
    ·rw[ig f1]at H
     have f1b:decide (e_1<(ys.length:Int))=false:=decide_eq_false f1
     clear f1
     have H':=Az.mk H
     clear H
     go_wp2
     go_roundg k3
     case measure=>have:=HK1.out;have:=HK2.out;have:=HK3.out;omega
     case rel=>exact⟨Ab,true,_,rfl,rfl,H',⟨by have:=HK2.out;have:=HK3.out;omega⟩,HO,HB⟩
    rw[ip f1]at H
    by_cases f0:0≤e_1
    rotate_left
    ·rw[ig f0]at H
     exact absurd H (by simp)
    rw[ip f0]at H
    by_cases f2:e_1<(Ab.length:Int)
    rotate_left
    ·rw[ig f2]at H
     exact absurd H (by simp)
    rw[ip f2]at H
    have H':=Az.mk H
    clear H
    obtain⟨ady,ey,hy⟩:=Kd.at_int (Kd.R_reads' HY.out).2.2 e_1 f0 f1
    subst ey
    obtain⟨g,eg⟩:=row_some HO.out f0 f2
    subst eg
    obtain⟨hx,hf,zn,fin⟩:=row_at HO.out HB.out f0 f2
    have f1b:=ode f1
    replace f0:=ets f0
    replace f1:=ets f1
    replace f2:=ets f2
    replace zn:=ets zn
    go_wp2
    go_roundg k3
    case measure=>have:=HK1.out;have:=HK2.out;have:=HK3.out;omega
    case rel=>exact⟨_,_,rfl,H',⟨by have:=HK3.out;omega⟩,⟨(fin.out _ _ (by first|exact⟨_,rfl⟩|exact Drawn0.refl _)).1⟩,⟨Kd.R_far (p:=⟨g,e_1.toNat,none⟩) HY.out (fun k_ hk_ e_=>hk_.2 (by rw[e_];rfl)) _⟩,⟨(fin.out _ _ (by first|exact⟨_,rfl⟩|exact Drawn0.refl _)).2⟩⟩
theorem bw_32 {n:Nat}{v v':World} (h:Below n v v':=by repeat(first|(with_reducible first|exact HB.out|apply bwA|apply pbN|apply bwD)|exact HB.out)):Below n v v':=h
theorem ln_32 {P:Prop} (h:P:=by(try simp only[List.map_toArray,List.map_cons,List.map_nil]);first|done|rfl|(simp only[List.length_drop,List.length_take];rfl)):P:=h
mutual
def fQ.l0:Nat→List (List Int)→List Int→List Int→Int→Option (Int × Int)
 |0,_,_,_,_=>none
 |k+1,x0,x1,x6,x7=>if x7<(x0.length:Int) then(fQ.l1 k x0 x1 x6 x7 0) else(some ((-1),(-1)))
def fQ.l1:Nat→List (List Int)→List Int→List Int→Int→Int→Option (Int × Int)
 |0,_,_,_,_,_=>none
 |k+1,x0,x1,x6,x7,x8=>if x8<3 then(if 0≤x7 then(if x7<(x0.length:Int) then(if 0≤x8 then(if x8<((rd_L1 x0 x7).length:Int) then((gF.f (rd (rd_L1 x0 x7) x8)).bind fun t575=>((gK.f (decide ((rd (rd_L1 x0 x7) x8)>0))).bind fun t576=>((fS.f k x6 (wrap64 ((wrap64 (2*t575))+t576))).bind fun t577=>(fQ.l2 k x0 x1 x6 x7 x8 t577 true 0)))) else(none)) else(none)) else(none)) else(none)) else(fQ.l0 k x0 x1 x6 (wrap64 (x7+1)))
def fQ.l2:Nat→List (List Int)→List Int→List Int→Int→Int→Int→Bool→Int→Option (Int × Int)
 |0,_,_,_,_,_,_,_,_=>none
 |k+1,x0,x1,x6,x7,x8,x10,x11,x12=>if x12<(x0.length:Int) then(fQ.l3 k x0 x1 x6 x7 x8 x10 x11 x12 0) else(if x11=true then(some (x7,x8)) else(fQ.l1 k x0 x1 x6 x7 (wrap64 (x8+1))))
def fQ.l3:Nat→List (List Int)→List Int→List Int→Int→Int→Int→Bool→Int→Int→Option (Int × Int)
 |0,_,_,_,_,_,_,_,_,_=>none
 |k+1,x0,x1,x6,x7,x8,x10,x11,x12,x13=>if x13<3 then(if 0≤x12 then(if x12<(x0.length:Int) then(if 0≤x13 then(if x13<((rd_L1 x0 x12).length:Int) then((gF.f (rd (rd_L1 x0 x12) x13)).bind fun t580=>((gK.f (decide ((rd (rd_L1 x0 x12) x13)>0))).bind fun t581=>((fS.f k x6 (wrap64 ((wrap64 (2*t580))+t581))).bind fun t582=>(if t582=x10 then((gN.f x0 x1 x12 x13).bind fun t583=>(if t583<2 then(fQ.l3 k x0 x1 x6 x7 x8 x10 false x12 (wrap64 (x13+1))) else(fQ.l3 k x0 x1 x6 x7 x8 x10 x11 x12 (wrap64 (x13+1))))) else(fQ.l3 k x0 x1 x6 x7 x8 x10 x11 x12 (wrap64 (x13+1))))))) else(none)) else(none)) else(none)) else(none)) else(fQ.l2 k x0 x1 x6 x7 x8 x10 x11 (wrap64 (x12+1)))
end
def fQ.f (k:Nat) (l0:List (List Int)) (l1:List Int):Option (Int × Int):=(fT.f k l0).bind fun t570=>(fQ.l0 k l0 l1 t570 0)
theorem fQ.calls (k:Nat) (A0:Option Addr) (c0:Nat) (l0:List (List Int)) (A1:Option Addr) (c1:Nat) (l1:List Int) (r1:Int) (r2:Int) (w:World) (Dp:Kd.C (Kd.slice 3 (Kd.int .i64)) w A0 l0.length l0) (Dq:l0.length≤c0) (Dr:Kd.C (Kd.int .i64) w A1 l1.length l1) (Ds:l1.length≤c1) (h:fQ.f k l0 l1=some (r1,r2)):
  Calls Try.prog 64 #[.slice A0 l0.length c0, .slice A1 l1.length c1] w fun e w'=>e= .returned (.tuple #[.int .i64 r1, .int .i64 r2])∧Below w.heap.size w w':=by
 have Cc:=Az.mk Dp
 have Df:=Az.mk Dq
 clear Dp Dq
 have HR1:=Az.mk Dr
 have Dt:=Az.mk Ds
 clear Dr Ds
 have HB:=Az.mk (Below.refl w.heap.size w)
 have H:((fT.f k l0).bind fun Ag=>(fQ.l0 k l0 l1 Ag 0))=some (r1,r2):=h
 clear h
 replace H:=bez H
 obtain⟨Ag,A3,H⟩:=H
 try dsimp only at H
 have H':=Az.mk H
 clear H
 go_enter Try.func64,Try.ntmps64
 go_wp2_with (first|((with_reducible refine gtC (f:=60) rfl ?_);refine clz Try.func60 (some 16) #[.slice A0 l0.length c0] ?_;(with_reducible refine(fT.calls k _ _ l0 Ag _ ?Ai ?Aj A3.out).mono ?_);(case Ai=>exact kC Cc.out);(case Aj=>exact Df.out);rintro e w4 ⟨Cm,rfl,Du,hb⟩;refine⟨_,rfl,?_⟩;have Cn:=Az.mk (Kd.R_lower Du (bwZ bw_32));replace HB:=Az.mk (bwT bw_32 hb);(try clear hb);(try clear Du)))
 go_loopg [7] k (fun kq v7 w'=>∃(Ak:Int),v7= .int .i64 Ak∧Az (fQ.l0 kq l0 l1 Ag Ak=some (r1,r2))∧Az (kq≤k)∧Az (Kd.R (Kd.int .i64) 3 w' w.heap.size (fun _=>True) Cm Ag)∧Az (Below w.heap.size w w'))
 case atStart=>exact⟨(0),rq2,H',⟨Nat.le_refl _⟩,⟨kR Cn.out⟩,⟨bw_32⟩⟩
 clear H'
 try clear c1
 obtain⟨Ak,rfl,HA,HK1,Ah,HB⟩:=hrel
 cases gk with
 |zero=>exact absurd HA.out (by simp[fQ.l0])
 |succ k1=>
  have H:=HA.out
  clear HA
  simp only[fQ.l0]at H
  by_cases c5:Ak<(l0.length:Int)
  rotate_left
  ·rw[ig c5]at H
   have Bu:=decide_eq_false c5
   clear c5
   simp only[Option.some.injEq,Prod.mk.injEq]at H
   obtain⟨rfl,rfl⟩:=H
   go_wp2
   go_ret2
   exact⟨rq1,bw_32⟩
  rw[ip c5]at H
  have Bu:=ode c5
  clear c5
  have H':=Az.mk H
  clear H
  go_wp2
  go_loopg [8] k1 (fun kq v8 w'=>∃(Al:Int),v8= .int .i64 Al∧Az (fQ.l1 kq l0 l1 Ag Ak Al=some (r1,r2))∧Az (kq≤k1)∧Az (Kd.R (Kd.int .i64) 3 w' w.heap.size (fun _=>True) Cm Ag)∧Az (Below w.heap.size w w'))
  case atStart=>exact⟨(0),rq2,H',⟨Nat.le_refl _⟩,⟨kR Ah.out⟩,⟨bw_32⟩⟩
  clear H'
  try clear c1
  try clear c5
  try clear Bu
  obtain⟨Al,rfl,HA,HK2,Ah,HB⟩:=hrel
  cases gk with
  |zero=>exact absurd HA.out (by simp[fQ.l1])
  |succ k2=>
   have H:=HA.out
   clear HA
   simp only[fQ.l1]at H
   by_cases c6:Al<3
   rotate_left
   ·rw[ig c6]at H
    have Cd:=decide_eq_false c6
    clear c6
    have H':=Az.mk H
    clear H
    go_wp2
    go_roundg k2
    case measure=>have:=HK1.out;have:=HK2.out;omega
    case rel=>exact⟨(wrap64 (Ak+1)),rq2,H',⟨by have:=HK1.out;have:=HK2.out;omega⟩,⟨kR Ah.out⟩,⟨bw_32⟩⟩
   rw[ip c6]at H
   have Cd:=ode c6
   clear c6
   by_cases c7:0≤Ak
   rotate_left
   ·rw[ig c7]at H
    exact absurd H (by simp)
   rw[ip c7]at H
   have Co:=ode c7
   clear c7
   by_cases c8:Ak<(l0.length:Int)
   rotate_left
   ·rw[ig c8]at H
    exact absurd H (by simp)
   rw[ip c8]at H
   have Cp:=ode c8
   clear c8
   by_cases c9:0≤Al
   rotate_left
   ·rw[ig c9]at H
    exact absurd H (by simp)
   rw[ip c9]at H
   have Cq:=ode c9
   clear c9
   by_cases Cj:Al<((rd_L1 l0 Ak).length:Int)
   rotate_left
   ·rw[ig Cj]at H
    exact absurd H (by simp)
   rw[ip Cj]at H
   have By:=ode Cj
   clear Cj
   replace H:=bez H
   obtain⟨Ce,Eb,H⟩:=H
   try dsimp only at H
   replace H:=bez H
   obtain⟨Cf,Ec,H⟩:=H
   try dsimp only at H
   replace H:=bez H
   obtain⟨Bv,Ed,H⟩:=H
   try dsimp only at H
   have H':=Az.mk H
   clear H
   have Bj:0≤(Ak:Int):=od
   have Bk:Ak<(l0.length:Int):=od
   obtain⟨Bl,Dg,Dh,Di,Ao,Bc,Bd⟩:=at_L1 Cc.out Ak Bj Bk
   cases Di
   replace Ao:=kc HB Ao
   have Bw:=Az.mk Bd
   have Cw:=Az.mk Bc
   clear Bd Bc
   replace Bj:=ets Bj
   replace Bk:=ets Bk
   have Bm:0≤(Al:Int):=od
   have Bn:Al<((rd_L1 l0 Ak).length:Int):=od
   obtain⟨Dv,Dj,Ap⟩:=Kd.at_int Bw.out Al Bm Bn
   cases Dj
   replace Ap:=kc HB Ap
   replace Bm:=ets Bm
   replace Bn:=ets Bn
   go_wp2_with (first|((with_reducible refine gtC (f:=79) rfl ?_);refine clz Try.func79 (some 36) #[.int .i64 (rd (rd_L1 l0 Ak) Al)] ?_;(with_reducible refine(gF.calls (rd (rd_L1 l0 Ak) Al) Ce _ Eb.out).mono ?_);rintro e w' ⟨rfl,⟨nd,rfl⟩⟩;refine⟨_,rfl,?_⟩)|((with_reducible refine gtC (f:=61) rfl ?_);refine clz Try.func61 (some 40) #[.bool (decide ((rd (rd_L1 l0 Ak) Al)>0))] ?_;(with_reducible refine(gK.calls (decide ((rd (rd_L1 l0 Ak) Al)>0)) Cf _ Ec.out).mono ?_);rintro e w' ⟨rfl,⟨nd,rfl⟩⟩;refine⟨_,rfl,?_⟩;obtain⟨Bh,Bi,Dk⟩:=Kd.R_slice Ah.out;subst Dk)|((with_reducible refine gtC (f:=66) rfl ?_);refine clz Try.func66 (some 42) #[.slice Bh Ag.length Bi, .int .i64 (wrap64 ((wrap64 (2*Ce))+Cf))] ?_;(with_reducible refine(fS.calls k2 _ _ Ag (wrap64 ((wrap64 (2*Ce))+Cf)) Bv _ ?Ai ?Aj Ed.out).mono ?_);(case Ai=>exact kC (Kd.R_reads' Ah.out).2.2);(case Aj=>exact(Kd.R_reads' Ah.out).2.1);rintro e w' ⟨rfl,⟨nd,rfl⟩⟩;refine⟨_,rfl,?_⟩))
   go_loopg [11,12] k2 (fun kq Dl Ee w'=>∃(Ba:Bool) (Aa:Int),Dl= .bool Ba∧Ee= .int .i64 Aa∧Az (fQ.l2 kq l0 l1 Ag Ak Al Bv Ba Aa=some (r1,r2))∧Az (kq≤k2)∧Az (Kd.R (Kd.int .i64) 3 w' w.heap.size (fun _=>True) (.slice Bh Ag.length Bi) Ag)∧Az (Below w.heap.size w w'))
   case atStart=>exact⟨(true),(0),rq2,rq2,H',⟨Nat.le_refl _⟩,⟨kR Ah.out⟩,⟨bw_32⟩⟩
   clear H'
   try clear c1
   try clear c5
   try clear Bu
   try clear c6
   try clear Cd
   try clear c7
   try clear Co
   try clear c8
   try clear Cp
   try clear c9
   try clear Cq
   try clear Cj
   try clear By
   try clear Ao
   try clear Ap
   try clear Bj
   try clear Bm
   try clear Bk
   try clear Bn
   obtain⟨Ba,Aa,rfl,rfl,HA,HK3,Ah,HB⟩:=hrel
   cases gk with
   |zero=>exact absurd HA.out (by simp[fQ.l2])
   |succ k3=>
    have H:=HA.out
    clear HA
    simp only[fQ.l2]at H
    by_cases Cg:Aa<(l0.length:Int)
    rotate_left
    ·rw[ig Cg]at H
     have Bz:=decide_eq_false Cg
     clear Cg
     by_cases Da:Ba=true
     ·subst Da
      rw[ip rfl]at H
      simp only[Option.some.injEq,Prod.mk.injEq]at H
      obtain⟨rfl,rfl⟩:=H
      go_wp2
      go_ret2
      exact⟨rq1,bw_32⟩
     replace Da:=Bool.eq_false_iff.mpr Da
     subst Da
     rw[ig ff]at H
     have H':=Az.mk H
     clear H
     go_wp2
     go_roundg k3
     case measure=>have:=HK1.out;have:=HK2.out;have:=HK3.out;omega
     case rel=>exact⟨(wrap64 (Al+1)),rq2,H',⟨by have:=HK1.out;have:=HK2.out;have:=HK3.out;omega⟩,⟨kR Ah.out⟩,⟨bw_32⟩⟩
    rw[ip Cg]at H
    have Bz:=ode Cg
    clear Cg
    have H':=Az.mk H
    clear H
    go_wp2
    go_loopg [11,13] k3 (fun kq Dl Ef w'=>∃(Aw:Bool) (Ab:Int),Dl= .bool Aw∧Ef= .int .i64 Ab∧Az (fQ.l3 kq l0 l1 Ag Ak Al Bv Aw Aa Ab=some (r1,r2))∧Az (kq≤k3)∧Az (Kd.R (Kd.int .i64) 3 w' w.heap.size (fun _=>True) (.slice Bh Ag.length Bi) Ag)∧Az (Below w.heap.size w w'))
    case atStart=>exact⟨(Ba),(0),rq2,rq2,H',⟨Nat.le_refl _⟩,⟨kR Ah.out⟩,⟨bw_32⟩⟩
    clear H'
    try clear c1
    try clear c5
    try clear Bu
    try clear c6
    try clear Cd
    try clear c7
    try clear Co
    try clear c8
    try clear Cp
    try clear c9
    try clear Cq
    try clear Cj
    try clear By
    try clear Cg
    try clear Bz
    try clear Ao
    try clear Ap
    try clear Bj
    try clear Bm
    try clear Bk
    try clear Bn
    obtain⟨Aw,Ab,rfl,rfl,HA,HK4,Ah,HB⟩:=hrel
    cases gk with
    |zero=>exact absurd HA.out (by simp[fQ.l3])
    |succ k4=>
     have H:=HA.out
     clear HA
     simp only[fQ.l3]at H
     by_cases Ck:Ab<3
     rotate_left
     ·rw[ig Ck]at H
      have Cs:=decide_eq_false Ck
      clear Ck
      have H':=Az.mk H
      clear H
      go_wp2
      go_roundg k4
      case measure=>have:=HK1.out;have:=HK2.out;have:=HK3.out;have:=HK4.out;omega
      case rel=>exact⟨(Aw),(wrap64 (Aa+1)),rq2,rq2,H',⟨by have:=HK1.out;have:=HK2.out;have:=HK3.out;have:=HK4.out;omega⟩,⟨kR Ah.out⟩,⟨bw_32⟩⟩
     rw[ip Ck]at H
     have Cs:=ode Ck
     clear Ck
     by_cases Db:0≤Aa
     rotate_left
     ·rw[ig Db]at H
      exact absurd H (by simp)
     rw[ip Db]at H
     have Dw:=ode Db
     clear Db
     by_cases Dc:Aa<(l0.length:Int)
     rotate_left
     ·rw[ig Dc]at H
      exact absurd H (by simp)
     rw[ip Dc]at H
     have Dx:=ode Dc
     clear Dc
     by_cases Dd:0≤Ab
     rotate_left
     ·rw[ig Dd]at H
      exact absurd H (by simp)
     rw[ip Dd]at H
     have Dy:=ode Dd
     clear Dd
     by_cases De:Ab<((rd_L1 l0 Aa).length:Int)
     rotate_left
     ·rw[ig De]at H
      exact absurd H (by simp)
     rw[ip De]at H
     have Dz:=ode De
     clear De
     replace H:=bez H
     obtain⟨Ax,Dm,H⟩:=H
     try dsimp only at H
     replace H:=bez H
     obtain⟨Ay,Dn,H⟩:=H
     try dsimp only at H
     replace H:=bez H
     obtain⟨Bx,Do,H⟩:=H
     try dsimp only at H
     by_cases Ch:Bx=Bv
     rotate_left
     ·rw[ig Ch]at H
      have Ct:=beq_eq_false_iff_ne.mpr Ch
      have Cu:=bne_iff_ne.mpr Ch
      have H':=Az.mk H
      clear H
      have Aq:0≤(Aa:Int):=od
      have As:Aa<(l0.length:Int):=od
      obtain⟨Bb,Bo,Bp,Bq,Ac,Ad,Ae⟩:=at_L1 Cc.out Aa Aq As
      obtain rfl:Bl=Bb:=(by injection Bq)
      replace Ac:=kc HB Ac
      have Am:=Az.mk Ae
      have Bf:=Az.mk Ad
      clear Ae Ad
      replace Aq:=ets Aq
      replace As:=ets As
      have Au:0≤(Ab:Int):=od
      have Av:Ab<((rd_L1 l0 Aa).length:Int):=od
      obtain⟨Ca,Br,Af⟩:=Kd.at_int Am.out Ab Au Av
      cases Br
      replace Af:=kc HB Af
      replace Au:=ets Au
      replace Av:=ets Av
      go_wp2_with (first|((with_reducible refine gtC (f:=79) rfl ?_);refine clz Try.func79 (some 62) #[.int .i64 (rd (rd_L1 l0 Aa) Ab)] ?_;(with_reducible refine(gF.calls (rd (rd_L1 l0 Aa) Ab) Ax _ Dm.out).mono ?_);rintro e w' ⟨rfl,⟨nd,rfl⟩⟩;refine⟨_,rfl,?_⟩)|((with_reducible refine gtC (f:=61) rfl ?_);refine clz Try.func61 (some 66) #[.bool (decide ((rd (rd_L1 l0 Aa) Ab)>0))] ?_;(with_reducible refine(gK.calls (decide ((rd (rd_L1 l0 Aa) Ab)>0)) Ay _ Dn.out).mono ?_);rintro e w' ⟨rfl,⟨nd,rfl⟩⟩;refine⟨_,rfl,?_⟩)|((with_reducible refine gtC (f:=66) rfl ?_);refine clz Try.func66 (some 68) #[.slice Bh Ag.length Bi, .int .i64 (wrap64 ((wrap64 (2*Ax))+Ay))] ?_;(with_reducible refine(fS.calls k4 _ _ Ag (wrap64 ((wrap64 (2*Ax))+Ay)) Bx _ ?Ai ?Aj Do.out).mono ?_);(case Ai=>exact kC (Kd.R_reads' Ah.out).2.2);(case Aj=>exact(Kd.R_reads' Ah.out).2.1);rintro e w' ⟨rfl,⟨nd,rfl⟩⟩;refine⟨_,rfl,?_⟩))
      go_roundg k4
      case measure=>have:=HK1.out;have:=HK2.out;have:=HK3.out;have:=HK4.out;omega
      case rel=>exact⟨(Aw),(wrap64 (Ab+1)),rq2,rq2,H',⟨by have:=HK1.out;have:=HK2.out;have:=HK3.out;have:=HK4.out;omega⟩,⟨kR Ah.out⟩,⟨bw_32⟩⟩
     rw[ip Ch]at H
     have Ct:=beq_iff_eq.mpr Ch
     have Cu:=bne_eq_false_iff_eq.mpr Ch
     clear Ch
     replace H:=bez H
     obtain⟨Ci,Ea,H⟩:=H
     try dsimp only at H
     by_cases Cl:Ci<2
     ·rw[ip Cl]at H
      have Cv:=ode Cl
      clear Cl
      have H':=Az.mk H
      clear H
      have Aq:0≤(Aa:Int):=od
      have As:Aa<(l0.length:Int):=od
      obtain⟨Bb,Bo,Bp,Bq,Ac,Ad,Ae⟩:=at_L1 Cc.out Aa Aq As
      obtain rfl:Bl=Bb:=(by injection Bq)
      replace Ac:=kc HB Ac
      have Am:=Az.mk Ae
      have Bf:=Az.mk Ad
      clear Ae Ad
      replace Aq:=ets Aq
      replace As:=ets As
      have Au:0≤(Ab:Int):=od
      have Av:Ab<((rd_L1 l0 Aa).length:Int):=od
      obtain⟨Ca,Br,Af⟩:=Kd.at_int Am.out Ab Au Av
      cases Br
      replace Af:=kc HB Af
      replace Au:=ets Au
      replace Av:=ets Av
      go_wp2_with (first|((with_reducible refine gtC (f:=79) rfl ?_);refine clz Try.func79 (some 62) #[.int .i64 (rd (rd_L1 l0 Aa) Ab)] ?_;(with_reducible refine(gF.calls (rd (rd_L1 l0 Aa) Ab) Ax _ Dm.out).mono ?_);rintro e w' ⟨rfl,⟨nd,rfl⟩⟩;refine⟨_,rfl,?_⟩)|((with_reducible refine gtC (f:=61) rfl ?_);refine clz Try.func61 (some 66) #[.bool (decide ((rd (rd_L1 l0 Aa) Ab)>0))] ?_;(with_reducible refine(gK.calls (decide ((rd (rd_L1 l0 Aa) Ab)>0)) Ay _ Dn.out).mono ?_);rintro e w' ⟨rfl,⟨nd,rfl⟩⟩;refine⟨_,rfl,?_⟩)|((with_reducible refine gtC (f:=66) rfl ?_);refine clz Try.func66 (some 68) #[.slice Bh Ag.length Bi, .int .i64 (wrap64 ((wrap64 (2*Ax))+Ay))] ?_;(with_reducible refine(fS.calls k4 _ _ Ag (wrap64 ((wrap64 (2*Ax))+Ay)) Bx _ ?Ai ?Aj Do.out).mono ?_);(case Ai=>exact kC (Kd.R_reads' Ah.out).2.2);(case Aj=>exact(Kd.R_reads' Ah.out).2.1);rintro e w' ⟨rfl,⟨nd,rfl⟩⟩;refine⟨_,rfl,?_⟩)|(go_at_call 69;(with_reducible refine(gN.calls _ _ l0 _ _ l1 Aa Ab Ci _ ?Ai ?Aj ?Bs ?Bt Ea.out).mono ?_);(case Ai=>exact kC (Kd.C_below Cc.out bw_32));(case Aj=>exact Df.out);(case Bs=>exact kC (Kd.C_below HR1.out bw_32));(case Bt=>exact Dt.out);rintro e w' ⟨rfl,⟨nd,rfl⟩⟩))
      go_roundg k4
      case measure=>have:=HK1.out;have:=HK2.out;have:=HK3.out;have:=HK4.out;omega
      case rel=>exact⟨(false),(wrap64 (Ab+1)),rq2,rq2,H',⟨by have:=HK1.out;have:=HK2.out;have:=HK3.out;have:=HK4.out;omega⟩,⟨kR Ah.out⟩,⟨bw_32⟩⟩
     rw[ig Cl]at H
     have Cv:=decide_eq_false Cl
     clear Cl
     have H':=Az.mk H
     clear H
     have Aq:0≤(Aa:Int):=od
     have As:Aa<(l0.length:Int):=od
     obtain⟨Bb,Bo,Bp,Bq,Ac,Ad,Ae⟩:=at_L1 Cc.out Aa Aq As
     obtain rfl:Bl=Bb:=(by injection Bq)
     replace Ac:=kc HB Ac
     have Am:=Az.mk Ae
     have Bf:=Az.mk Ad
     clear Ae Ad
     replace Aq:=ets Aq
     replace As:=ets As
     have Au:0≤(Ab:Int):=od
     have Av:Ab<((rd_L1 l0 Aa).length:Int):=od
     obtain⟨Ca,Br,Af⟩:=Kd.at_int Am.out Ab Au Av
     cases Br
     replace Af:=kc HB Af
     replace Au:=ets Au
     replace Av:=ets Av
     go_wp2_with (first|((with_reducible refine gtC (f:=79) rfl ?_);refine clz Try.func79 (some 62) #[.int .i64 (rd (rd_L1 l0 Aa) Ab)] ?_;(with_reducible refine(gF.calls (rd (rd_L1 l0 Aa) Ab) Ax _ Dm.out).mono ?_);rintro e w' ⟨rfl,⟨nd,rfl⟩⟩;refine⟨_,rfl,?_⟩)|((with_reducible refine gtC (f:=61) rfl ?_);refine clz Try.func61 (some 66) #[.bool (decide ((rd (rd_L1 l0 Aa) Ab)>0))] ?_;(with_reducible refine(gK.calls (decide ((rd (rd_L1 l0 Aa) Ab)>0)) Ay _ Dn.out).mono ?_);rintro e w' ⟨rfl,⟨nd,rfl⟩⟩;refine⟨_,rfl,?_⟩)|((with_reducible refine gtC (f:=66) rfl ?_);refine clz Try.func66 (some 68) #[.slice Bh Ag.length Bi, .int .i64 (wrap64 ((wrap64 (2*Ax))+Ay))] ?_;(with_reducible refine(fS.calls k4 _ _ Ag (wrap64 ((wrap64 (2*Ax))+Ay)) Bx _ ?Ai ?Aj Do.out).mono ?_);(case Ai=>exact kC (Kd.R_reads' Ah.out).2.2);(case Aj=>exact(Kd.R_reads' Ah.out).2.1);rintro e w' ⟨rfl,⟨nd,rfl⟩⟩;refine⟨_,rfl,?_⟩)|(go_at_call 69;(with_reducible refine(gN.calls _ _ l0 _ _ l1 Aa Ab Ci _ ?Ai ?Aj ?Bs ?Bt Ea.out).mono ?_);(case Ai=>exact kC (Kd.C_below Cc.out bw_32));(case Aj=>exact Df.out);(case Bs=>exact kC (Kd.C_below HR1.out bw_32));(case Bt=>exact Dt.out);rintro e w' ⟨rfl,⟨nd,rfl⟩⟩))
     go_roundg k4
     case measure=>have:=HK1.out;have:=HK2.out;have:=HK3.out;have:=HK4.out;omega
     case rel=>exact⟨(Aw),(wrap64 (Ab+1)),rq2,rq2,H',⟨by have:=HK1.out;have:=HK2.out;have:=HK3.out;have:=HK4.out;omega⟩,⟨kR Ah.out⟩,⟨bw_32⟩⟩
section
open Bool renaming true → T, false → F
theorem bw_33 {n:Nat}{v v':World} (h:Below n v v':=by repeat(first|(with_reducible first|exact HB.out|apply bwA|apply pbN|apply bwD|refine bwS ?_ GB21.out)|exact HB.out)):Below n v v':=h
theorem ln_33 {P:Prop} (h:P:=by(try simp only[List.map_toArray,List.map_cons,List.map_nil]);first|done|rfl|(simp only[List.length_drop,List.length_take];rfl)):P:=h
mutual
def fI.l0:Nat→List (List Int)→List Int→Option (List Int × Bool)
 |0,_,_=>none
 |k+1,x0,x6=>(fQ.f k x0 x6).bind fun bt594=>(if bt594.1<0 then(some (x6,true)) else((gI.f k x0 bt594.1 bt594.2).bind fun t596=>(fI.l1 k x0 x6 t596 0)))
def fI.l1:Nat→List (List Int)→List Int→List Int→Int→Option (List Int × Bool)
 |0,_,_,_,_=>none
 |k+1,x0,x6,x9,x10=>if x10<(x6.length:Int) then(if 0≤x10 then(if x10<(x9.length:Int) then(fI.l1 k x0 (x6.set (x10:Int).toNat (wrap64 ((rd x6 x10) - (rd x9 x10)))) x9 (wrap64 (x10+1))) else(none)) else(none)) else(fI.l0 k x0 x6)
end
def fI.f (k:Nat) (l0:List (List Int)) (l1:List Int):Option (List Int × Bool):=(fL.f k l0 l1).bind fun t584=>(if t584=true then((some (([]:List Int):List Int)).bind fun y588=>(if y588.length+l1.length<17592186044416 then(fI.l0 k l0 (y588 ++ l1)) else(none))) else(some ((([]:List Int)),false)))
def fI.T11:Bool × List (List Nat × List Nat):=(true,[([],[]),([],[]),([],[]),([],[]),([2,3],[2,3]),([4],[4]),([],[]),([],[]),([6,7],[6,7]),([8],[8]),([5,9],[5,9]),([0,1,0,1,2,3,4,5,6,7,8,9,10],[0,1]),([11,10,0,1,2,3,4,5,6,7,8,9,10],[10,11])])
def fI.B11:List Nat:=[0,0,0,0,12,28,0,0,192,448,1020,2047,4095]
theorem fI.tab11:rtab .any (opsOf Try.f20 11)=fI.T11:=by kernel_rfl
theorem fI.bits11:waitsOk fI.T11.2 fI.B11=true:=by kernel_rfl
theorem fI.calls (k:Nat) (A0:Option Addr) (c0:Nat) (l0:List (List Int)) (A1:Option Addr) (c1:Nat) (l1:List Int) (r1:List Int) (r2:Bool) (w:World) (Cw:Kd.C (Kd.slice 3 (Kd.int .i64)) w A0 l0.length l0) (Da:l0.length≤c0) (Db:Kd.C (Kd.int .i64) w A1 l1.length l1) (Dc:l1.length≤c1) (h:fI.f k l0 l1=some (r1,r2)):
  Calls Try.prog 20 #[.slice A0 l0.length c0, .slice A1 l1.length c1] w fun e w'=>∃v0_:Value,e= .returned (.tuple #[v0_, .bool r2])∧Kd.R (Kd.int .i64) 3 w' w.heap.size (fun _=>True) v0_ r1∧Below w.heap.size w w':=by
 have Bo:=Az.mk Cw
 have Bp:=Az.mk Da
 clear Cw Da
 have HR1:=Az.mk Db
 have Dd:=Az.mk Dc
 clear Db Dc
 have HB:=Az.mk (Below.refl w.heap.size w)
 have H:((fL.f k l0 l1).bind fun Ay=>(if Ay=true then((some (([]:List Int):List Int)).bind fun Al=>(if Al.length+l1.length<17592186044416 then(fI.l0 k l0 (Al ++ l1)) else(none))) else(some ((([]:List Int)),false))))=some (r1,r2):=h
 clear h
 replace H:=bez H
 obtain⟨Ay,A3,H⟩:=H
 try dsimp only at H
 by_cases c4:Ay=true
 rotate_left
 ·replace c4:=Bool.eq_false_iff.mpr c4
  subst c4
  rw[ig ff]at H
  obtain⟨Ci,hy⟩:∃y_:List Int,y_=(([]:List Int)):=⟨_,rfl⟩
  replace H:(some (Ci,false))=some (r1,r2):=rh
  have Au:=Az.mk hy
  clear hy
  simp only[Option.some.injEq,Prod.mk.injEq]at H
  obtain⟨rfl,rfl⟩:=H
  go_enter Try.func20,Try.ntmps20
  go_wp2_with (first|((with_reducible refine gtC (f:=27) rfl ?_);refine clz Try.func27 (some 13) #[.slice A0 l0.length c0, .slice A1 l1.length c1] ?_;(with_reducible refine(fL.calls k _ _ l0 _ _ l1 false _ ?Ac ?Ad ?Ag ?Ah A3.out).mono ?_);(case Ac=>exact kC Bo.out);(case Ad=>exact Bp.out);(case Ag=>exact kC HR1.out);(case Ah=>exact Dd.out);rintro e Dp ⟨rfl,hb⟩;refine⟨_,rfl,?_⟩;replace HB:=Az.mk (bwT bw_33 hb);(try clear hb))|((with_reducible refine gtD (N:=15) rfl ?_);refine Kd.R_lit (Kd.int .i64) _ 3 ?hg (N:=15) ?hd (xs:=([]:List Int)) (inner:=[]) (ok:=fun _=>True) (okp:=fun _=>True) ?hr ?hp (fun _ hk=>hk) trivial (Below.refl _ _) (Nat.le_refl _) (by simp) ?_;(case hd=>rfl);(case hg=>rfl);(case hr=>first|(go_simp;done)|(go_simp;rfl));(case hp=>exact(Reps.none _ _));intro Di Dq Ap hb hg_ hnew_;clear hg_ hnew_;(first|rw[←Au.out]at Ap|(simp only[Int.reduceToNat]at Ap;rw[←Au.out]at Ap));have Bq:=Az.mk (Kd.R_lower Ap (bwZ bw_33));replace HB:=Az.mk (bwT bw_33 hb);clear hb Ap))
  go_ret2
  exact⟨_,rq1,kR Bq.out,bw_33⟩
 subst c4
 rw[ip rfl]at H
 obtain⟨Al,hy⟩:∃y_:List Int,y_=(([]:List Int)):=⟨_,rfl⟩
 replace H:(if Al.length+l1.length<17592186044416 then(fI.l0 k l0 (Al ++ l1)) else(none))=some (r1,r2):=rh
 have Av:=Az.mk hy
 clear hy
 by_cases c5:Al.length+l1.length<17592186044416
 rotate_left
 ·rw[ig c5]at H
  exact absurd H (by simp)
 rw[ip c5]at H
 have LMc5:=Az.mk c5
 clear c5
 obtain⟨Br,hy⟩:∃y_:List Int,y_=(Al ++ l1):=⟨_,rfl⟩
 replace H:(fI.l0 k l0 Br)=some (r1,r2):=rh
 have Bs:=Az.mk hy
 clear hy
 have H':=Az.mk H
 clear H
 go_enter Try.func20,Try.ntmps20
 go_wp2_with (first|((with_reducible refine gtC (f:=27) rfl ?_);refine clz Try.func27 (some 13) #[.slice A0 l0.length c0, .slice A1 l1.length c1] ?_;(with_reducible refine(fL.calls k _ _ l0 _ _ l1 true _ ?Ac ?Ad ?Ag ?Ah A3.out).mono ?_);(case Ac=>exact kC Bo.out);(case Ad=>exact Bp.out);(case Ag=>exact kC HR1.out);(case Ah=>exact Dd.out);rintro e w6 ⟨rfl,hb⟩;refine⟨_,rfl,?_⟩;replace HB:=Az.mk (bwT bw_33 hb);(try clear hb))|((with_reducible refine gtD (N:=16) rfl ?_);refine Kd.R_lit (Kd.int .i64) _ 3 ?hg (N:=16) ?hd (xs:=([]:List Int)) (inner:=[]) (ok:=fun _=>True) (okp:=fun _=>True) ?hr ?hp (fun _ hk=>hk) trivial (Below.refl _ _) (Nat.le_refl _) (by simp) ?_;(case hd=>rfl);(case hg=>rfl);(case hr=>first|(go_simp;done)|(go_simp;rfl));(case hp=>exact(Reps.none _ _));intro Cj w7 Bt hb hg_ hnew_;clear hg_ hnew_;(first|rw[←Av.out]at Bt|(simp only[Int.reduceToNat]at Bt;rw[←Av.out]at Bt));have Aw:=Az.mk (Kd.R_lower Bt (bwZ bw_33));replace HB:=Az.mk (bwT bw_33 hb);clear hb Bt)|((with_reducible refine gate_builtin (b:= .append) (xs:= #[.tmp 16, .tmp 17]) rfl ?_);at_builtin;refine Kd.R_append_rows (Kd.int .i64) (w0:=w) w.heap.size rfl (.tmp 16) (.tmp 17) 25 3 (.int .i64 0) 8 rfl Try.underlying25 info3 rfl (by decide) (by omega) Cj Al l1 _ _ _ (fun _=>True) (fun _=>False) rfl rfl ?aO ?aR (fun _ _ h=>h) (fun _ h=>h.elim) ?aF ?aB ?aS ?aL ?_;(case aR=>exact kC (Kd.C_below HR1.out HB.out));(case aB=>exact bw_33);(case aF=>exact(fun _ _=>trivial));(case aO=>exact(kR Aw.out));(case aS=>exact(bwZ bw_33));(case aL=>have:=LMc5.out;omega);intro Ck w9 ho hb hg hat;rw[←Bs.out]at ho;have n0_:=Az.mk (hb);have n1_:=Az.mk (ho);clear HB;clear Aw;have HB:=n0_;have Bu:=n1_;clear n0_ n1_;clear ho hb hg hat))
 go_loopg [] k (fun kq w'=>∃(Ai:List Int),Az (fI.l0 kq l0 Ai=some (r1,r2))∧Az (kq≤k)∧Az (Kd.R (Kd.int .i64) 3 w' w.heap.size (fun _=>True) Ck Ai)∧Az (Below w.heap.size w w'))
 case atStart=>exact⟨(Br),H',⟨Nat.le_refl _⟩,⟨kR Bu.out⟩,⟨bw_33⟩⟩
 clear H'
 try clear c1
 try clear c4
 try clear c5
 obtain⟨Ai,HA,HK1,Ab,HB⟩:=hrel
 cases gk with
 |zero=>exact absurd HA.out (by simp[fI.l0])
 |succ k1=>
  have H:=HA.out
  clear HA
  simp only[fI.l0]at H
  replace H:=bez H
  obtain⟨⟨Aq,As⟩,De,H⟩:=H
  try dsimp only at H
  by_cases Ba:Aq<0
  ·rw[ip Ba]at H
   have Ax:=ode Ba
   clear Ba
   simp only[Option.some.injEq,Prod.mk.injEq]at H
   obtain⟨rfl,rfl⟩:=H
   obtain⟨Cl,Cm,Cn⟩:=Kd.R_slice Ab.out
   subst Cn
   go_wp2_with (first|((with_reducible refine gtC (f:=64) rfl ?_);refine clz Try.func64 (some 22) #[.slice A0 l0.length c0, .slice Cl Ai.length Cm] ?_;(with_reducible refine(fQ.calls k1 _ _ l0 _ _ Ai Aq As _ ?Ac ?Ad ?Ag ?Ah De.out).mono ?_);(case Ac=>exact kC (Kd.C_below Bo.out HB.out));(case Ad=>exact Bp.out);(case Ag=>exact kC (Kd.R_reads' Ab.out).2.2);(case Ah=>exact(Kd.R_reads' Ab.out).2.1);rintro e Dr ⟨rfl,hb⟩;refine⟨_,rfl,?_⟩;replace Ab:=Az.mk (Kd.R_below (kR Ab.out) hb);replace HB:=Az.mk (bwT bw_33 hb);(try clear hb)))
   go_ret2
   exact⟨_,rq1,kR Ab.out,bw_33⟩
  rw[ig Ba]at H
  have Ax:=decide_eq_false Ba
  clear Ba
  replace H:=bez H
  obtain⟨Aj,Dj,H⟩:=H
  try dsimp only at H
  have H':=Az.mk H
  clear H
  obtain⟨Bb,Bc,Co⟩:=Kd.R_slice Ab.out
  subst Co
  go_wp2_with (first|((with_reducible refine gtC (f:=64) rfl ?_);refine clz Try.func64 (some 22) #[.slice A0 l0.length c0, .slice Bb Ai.length Bc] ?_;(with_reducible refine(fQ.calls k1 _ _ l0 _ _ Ai Aq As _ ?Ac ?Ad ?Ag ?Ah De.out).mono ?_);(case Ac=>exact kC (Kd.C_below Bo.out HB.out));(case Ad=>exact Bp.out);(case Ag=>exact kC (Kd.R_reads' Ab.out).2.2);(case Ah=>exact(Kd.R_reads' Ab.out).2.1);rintro e Ds ⟨rfl,hb⟩;refine⟨_,rfl,?_⟩;replace Ab:=Az.mk (Kd.R_below (kR Ab.out) hb);replace HB:=Az.mk (bwT bw_33 hb);(try clear hb))|((with_reducible refine gtC (f:=50) rfl ?_);refine clz Try.func50 (some 31) #[.slice A0 l0.length c0, .int .i64 Aq, .int .i64 As] ?_;(with_reducible refine(gI.calls k1 _ _ l0 Aq As Aj _ ?Ac ?Ad Dj.out).mono ?_);(case Ac=>exact kC (Kd.C_below Bo.out HB.out));(case Ad=>exact Bp.out);rintro e Dt ⟨Bv,rfl,Cp,hb⟩;refine⟨_,rfl,?_⟩;have Bw:=Az.mk (Kd.R_lower (Kd.R_new' Cp (Kd.R_lt (kR Ab.out))) (bwZ bw_33));replace Ab:=Az.mk (Kd.R_elder' (kR Ab.out) (Kd.R_base Cp) hb);replace HB:=Az.mk (bwT bw_33 hb);(try clear hb);(try clear Cp)))
  go_loopg [10] k1 (fun kq Dk w'=>∃(Af:List Int) (Aa:Int),Dk= .int .i64 Aa∧Az (fI.l1 kq l0 Af Aj Aa=some (r1,r2))∧Az (kq≤k1)∧Az (Kd.R (Kd.int .i64) 3 w' w.heap.size (fun k_=>some k_≠(Bv:Value).ownBlock) (.slice Bb Ai.length Bc) Af)∧Az (Kd.R (Kd.int .i64) 3 w' w.heap.size (fun k_=>some k_≠((.slice Bb Ai.length Bc):Value).ownBlock) Bv Aj)∧Az (Below w.heap.size w w'))
  case atStart=>exact⟨(Ai),(0),rq2,H',⟨Nat.le_refl _⟩,⟨by(with_reducible repeat(first|apply Kd.R_alloc|apply Kd.R_drewN|apply Kd.R_drew));exact Kd.R_mono Ab.out (fun _ hk=>hk.2)⟩,⟨by(with_reducible repeat(first|apply Kd.R_alloc|apply Kd.R_drewN|apply Kd.R_drew));exact Kd.R_mono Bw.out (fun _ hk=>hk.2)⟩,⟨bw_33⟩⟩
  clear H'
  try clear c1
  try clear c4
  try clear c5
  try clear Ba
  try clear Ax
  obtain⟨Af,Aa,rfl,HA,HK2,Ab,Am,HB⟩:=hrel
  have Ae:=(Kd.R_reads' Ab.out).1
  rw[Ae]at Ab
  (try simp only[Ae])
  (try simp only[Ae]at Am)
  cases gk with
  |zero=>exact absurd HA.out (by simp[fI.l1])
  |succ k2=>
   have H:=HA.out
   clear HA
   simp only[fI.l1]at H
   by_cases Bn:Aa<(Af.length:Int)
   rotate_left
   ·rw[ig Bn]at H
    have Bx:=decide_eq_false Bn
    clear Bn
    have H':=Az.mk H
    clear H
    go_wp2
    (try simp only[←Ae])
    go_roundg k2
    case measure=>have:=HK1.out;have:=HK2.out;omega
    case rel=>exact⟨(Af),H',⟨by have:=HK1.out;have:=HK2.out;omega⟩,⟨by(try simp only[Ae]);(with_reducible repeat(first|apply Kd.R_alloc|apply Kd.R_drewN|apply Kd.R_drew));exact Kd.R_mono Ab.out (fun _ hk=>trivial)⟩,⟨bw_33⟩⟩
   rw[ip Bn]at H
   have Bx:=ode Bn
   clear Bn
   by_cases Cg:0≤Aa
   rotate_left
   ·rw[ig Cg]at H
    exact absurd H (by simp)
   rw[ip Cg]at H
   have Df:=ode Cg
   clear Cg
   by_cases Ch:Aa<(Aj.length:Int)
   rotate_left
   ·rw[ig Ch]at H
    exact absurd H (by simp)
   rw[ip Ch]at H
   have Dg:=ode Ch
   clear Ch
   obtain⟨By,hy⟩:∃y_:List Int,y_=(Af.set (Aa:Int).toNat (wrap64 ((rd Af Aa) - (rd Aj Aa)))):=⟨_,rfl⟩
   replace H:(fI.l1 k2 l0 By Aj (wrap64 (Aa+1)))=some (r1,r2):=rh
   have Bz:=Az.mk hy
   clear hy
   have H':=Az.mk H
   clear H
   try go_wp2
   replace Ab:=Az.mk (Kd.R_drew Ab.out);replace Am:=Az.mk (Kd.R_drew Am.out);replace HB:=Az.mk (bwD HB.out)
   have Bd:0≤(Aa:Int):=od
   have Bf:Aa<(Af.length:Int):=od
   obtain⟨Dh,Cq,Ak⟩:=Kd.at_int (Kd.R_reads' Ab.out).2.2 Aa Bd Bf
   cases Cq
   replace Bd:=ets Bd
   replace Bf:=ets Bf
   obtain⟨Dl,Dm,Ca⟩:=Kd.R_slice Am.out
   (first|subst Ca|(injection Ca with f1_ f2_ f3_;have f4_:=f1_.symm;have f5_:=f3_.symm;clear f1_ f2_ f3_;subst f4_;subst f5_))
   have Bh:0≤(Aa:Int):=od
   have Bi:Aa<(Aj.length:Int):=od
   obtain⟨Cc,Cs,Ao⟩:=Kd.at_int (Kd.R_reads' Am.out).2.2 Aa Bh Bi
   cases Cs
   replace Bh:=ets Bh
   replace Bi:=ets Bi
   have Ct:0≤(Aa:Int):=od
   have Cu:(Aa:Int)<((Af.length:Int):Int):=od
   obtain⟨Bj,Dn,Cd,Ce,gl21,Do,HG21⟩:=Kd.R_form Ab.out (by omega)
   (first|cases Cd|(injection Cd with ea_ en_ ec_;(first|subst ea_|(injection ea_ with ea_;subst ea_));subst ec_;clear en_))
   have GB21:=Az.mk Ce
   have Cv:=Az.mk HG21
   clear Ce gl21 HG21
   (first|simp only[add_plain]at Ak|skip)
   obtain⟨Bk,Bl⟩:=Kd.R_celln 0 Ab.out (Aa:Int) Ct Cu
   replace Ct:=ets Ct
   replace Cu:=ets Cu
   have Bm:=Kd.R_putn Ab.out (Aa:Int) (wrap64 ((rd Af Aa) - (rd Aj Aa)))
   rw[←Bz.out]at Bm
   have Cf:=Az.mk Bm
   clear Bm
   refine start_ (n:=13) (S:=fun w'=>w'.cell? ⟨Bj,(Aa).toNat,none⟩=some (.int .i64 (rd Af Aa))∧w'.cell? (Cc.add (Aa).toNat)=some (.int .i64 (rd Aj Aa))) (ds:=[12]) #[F,F,F,F,F,F,F,F,F,F,F,F,F] (by kernel_rfl) rfl rfl ⟨Ak,Ao⟩ (fun hHeld=>?_);refine with_tabW fI.tab11 fI.bits11 (fun HT_ HW_=>?_)
   generalize wr.drew=Du at Ab Am HB Cv Cf Bl Bk Ak Ao hHeld ⊢
   refine pu (i:=0) (N:=some 38) #[T,F,F,F,F,F,F,F,F,F,F,F,F] (any_of HT_.out (by kernel_rfl)) ?_
   refine pu (i:=1) (N:=some 39) #[T,T,F,F,F,F,F,F,F,F,F,F,F] (any_of HT_.out (by kernel_rfl)) ?_
   refine pu (i:=2) (N:=some 40) #[T,T,T,F,F,F,F,F,F,F,F,F,F] (any_of HT_.out (by kernel_rfl)) ?_
   refine pu (i:=3) (N:=some 41) #[T,T,T,T,F,F,F,F,F,F,F,F,F] (any_of HT_.out (by kernel_rfl)) ?_
   refine pu (i:=4) (N:=some 42) #[T,T,T,T,T,F,F,F,F,F,F,F,F] (any_of HT_.out (by kernel_rfl)) ?_
   refine pu (i:=6) (N:=some 44) #[T,T,T,T,T,F,T,F,F,F,F,F,F] (any_of HT_.out (by kernel_rfl)) ?_
   refine pu (i:=7) (N:=some 45) #[T,T,T,T,T,F,T,T,F,F,F,F,F] (any_of HT_.out (by kernel_rfl)) ?_
   refine pu (i:=8) (N:=some 46) #[T,T,T,T,T,F,T,T,T,F,F,F,F] (any_of HT_.out (by kernel_rfl)) ?_
   refine take_ (i:=5) (N:=some 43) (v:=?_) (a':=?_) #[T,T,T,T,T,T,T,T,T,F,F,F,F] rfl rfl (take_ofW HT_.out HW_.out (by kernel_rfl)) (fun _ _ _ h=>h) (Or.inl ⟨by rfl,?_⟩) hHeld ?_ ?_
   rotate_left
   ·rintro w' ⟨s0,s1⟩
    go_simp
    with_reducible rfl
   rotate_left
   ·exact acq
   refine take_ (i:=9) (N:=some 47) (v:=?_) (a':=?_) #[T,T,T,T,T,T,T,T,T,T,F,F,F] rfl rfl (take_ofW HT_.out HW_.out (by kernel_rfl)) (fun _ _ _ h=>h) (Or.inl ⟨by rfl,?_⟩) hHeld ?_ ?_
   rotate_left
   ·rintro w' ⟨s0,s1⟩
    go_simp
    with_reducible rfl
   rotate_left
   ·exact acq
   refine pu (i:=10) (N:=some 48) #[T,T,T,T,T,T,T,T,T,T,T,F,F] (any_of HT_.out (by kernel_rfl)) ?_
   refine pu (i:=11) (N:=some 49) #[T,T,T,T,T,T,T,T,T,T,T,T,F] (any_of HT_.out (by kernel_rfl)) ?_
   refine last_ (i:=12) (N:=none) #[T,T,T,T,T,T,T,T,T,T,T,T,T] rfl rfl (one_of HT_.out (by kernel_rfl)) (by decide) (fun K hK=>?_)
   refine skip_ (w1:=?_) (by rfl) rfl ?_ ?_
   rotate_left
   ·go_simp
    rfl
   refine hK.out _ _ ?_
   clear hK K
   refine done_ (done_of HT_.out (by kernel_rfl)) ?_
   try go_wp2
   (try simp only[←Ae])
   go_roundg k2
   case measure=>have:=HK1.out;have:=HK2.out;omega
   case rel=>exact⟨(By),(wrap64 (Aa+1)),rq2,H',⟨by have:=HK1.out;have:=HK2.out;omega⟩,⟨by(try simp only[Ae]);(with_reducible repeat(first|apply Kd.R_alloc|apply Kd.R_drewN|apply Kd.R_drew));exact Cf.out⟩,⟨by(try simp only[Ae]);(with_reducible repeat(first|apply Kd.R_alloc|apply Kd.R_drewN|apply Kd.R_drew));exact Kd.R_mono (Kd.R_far (p:=⟨Bj,(Aa:Int).toNat,none⟩) (Kd.R_mono Am.out (fun k_ hk=>(⟨hk,fun e_=>hk (by rw[e_];rfl)⟩:_∧k_≠Bj))) (fun _ hk=>hk.2) (.int .i64 (wrap64 ((rd Af Aa) - (rd Aj Aa))))) (fun _ hk=>hk.1)⟩,⟨bw_33⟩⟩
end
def fZ.l0:Nat→List Int→List Int→Int→Option (Bool)
 |0,_,_,_=>none
 |k+1,x0,x1,x5=>if x5<(x0.length:Int) then(if 0≤x5 then(if x5<(x1.length:Int) then(if(rd x0 x5)=(rd x1 x5) then(fZ.l0 k x0 x1 (wrap64 (x5+1))) else(some false)) else(none)) else(none)) else(some true)
def fZ.f (k:Nat) (l0:List Int) (l1:List Int):Option (Bool):=if(l0.length:Int)=(l1.length:Int) then(fZ.l0 k l0 l1 0) else(some false)
theorem fZ.calls (k:Nat) (A0:Option Addr) (c0:Nat) (l0:List Int) (A1:Option Addr) (c1:Nat) (l1:List Int) (r:Bool) (w:World) (Au:Kd.C (Kd.int .i64) w A0 l0.length l0) (Av:l0.length≤c0) (Aw:Kd.C (Kd.int .i64) w A1 l1.length l1) (Ax:l1.length≤c1) (h:fZ.f k l0 l1=some r):
  Calls Try.prog 21 #[.slice A0 l0.length c0, .slice A1 l1.length c1] w fun e w'=>e= .returned (.bool r)∧Drawn0 w w':=by
 have Ay:=Az.mk Au
 have Bc:=Az.mk Av
 clear Au Av
 have HR1:=Az.mk Aw
 have Bd:=Az.mk Ax
 clear Aw Ax
 have H:(if(l0.length:Int)=(l1.length:Int) then(fZ.l0 k l0 l1 0) else(some false))=some r:=h
 clear h
 by_cases c3:(l0.length:Int)=(l1.length:Int)
 rotate_left
 ·rw[ig c3]at H
  have Aj:=beq_eq_false_iff_ne.mpr c3
  have Ak:=bne_iff_ne.mpr c3
  have Al:(l0.length== l1.length)=false:=by first|simpa using c3|(simp at c3 ⊢;omega)
  obtain rfl:=Option.some.inj H
  go_enter Try.func21,Try.ntmps21
  go_wp2
  repeat(go_quiet (fail);try go_wp2)
  go_ret
  exact⟨rq2,kd⟩
 rw[ip c3]at H
 have Aj:=beq_iff_eq.mpr c3
 have Ak:=bne_eq_false_iff_eq.mpr c3
 have Al:(l0.length== l1.length)=true:=by first|simpa using c3|(simp at c3 ⊢;omega)
 clear c3
 have H':=Az.mk H
 clear H
 go_enter Try.func21,Try.ntmps21
 go_wp2
 repeat(go_quiet (fail);try go_wp2)
 go_loopg [5] k (fun kq v5 w'=>∃(Aa:Int),v5= .int .i64 Aa∧Az (fZ.l0 kq l0 l1 Aa=some r)∧Az (kq≤k)∧Drawn0 w w')
 case atStart=>exact⟨(0),rq2,H',⟨Nat.le_refl _⟩,kd⟩
 clear H'
 try clear c1
 try clear c3
 try clear Aj
 try clear Ak
 try clear Al
 obtain⟨Aa,rfl,HA,HK1,⟨m1,rfl⟩⟩:=hrel
 cases gk with
 |zero=>exact absurd HA.out (by simp[fZ.l0])
 |succ k1=>
  have H:=HA.out
  clear HA
  simp only[fZ.l0]at H
  by_cases c4:Aa<(l0.length:Int)
  rotate_left
  ·rw[ig c4]at H
   have Ap:=decide_eq_false c4
   clear c4
   obtain rfl:=Option.some.inj H
   go_wp2
   repeat(go_quiet (fail);try go_wp2)
   go_ret
   exact⟨rq2,kd⟩
  rw[ip c4]at H
  have Ap:=ode c4
  clear c4
  by_cases c5:0≤Aa
  rotate_left
  ·rw[ig c5]at H
   exact absurd H (by simp)
  rw[ip c5]at H
  have Ba:=ode c5
  clear c5
  by_cases c6:Aa<(l1.length:Int)
  rotate_left
  ·rw[ig c6]at H
   exact absurd H (by simp)
  rw[ip c6]at H
  have Bb:=ode c6
  clear c6
  by_cases c7:(rd l0 Aa)=(rd l1 Aa)
  rotate_left
  ·rw[ig c7]at H
   have Aq:=beq_eq_false_iff_ne.mpr c7
   have As:=bne_iff_ne.mpr c7
   obtain rfl:=Option.some.inj H
   have Ab:0≤(Aa:Int):=od
   have Ac:Aa<(l0.length:Int):=od
   obtain⟨Am,Ah,Af⟩:=Kd.at_int Ay.out Aa Ab Ac
   cases Ah
   replace Ab:=ets Ab
   replace Ac:=ets Ac
   have Ad:0≤(Aa:Int):=od
   have Ae:Aa<(l1.length:Int):=od
   obtain⟨Ao,Ai,Ag⟩:=Kd.at_int HR1.out Aa Ad Ae
   cases Ai
   replace Ad:=ets Ad
   replace Ae:=ets Ae
   go_wp2
   repeat(go_quiet (fail);try go_wp2)
   go_ret
   exact⟨rq2,kd⟩
  rw[ip c7]at H
  have Aq:=beq_iff_eq.mpr c7
  have As:=bne_eq_false_iff_eq.mpr c7
  clear c7
  have H':=Az.mk H
  clear H
  have Ab:0≤(Aa:Int):=od
  have Ac:Aa<(l0.length:Int):=od
  obtain⟨Am,Ah,Af⟩:=Kd.at_int Ay.out Aa Ab Ac
  cases Ah
  replace Ab:=ets Ab
  replace Ac:=ets Ac
  have Ad:0≤(Aa:Int):=od
  have Ae:Aa<(l1.length:Int):=od
  obtain⟨Ao,Ai,Ag⟩:=Kd.at_int HR1.out Aa Ad Ae
  cases Ai
  replace Ad:=ets Ad
  replace Ae:=ets Ae
  go_wp2
  repeat(go_quiet (fail);try go_wp2)
  go_roundg k1
  case measure=>have:=HK1.out;omega
  case rel=>exact⟨(wrap64 (Aa+1)),rq2,H',⟨by have:=HK1.out;omega⟩,kd⟩
def gR.l0:Nat→List Int→Int→Int→Int→Int→Int→Option (Int)
 |0,_,_,_,_,_,_=>none
 |k+1,x0,x1,x2,x7,x8,x9=>if x9<(wrap64 (x8 - 1)) then(if 0≤x9 then(if x9<(x0.length:Int) then(gR.l0 k x0 x1 x2 (wrap64 (x7+(rd x0 x9))) x8 (wrap64 (x9+1))) else(none)) else(none)) else(if x1>0 then(some (wrap64 (x7+x2))) else(if 0≤(wrap64 (x8 - 1)) then(if(wrap64 (x8 - 1))<(x0.length:Int) then(some (wrap64 ((wrap64 ((wrap64 (x7+(rd x0 (wrap64 (x8 - 1))))) - 1)) - x2))) else(none)) else(none)))
def gR.f (k:Nat) (l0:List Int) (a1:Int) (a2:Int):Option (Int):=(gF.f a1).bind fun t604=>(gR.l0 k l0 a1 a2 0 t604 0)
theorem gR.calls (k:Nat) (A0:Option Addr) (c0:Nat) (l0:List Int) (a1:Int) (a2:Int) (r:Int) (w:World) (Au:Kd.C (Kd.int .i64) w A0 l0.length l0) (Av:l0.length≤c0) (h:gR.f k l0 a1 a2=some r):
  Calls Try.prog 83 #[.slice A0 l0.length c0, .int .i64 a1, .int .i64 a2] w fun e w'=>e= .returned (.int .i64 r)∧Drawn0 w w':=by
 have Aw:=Az.mk Au
 have Bf:=Az.mk Av
 clear Au Av
 have H:((gF.f a1).bind fun Ab=>(gR.l0 k l0 a1 a2 0 Ab 0))=some r:=h
 clear h
 replace H:=bez H
 obtain⟨Ab,A4,H⟩:=H
 try dsimp only at H
 have H':=Az.mk H
 clear H
 go_enter Try.func83,Try.ntmps83
 go_wp2_with (first|((with_reducible refine gtC (f:=79) rfl ?_);refine clz Try.func79 (some 11) #[.int .i64 a1] ?_;(with_reducible refine(gF.calls a1 Ab _ A4.out).mono ?_);rintro e w' ⟨rfl,⟨nd,rfl⟩⟩;refine⟨_,rfl,?_⟩))
 go_loopg [7,9] k (fun kq v7 v9 w'=>∃(Ac:Int) (Aa:Int),v7= .int .i64 Ac∧v9= .int .i64 Aa∧Az (gR.l0 kq l0 a1 a2 Ac Ab Aa=some r)∧Az (kq≤k)∧Drawn0 w w')
 case atStart=>exact⟨(0),(0),rq2,rq2,H',⟨Nat.le_refl _⟩,kd⟩
 clear H'
 obtain⟨Ac,Aa,rfl,rfl,HA,HK1,⟨m1,rfl⟩⟩:=hrel
 cases gk with
 |zero=>exact absurd HA.out (by simp[gR.l0])
 |succ k1=>
  have H:=HA.out
  clear HA
  simp only[gR.l0]at H
  by_cases c5:Aa<(wrap64 (Ab - 1))
  ·rw[ip c5]at H
   have Aj:=ode c5
   clear c5
   by_cases c6:0≤Aa
   rotate_left
   ·rw[ig c6]at H
    exact absurd H (by simp)
   rw[ip c6]at H
   have Bc:=ode c6
   clear c6
   by_cases c7:Aa<(l0.length:Int)
   rotate_left
   ·rw[ig c7]at H
    exact absurd H (by simp)
   rw[ip c7]at H
   have Bd:=ode c7
   clear c7
   have H':=Az.mk H
   clear H
   have Af:0≤(Aa:Int):=od
   have Ag:Aa<(l0.length:Int):=od
   obtain⟨Ax,Ap,Ak⟩:=Kd.at_int Aw.out Aa Af Ag
   cases Ap
   replace Af:=ets Af
   replace Ag:=ets Ag
   go_wp2
   go_roundg k1
   case measure=>have:=HK1.out;omega
   case rel=>exact⟨(wrap64 (Ac+(rd l0 Aa))),(wrap64 (Aa+1)),rq2,rq2,H',⟨by have:=HK1.out;omega⟩,kd⟩
  rw[ig c5]at H
  have Aj:=decide_eq_false c5
  clear c5
  by_cases c8:a1>0
  ·rw[ip c8]at H
   have Aq:decide (0<a1)=true:=ode c8
   clear c8
   obtain rfl:=Option.some.inj H
   go_wp2
   go_ret
   exact⟨rq2,kd⟩
  rw[ig c8]at H
  have Aq:decide (0<a1)=false:=decide_eq_false c8
  clear c8
  obtain⟨Ae,Ad⟩:∃j_:Int,(wrap64 (Ab - 1))=j_:=⟨_,rfl⟩
  replace H:(if 0≤(Ae) then(if(Ae)<(l0.length:Int) then(some (wrap64 ((wrap64 ((wrap64 (Ac+(rd l0 (Ae)))) - 1)) - a2))) else(none)) else(none))=some r:=by first|(rw[Ad]at H;exact H)|(simp only[Ad]at H ⊢;exact H)
  (try rw[Ad]at Aj)
  have hji9w:(IntKind.i64.wrap (Ab - 1))=Ae:=(i64_w _).trans Ad
  by_cases Al:0≤(Ae)
  rotate_left
  ·rw[ig Al]at H
   exact absurd H (by simp)
  rw[ip Al]at H
  have Ay:=ode Al
  clear Al
  by_cases Am:(Ae)<(l0.length:Int)
  rotate_left
  ·rw[ig Am]at H
   exact absurd H (by simp)
  rw[ip Am]at H
  have Ba:=ode Am
  clear Am
  obtain rfl:=Option.some.inj H
  have Ah:0≤((Ae):Int):=od
  have Ai:(Ae)<(l0.length:Int):=od
  obtain⟨Bb,As,Ao⟩:=Kd.at_int Aw.out (Ae) Ah Ai
  cases As
  replace Ah:=ets Ah
  replace Ai:=ets Ai
  go_wp2
  go_ret
  exact⟨by first|rfl|(simp;done)|(simp only[←Ad] <;> (first|rfl|simp))|(simp[*];done),kd⟩
end Go.Proofs.Ytflbpjijgnmklaa.P

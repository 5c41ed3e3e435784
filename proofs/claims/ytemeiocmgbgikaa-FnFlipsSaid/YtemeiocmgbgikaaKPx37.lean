-- The walks, cut and laid together by this session's tools (prune.py, sq2.py, min.py: shorter names, no needless spaces). Not trusted: Lean checks it.
import Derived.Test.YtemeiocmgbgikaaKWZip
import Derived.Test.YtemeiocmgbgikaaKPx32
namespace Go.Proofs.Ytemeiocmgbgikaa.P
open Go.RowKit Go.Proofs.YtemeiocmgbgikaaW.PrintWords Go.Proofs.YtemeiocmgbgikaaW.PrintLast Go.Proofs.YtemeiocmgbgikaaW.PrintMore
attribute [local go_sem] max2_int min2_int max_two min_two max_three min_three max_four min_four   -- for this text's walks alone
set_option linter.unusedVariables false
set_option linter.unusedSimpArgs false
set_option maxHeartbeats 8000000
set_option maxRecDepth 100000
open Option renaming bind_eq_some_iff → be
theorem bw_37 {n:Nat}{v v':World} (h:Below n v v':=by repeat(first|(with_reducible first|exact HB.out|apply bwA|apply pbN|apply bwD)|exact HB.out)):Below n v v':=h
theorem ln_37 {P:Prop} (h:P:=by(try simp only[List.map_toArray,List.map_cons,List.map_nil]);first|done|rfl|(simp only[List.length_drop,List.length_take];rfl)):P:=h
mutual
def fE.l0:Nat→List (List Int)→List Int→List Int→Int→Option (List Int)
 |0,_,_,_,_=>none
 |k+1,x0,x1,x5,x6=>if x6<(x1.length:Int) then(fE.l1 k x0 x1 x5 x6 0) else(fE.l2 k x0 x1 x5 0)
def fE.l1:Nat→List (List Int)→List Int→List Int→Int→Int→Option (List Int)
 |0,_,_,_,_,_=>none
 |k+1,x0,x1,x5,x6,x7=>if 0≤x6 then(if x6<(x1.length:Int) then(if x7<(rd x1 x6) then(if x5.length<17592186044416 then(fE.l1 k x0 x1 (x5 ++ [(x5.length:Int)]) x6 (wrap64 (x7+1))) else(none)) else(fE.l0 k x0 x1 x5 (wrap64 (x6+1)))) else(none)) else(none)
def fE.l2:Nat→List (List Int)→List Int→List Int→Int→Option (List Int)
 |0,_,_,_,_=>none
 |k+1,x0,x1,x5,x8=>if x8<(x0.length:Int) then(fE.l3 k x0 x1 x5 x8 0) else(some x5)
def fE.l3:Nat→List (List Int)→List Int→List Int→Int→Int→Option (List Int)
 |0,_,_,_,_,_=>none
 |k+1,x0,x1,x5,x8,x9=>if x9<3 then(if 0≤x8 then(if x8<(x0.length:Int) then(if 0≤x9 then(if x9<((rd_L1 x0 x8).length:Int) then(if 0≤(Int.tmod (wrap64 (x9+1)) 3) then(if(Int.tmod (wrap64 (x9+1)) 3)<((rd_L1 x0 x8).length:Int) then(fE.l4 k x0 x1 x5 x8 x9 (rd (rd_L1 x0 x8) x9) (rd (rd_L1 x0 x8) (Int.tmod (wrap64 (x9+1)) 3)) 0) else(none)) else(none)) else(none)) else(none)) else(none)) else(none)) else(fE.l2 k x0 x1 x5 (wrap64 (x8+1)))
def fE.l4:Nat→List (List Int)→List Int→List Int→Int→Int→Int→Int→Int→Option (List Int)
 |0,_,_,_,_,_,_,_,_=>none
 |k+1,x0,x1,x5,x8,x9,x10,x11,x12=>(gR.f x0 x1 x8 x9).bind fun t722=>(if x12<(wrap64 (Int.tdiv t722 2)) then((fZ.f x10).bind fun t723=>(if 0≤(wrap64 (t723 - 1)) then(if(wrap64 (t723 - 1))<(x1.length:Int) then((gX.f k x1 x10 (wrap64 ((wrap64 ((rd x1 (wrap64 (t723 - 1))) - 1)) - x12))).bind fun t725=>((fX.f k x5 t725).bind fun t726=>((gX.f k x1 x11 x12).bind fun t727=>((fX.f k x5 t727).bind fun t728=>(if 0≤t726 then(if t726<(x5.length:Int) then(fE.l4 k x0 x1 (x5.set (t726:Int).toNat t728) x8 x9 x10 x11 (wrap64 (x12+1))) else(none)) else(none)))))) else(none)) else(none))) else(fE.l3 k x0 x1 x5 x8 (wrap64 (x9+1))))
end
def fE.f (k:Nat) (l0:List (List Int)) (l1:List Int):Option (List Int):=fE.l0 k l0 l1 (([]:List Int)) 0
theorem fE.calls (k:Nat) (A0:Option Addr) (c0:Nat) (l0:List (List Int)) (A1:Option Addr) (c1:Nat) (l1:List Int) (r:List Int) (w:World) (Ga:Kd.C (Kd.slice 3 (Kd.int .i64)) w A0 l0.length l0) (Gb:l0.length≤c0) (Gc:Kd.C (Kd.int .i64) w A1 l1.length l1) (Gd:l1.length≤c1) (h:fE.f k l0 l1=some r):
  Calls Try.prog 69 #[.slice A0 l0.length c0, .slice A1 l1.length c1] w fun e w'=>∃v0_:Value,e= .returned (v0_)∧Kd.R (Kd.int .i64) 3 w' w.heap.size (fun _=>True) v0_ r∧Below w.heap.size w w':=by
 have Dw:=Az.mk Ga
 have Ge:=Az.mk Gb
 clear Ga Gb
 have Ci:=Az.mk Gc
 have Dx:=Az.mk Gd
 clear Gc Gd
 have HB:=Az.mk (Below.refl w.heap.size w)
 have H:=h
 unfold fE.f at H
 clear h
 obtain⟨Cy,hy⟩:∃y_:List Int,y_=(([]:List Int)):=⟨_,rfl⟩
 replace H:(fE.l0 k l0 l1 Cy 0)=some r:=rh
 have Ce:=Az.mk hy
 clear hy
 have H':=Az.mk H
 clear H
 go_enter Try.func69,Try.ntmps69
 go_wp2_with (first|((with_reducible refine gtD (N:=15) rfl ?_);refine Kd.R_lit (Kd.int .i64) _ 3 ?hg (N:=15) ?hd (xs:=([]:List Int)) (inner:=[]) (ok:=fun _=>True) (okp:=fun _=>True) ?hr ?hp (fun _ hk=>hk) trivial (Below.refl _ _) (Nat.le_refl _) (by simp) ?_;(case hd=>rfl);(case hg=>rfl);(case hr=>first|(go_simp;done)|(go_simp;rfl));(case hp=>exact(Reps.none _ _));intro Gm w3 Cz hb hg_ hnew_;clear hg_ hnew_;(first|rw[←Ce.out]at Cz|(simp only[Int.reduceToNat]at Cz;rw[←Ce.out]at Cz));have Da:=Az.mk (Kd.R_lower Cz (bwZ bw_37));replace HB:=Az.mk (bwT bw_37 hb);clear hb Cz))
 go_loopg [5,6] k (fun kq v5 v6 w'=>∃(Bj:List Int) (Ah:Int),v6= .int .i64 Ah∧Az (fE.l0 kq l0 l1 Bj Ah=some r)∧Az (kq≤k)∧Az (Kd.R (Kd.int .i64) 3 w' w.heap.size (fun _=>True) v5 Bj)∧Az (Below w.heap.size w w'))
 case atStart=>exact⟨(Cy),(0),rq2,H',⟨Nat.le_refl _⟩,⟨kR Da.out⟩,⟨bw_37⟩⟩
 clear H'
 try clear c1
 obtain⟨Bj,Ah,rfl,HA,HK1,Aa,HB⟩:=hrel
 cases gk with
 |zero=>exact absurd HA.out (by simp[fE.l0])
 |succ k1=>
  have H:=HA.out
  clear HA
  simp only[fE.l0]at H
  by_cases c5:Ah<(l1.length:Int)
  ·rw[ip c5]at H
   have Bk:=ode c5
   clear c5
   have H':=Az.mk H
   clear H
   go_wp2
   go_loopg [5,7] k1 (fun kq v5 v7 w'=>∃(Ai:List Int) (Bh:Int),v7= .int .i64 Bh∧Az (fE.l1 kq l0 l1 Ai Ah Bh=some r)∧Az (kq≤k1)∧Az (Kd.R (Kd.int .i64) 3 w' w.heap.size (fun _=>True) v5 Ai)∧Az (Below w.heap.size w w'))
   case atStart=>exact⟨(Bj),(0),rq2,H',⟨Nat.le_refl _⟩,⟨kR Aa.out⟩,⟨bw_37⟩⟩
   clear H'
   try clear c1
   try clear c5
   try clear Bk
   obtain⟨Ai,Bh,rfl,HA,HK2,Aa,HB⟩:=hrel
   cases gk with
   |zero=>exact absurd HA.out (by simp[fE.l1])
   |succ k2=>
    have H:=HA.out
    clear HA
    simp only[fE.l1]at H
    by_cases c6:0≤Ah
    rotate_left
    ·rw[ig c6]at H
     exact absurd H (by simp)
    rw[ip c6]at H
    have Cj:=ode c6
    clear c6
    by_cases c7:Ah<(l1.length:Int)
    rotate_left
    ·rw[ig c7]at H
     exact absurd H (by simp)
    rw[ip c7]at H
    have Ck:=ode c7
    clear c7
    by_cases c8:Bh<(rd l1 Ah)
    rotate_left
    ·rw[ig c8]at H
     have Bs:=decide_eq_false c8
     clear c8
     have H':=Az.mk H
     clear H
     have Am:0≤(Ah:Int):=od
     have Ap:Ah<(l1.length:Int):=od
     obtain⟨Db,Cl,Ad⟩:=Kd.at_int Ci.out Ah Am Ap
     cases Cl
     replace Ad:=kc HB Ad
     replace Am:=ets Am
     replace Ap:=ets Ap
     go_wp2
     go_roundg k2
     case measure=>have:=HK1.out;have:=HK2.out;omega
     case rel=>exact⟨(Ai),(wrap64 (Ah+1)),rq2,H',⟨by have:=HK1.out;have:=HK2.out;omega⟩,⟨kR Aa.out⟩,⟨bw_37⟩⟩
    rw[ip c8]at H
    have Bs:=ode c8
    clear c8
    by_cases c9:Ai.length<17592186044416
    rotate_left
    ·rw[ig c9]at H
     exact absurd H (by simp)
    rw[ip c9]at H
    have LMc9:=Az.mk c9
    clear c9
    obtain⟨Dc,hy⟩:∃y_:List Int,y_=(Ai ++ [(Ai.length:Int)]):=⟨_,rfl⟩
    replace H:(fE.l1 k2 l0 l1 Dc Ah (wrap64 (Bh+1)))=some r:=rh
    have Dd:=Az.mk hy
    clear hy
    have H':=Az.mk H
    clear H
    have Am:0≤(Ah:Int):=od
    have Ap:Ah<(l1.length:Int):=od
    obtain⟨Db,Cl,Ad⟩:=Kd.at_int Ci.out Ah Am Ap
    cases Cl
    replace Ad:=kc HB Ad
    replace Am:=ets Am
    replace Ap:=ets Ap
    obtain⟨Ee,Ef,Eg⟩:=Kd.R_slice Aa.out
    subst Eg
    go_wp2_with (first|((with_reducible refine gate_builtin (b:= .append) (xs:= #[.tmp 30, .tmp 33]) rfl ?_);at_builtin;refine Kd.R_append (Kd.int .i64) (w0:=w) w.heap.size rfl (.tmp 30) (.tmp 33) 25 3 (.int .i64 0) 8 rfl Try.underlying25 info3 rfl (by decide) (by omega) (.slice Ee Ai.length Ef) Ai (Ai.length:Int) [.int .i64 (Ai.length:Int)] (fun _=>True) (fun _=>False) rfl rfl ?aP (fun _ hk=>hk.elim) ?aF ?aO ?aB ?aS ?aL ?_;(case aP=>exact rfl);(case aB=>exact bw_37);(case aF=>exact(fun _ _=>trivial));(case aO=>exact(kR Aa.out));(case aS=>exact(bwZ bw_37));(case aL=>have:=LMc9.out;omega);intro Gn Gx ho hb hg hat;rw[←Dd.out]at ho;have n0_:=Az.mk (hb);have n1_:=Az.mk (ho);clear HB;clear Aa;have HB:=n0_;have De:=n1_;clear n0_ n1_;clear ho hb hg hat))
    go_roundg k2
    case measure=>have:=HK1.out;have:=HK2.out;omega
    case rel=>exact⟨(Dc),(wrap64 (Bh+1)),rq2,H',⟨by have:=HK1.out;have:=HK2.out;omega⟩,⟨kR De.out⟩,⟨bw_37⟩⟩
  rw[ig c5]at H
  have Bk:=decide_eq_false c5
  clear c5
  have H':=Az.mk H
  clear H
  go_wp2
  go_loopg [8] k1 (fun kq v8 w'=>∃(Ai:List Int) (Ab:Int),v8= .int .i64 Ab∧Az (fE.l2 kq l0 l1 Ai Ab=some r)∧Az (kq≤k1)∧Az (Kd.R (Kd.int .i64) 3 w' w.heap.size (fun _=>True) u5 Ai)∧Az (Below w.heap.size w w'))
  case atStart=>exact⟨(Bj),(0),rq2,H',⟨Nat.le_refl _⟩,⟨kR Aa.out⟩,⟨bw_37⟩⟩
  clear H'
  try clear c1
  try clear c5
  try clear Bk
  try clear c6
  try clear Cj
  try clear c7
  try clear Ck
  try clear c8
  try clear Bs
  try clear c9
  try clear Ad
  try clear Am
  try clear Ap
  obtain⟨Ai,Ab,rfl,HA,HK2,Aa,HB⟩:=hrel
  cases gk with
  |zero=>exact absurd HA.out (by simp[fE.l2])
  |succ k2=>
   have H:=HA.out
   clear HA
   simp only[fE.l2]at H
   by_cases Cf:Ab<(l0.length:Int)
   rotate_left
   ·rw[ig Cf]at H
    have Bl:=decide_eq_false Cf
    clear Cf
    obtain rfl:=Option.some.inj H
    go_wp2
    go_ret
    exact⟨_,rq1,kR Aa.out,bw_37⟩
   rw[ip Cf]at H
   have Bl:=ode Cf
   clear Cf
   have H':=Az.mk H
   clear H
   go_wp2
   go_loopg [9] k2 (fun kq v9 w'=>∃(Bm:List Int) (Ac:Int),v9= .int .i64 Ac∧Az (fE.l3 kq l0 l1 Bm Ab Ac=some r)∧Az (kq≤k2)∧Az (Kd.R (Kd.int .i64) 3 w' w.heap.size (fun _=>True) u5 Bm)∧Az (Below w.heap.size w w'))
   case atStart=>exact⟨(Ai),(0),rq2,H',⟨Nat.le_refl _⟩,⟨kR Aa.out⟩,⟨bw_37⟩⟩
   clear H'
   try clear c1
   try clear c5
   try clear Bk
   try clear c6
   try clear Cj
   try clear c7
   try clear Ck
   try clear c8
   try clear Bs
   try clear c9
   try clear Cf
   try clear Bl
   try clear Ad
   try clear Am
   try clear Ap
   obtain⟨Bm,Ac,rfl,HA,HK3,Aa,HB⟩:=hrel
   cases gk with
   |zero=>exact absurd HA.out (by simp[fE.l3])
   |succ k3=>
    have H:=HA.out
    clear HA
    simp only[fE.l3]at H
    by_cases Cm:Ac<3
    rotate_left
    ·rw[ig Cm]at H
     have Cg:=decide_eq_false Cm
     clear Cm
     have H':=Az.mk H
     clear H
     go_wp2
     go_roundg k3
     case measure=>have:=HK1.out;have:=HK2.out;have:=HK3.out;omega
     case rel=>exact⟨(Bm),(wrap64 (Ab+1)),rq2,H',⟨by have:=HK1.out;have:=HK2.out;have:=HK3.out;omega⟩,⟨kR Aa.out⟩,⟨bw_37⟩⟩
    rw[ip Cm]at H
    have Cg:=ode Cm
    clear Cm
    by_cases Df:0≤Ab
    rotate_left
    ·rw[ig Df]at H
     exact absurd H (by simp)
    rw[ip Df]at H
    have Dg:=ode Df
    clear Df
    by_cases Dh:Ab<(l0.length:Int)
    rotate_left
    ·rw[ig Dh]at H
     exact absurd H (by simp)
    rw[ip Dh]at H
    have Di:=ode Dh
    clear Dh
    by_cases Dj:0≤Ac
    rotate_left
    ·rw[ig Dj]at H
     exact absurd H (by simp)
    rw[ip Dj]at H
    have Dk:=ode Dj
    clear Dj
    by_cases Dl:Ac<((rd_L1 l0 Ab).length:Int)
    rotate_left
    ·rw[ig Dl]at H
     exact absurd H (by simp)
    rw[ip Dl]at H
    have Dm:=ode Dl
    clear Dl
    obtain⟨Au,Bn⟩:∃j_:Int,(Int.tmod (wrap64 (Ac+1)) 3)=j_:=⟨_,rfl⟩
    first|rw[Bn]at H|simp only[Bn]at H
    by_cases Dn:0≤(Au)
    rotate_left
    ·rw[ig Dn]at H
     exact absurd H (by simp)
    rw[ip Dn]at H
    have Do:=ode Dn
    clear Dn
    by_cases Dp:(Au)<((rd_L1 l0 Ab).length:Int)
    rotate_left
    ·rw[ig Dp]at H
     exact absurd H (by simp)
    rw[ip Dp]at H
    have Dq:=ode Dp
    clear Dp
    have H':=Az.mk H
    clear H
    have Bt:0≤(Ab:Int):=od
    have Bu:Ab<(l0.length:Int):=od
    obtain⟨Bo,Eh,Ei,Ej,Ak,Ba,Bb⟩:=at_L1 Dw.out Ab Bt Bu
    cases Ej
    replace Ak:=kc HB Ak
    have Bv:=Az.mk Bb
    have Dy:=Az.mk Ba
    clear Bb Ba
    replace Bt:=ets Bt
    replace Bu:=ets Bu
    have Bw:0≤(Ac:Int):=od
    have Bx:Ac<((rd_L1 l0 Ab).length:Int):=od
    obtain⟨Gf,Ek,Av⟩:=Kd.at_int Bv.out Ac Bw Bx
    cases Ek
    replace Av:=kc HB Av
    replace Bw:=ets Bw
    replace Bx:=ets Bx
    have By:0≤(Ab:Int):=od
    have Bz:Ab<(l0.length:Int):=od
    obtain⟨Dr,El,Em,Eo,Al,Bc,Bd⟩:=at_L1 Dw.out Ab By Bz
    obtain rfl:Bo=Dr:=(by injection Eo)
    replace Al:=kc HB Al
    have Ca:=Az.mk Bd
    have Dz:=Az.mk Bc
    clear Bd Bc
    replace By:=ets By
    replace Bz:=ets Bz
    have ea_:=Option.some.inj (Ak.symm.trans Al)
    injection ea_ with ea_ en_ ec_
    subst ea_
    subst ec_
    clear en_
    have Cb:0≤((Au):Int):=od
    have Cc:(Au)<((rd_L1 l0 Ab).length:Int):=od
    obtain⟨Gg,Ep,Ax⟩:=Kd.at_int Ca.out (Au) Cb Cc
    cases Ep
    replace Ax:=kc HB Ax
    replace Cb:=ets Cb
    replace Cc:=ets Cc
    go_wp2
    go_loopg [12] k3 (fun kq Gp w'=>∃(Ae:List Int) (Aj:Int),Gp= .int .i64 Aj∧Az (fE.l4 kq l0 l1 Ae Ab Ac (rd (rd_L1 l0 Ab) Ac) (rd (rd_L1 l0 Ab) (Au)) Aj=some r)∧Az (kq≤k3)∧Az (Kd.R (Kd.int .i64) 3 w' w.heap.size (fun _=>True) u5 Ae)∧Az (Below w.heap.size w w'))
    case atStart=>exact⟨(Bm),(0),rq2,H',⟨Nat.le_refl _⟩,⟨kR Aa.out⟩,⟨bw_37⟩⟩
    clear H'
    try clear c1
    try clear c5
    try clear Bk
    try clear c6
    try clear Cj
    try clear c7
    try clear Ck
    try clear c8
    try clear Bs
    try clear c9
    try clear Cf
    try clear Bl
    try clear Cm
    try clear Cg
    try clear Df
    try clear Dg
    try clear Dh
    try clear Di
    try clear Dj
    try clear Dk
    try clear Dl
    try clear Dm
    try clear Dn
    try clear Do
    try clear Dp
    try clear Dq
    try clear Ad
    try clear Ak
    try clear Av
    try clear Al
    try clear Ax
    try clear Am
    try clear Bt
    try clear Bw
    try clear By
    try clear Cb
    try clear Ap
    try clear Bu
    try clear Bx
    try clear Bz
    try clear Cc
    obtain⟨Ae,Aj,rfl,HA,HK4,Aa,HB⟩:=hrel
    cases gk with
    |zero=>exact absurd HA.out (by simp[fE.l4])
    |succ k4=>
     have H:=HA.out
     clear HA
     simp only[fE.l4]at H
     replace H:=bez H
     obtain⟨Cn,Er,H⟩:=H
     try dsimp only at H
     by_cases Cw:Aj<(wrap64 (Int.tdiv Cn 2))
     rotate_left
     ·rw[ig Cw]at H
      have Ds:=decide_eq_false Cw
      clear Cw
      have H':=Az.mk H
      clear H
      go_wp2_with (first|((with_reducible refine gtC (f:=56) rfl ?_);refine clz Try.func56 (some 66) #[.slice (some Bo) l0.length c0, .slice A1 l1.length c1, .int .i64 Ab, .int .i64 Ac] ?_;(with_reducible refine(gR.calls _ _ l0 _ _ l1 Ab Ac Cn _ ?Af ?Ag ?Bp ?Bq Er.out).mono ?_);(case Af=>exact kC (Kd.C_below Dw.out HB.out));(case Ag=>exact Ge.out);(case Bp=>exact kC (Kd.C_below Ci.out HB.out));(case Bq=>exact Dx.out);rintro e w' ⟨rfl,⟨nd,rfl⟩⟩;refine⟨_,rfl,?_⟩))
      go_roundg k4
      case measure=>have:=HK1.out;have:=HK2.out;have:=HK3.out;have:=HK4.out;omega
      case rel=>exact⟨(Ae),(wrap64 (Ac+1)),rq2,H',⟨by have:=HK1.out;have:=HK2.out;have:=HK3.out;have:=HK4.out;omega⟩,⟨kR Aa.out⟩,⟨bw_37⟩⟩
     rw[ip Cw]at H
     have Ds:=ode Cw
     clear Cw
     replace H:=bez H
     obtain⟨Co,Gh,H⟩:=H
     try dsimp only at H
     obtain⟨Ay,As⟩:∃j_:Int,(wrap64 (Co - 1))=j_:=⟨_,rfl⟩
     first|rw[As]at H|simp only[As]at H
     (try rw[As]at Er)
     (try rw[As]at Gh)
     have hji24w:(IntKind.i64.wrap (Co - 1))=Ay:=(i64_w _).trans As
     by_cases Ea:0≤(Ay)
     rotate_left
     ·rw[ig Ea]at H
      exact absurd H (by simp)
     rw[ip Ea]at H
     have Gi:=ode Ea
     clear Ea
     by_cases Eb:(Ay)<(l1.length:Int)
     rotate_left
     ·rw[ig Eb]at H
      exact absurd H (by simp)
     rw[ip Eb]at H
     have Gj:=ode Eb
     clear Eb
     replace H:=bez H
     obtain⟨Cp,Gq,H⟩:=H
     try dsimp only at H
     replace H:=bez H
     obtain⟨Aq,Gr,H⟩:=H
     try dsimp only at H
     replace H:=bez H
     obtain⟨Cq,Gs,H⟩:=H
     try dsimp only at H
     replace H:=bez H
     obtain⟨Cd,Gt,H⟩:=H
     try dsimp only at H
     by_cases Ec:0≤Aq
     rotate_left
     ·rw[ig Ec]at H
      exact absurd H (by simp)
     rw[ip Ec]at H
     have Gk:=ode Ec
     clear Ec
     by_cases Ed:Aq<(Ae.length:Int)
     rotate_left
     ·rw[ig Ed]at H
      exact absurd H (by simp)
     rw[ip Ed]at H
     have Gl:=ode Ed
     clear Ed
     obtain⟨Cr,hy⟩:∃y_:List Int,y_=(Ae.set (Aq:Int).toNat Cd):=⟨_,rfl⟩
     replace H:(fE.l4 k4 l0 l1 Cr Ab Ac (rd (rd_L1 l0 Ab) Ac) (rd (rd_L1 l0 Ab) (Au)) (wrap64 (Aj+1)))=some r:=rh
     have Dt:=Az.mk hy
     clear hy
     have H':=Az.mk H
     clear H
     go_wp2_with (first|((with_reducible refine gtC (f:=56) rfl ?_);refine clz Try.func56 (some 66) #[.slice (some Bo) l0.length c0, .slice A1 l1.length c1, .int .i64 Ab, .int .i64 Ac] ?_;(with_reducible refine(gR.calls _ _ l0 _ _ l1 Ab Ac Cn _ ?Af ?Ag ?Bp ?Bq Er.out).mono ?_);(case Af=>exact kC (Kd.C_below Dw.out HB.out));(case Ag=>exact Ge.out);(case Bp=>exact kC (Kd.C_below Ci.out HB.out));(case Bq=>exact Dx.out);rintro e w' ⟨rfl,⟨nd,rfl⟩⟩;refine⟨_,rfl,?_⟩;(try(rw[drewN_self wr];generalize hq_:World.drewN wr _=wr;have n0_:Az (Kd.R (Kd.int .i64) 3 wr w.heap.size (fun _=>True) u5 Ae):=⟨by rw[←hq_];exact(kR Aa.out)⟩;have n1_:Az (Below w.heap.size w wr):=⟨by rw[←hq_];exact bw_37⟩;clear Aa HB hq_;have Aa:=n0_;have HB:=n1_;clear n0_ n1_)))|((with_reducible refine gtC (f:=43) rfl ?_);refine clz Try.func43 (some 76) #[.int .i64 (rd (rd_L1 l0 Ab) Ac)] ?_;(with_reducible refine(fZ.calls (rd (rd_L1 l0 Ab) Ac) Co _ Gh.out).mono ?_);rintro e w' ⟨rfl,⟨nd,rfl⟩⟩;refine⟨_,rfl,?_⟩;(try(rw[drewN_self wr];generalize hq_:World.drewN wr _=wr;have n0_:Az (Kd.R (Kd.int .i64) 3 wr w.heap.size (fun _=>True) u5 Ae):=⟨by rw[←hq_];exact(kR Aa.out)⟩;have n1_:Az (Below w.heap.size w wr):=⟨by rw[←hq_];exact bw_37⟩;clear Aa HB hq_;have Aa:=n0_;have HB:=n1_;clear n0_ n1_));have Cs:0≤((Ay):Int):=od;have Ct:(Ay)<(l1.length:Int):=od;obtain⟨Ch,Es,Bf⟩:=Kd.at_int Ci.out (Ay) Cs Ct;cases Es;replace Bf:=kc HB Bf;replace Cs:=ets Cs;replace Ct:=ets Ct)|((with_reducible refine gtC (f:=75) rfl ?_);refine goesL_ (some 83) rfl rfl Try.func75 (by kernel_rfl) rfl #[.slice (some Ch) l1.length c1, .int .i64 (rd (rd_L1 l0 Ab) Ac), .int .i64 (wrap64 ((wrap64 ((rd l1 (Ay)) - 1)) - Aj))] rfl (by(try simp only[List.map_toArray,List.map_cons,List.map_nil]);first|done|(simp only[As];rfl)|rfl|(simp only[List.length_drop,List.length_take];rfl)) ?_;(with_reducible refine(gX.calls k4 _ _ l1 (rd (rd_L1 l0 Ab) Ac) (wrap64 ((wrap64 ((rd l1 (Ay)) - 1)) - Aj)) Cp _ ?Af ?Ag Gq.out).mono ?_);(case Af=>exact kC (Kd.C_below Ci.out HB.out));(case Ag=>exact Dx.out);rintro e w' ⟨rfl,⟨nd,rfl⟩⟩;refine⟨_,rfl,?_⟩;(try(rw[drewN_self wr];generalize hq_:World.drewN wr _=wr;have n0_:Az (Kd.R (Kd.int .i64) 3 wr w.heap.size (fun _=>True) u5 Ae):=⟨by rw[←hq_];exact(kR Aa.out)⟩;have n1_:Az (Below w.heap.size w wr):=⟨by rw[←hq_];exact bw_37⟩;clear Aa HB hq_;have Aa:=n0_;have HB:=n1_;clear n0_ n1_));obtain⟨Br,Bi,Et⟩:=Kd.R_slice Aa.out;subst Et)|((with_reducible refine gtC (f:=68) rfl ?_);refine clz Try.func68 (some 84) #[.slice Br Ae.length Bi, .int .i64 Cp] ?_;(with_reducible refine(fX.calls k4 _ _ Ae Cp Aq _ ?Af ?Ag Gr.out).mono ?_);(case Af=>exact kC (Kd.R_reads' Aa.out).2.2);(case Ag=>exact(Kd.R_reads' Aa.out).2.1);rintro e w' ⟨rfl,⟨nd,rfl⟩⟩;refine⟨_,rfl,?_⟩;(try(rw[drewN_self wr];generalize hq_:World.drewN wr _=wr;have n0_:Az (Kd.R (Kd.int .i64) 3 wr w.heap.size (fun _=>True) (.slice Br Ae.length Bi) Ae):=⟨by rw[←hq_];exact(kR Aa.out)⟩;have n1_:Az (Below w.heap.size w wr):=⟨by rw[←hq_];exact bw_37⟩;clear Aa HB hq_;have Aa:=n0_;have HB:=n1_;clear n0_ n1_)))|((with_reducible refine gtC (f:=75) rfl ?_);refine goesL_ (some 89) rfl rfl Try.func75 (by kernel_rfl) rfl #[.slice (some Ch) l1.length c1, .int .i64 (rd (rd_L1 l0 Ab) (Au)), .int .i64 Aj] rfl (by(try simp only[List.map_toArray,List.map_cons,List.map_nil]);first|done|(simp only[Bn];rfl)|rfl|(simp only[List.length_drop,List.length_take];rfl)) ?_;(with_reducible refine(gX.calls k4 _ _ l1 (rd (rd_L1 l0 Ab) (Au)) Aj Cq _ ?Af ?Ag Gs.out).mono ?_);(case Af=>exact kC (Kd.C_below Ci.out HB.out));(case Ag=>exact Dx.out);rintro e w' ⟨rfl,⟨nd,rfl⟩⟩;refine⟨_,rfl,?_⟩;(try(rw[drewN_self wr];generalize hq_:World.drewN wr _=wr;have n0_:Az (Kd.R (Kd.int .i64) 3 wr w.heap.size (fun _=>True) (.slice Br Ae.length Bi) Ae):=⟨by rw[←hq_];exact(kR Aa.out)⟩;have n1_:Az (Below w.heap.size w wr):=⟨by rw[←hq_];exact bw_37⟩;clear Aa HB hq_;have Aa:=n0_;have HB:=n1_;clear n0_ n1_)))|((with_reducible refine gtC (f:=68) rfl ?_);refine clz Try.func68 (some 90) #[.slice Br Ae.length Bi, .int .i64 Cq] ?_;(with_reducible refine(fX.calls k4 _ _ Ae Cq Cd _ ?Af ?Ag Gt.out).mono ?_);(case Af=>exact kC (Kd.R_reads' Aa.out).2.2);(case Ag=>exact(Kd.R_reads' Aa.out).2.1);rintro e w' ⟨rfl,⟨nd,rfl⟩⟩;refine⟨_,rfl,?_⟩;(try(rw[drewN_self wr];generalize hq_:World.drewN wr _=wr;have n0_:Az (Kd.R (Kd.int .i64) 3 wr w.heap.size (fun _=>True) (.slice Br Ae.length Bi) Ae):=⟨by rw[←hq_];exact(kR Aa.out)⟩;have n1_:Az (Below w.heap.size w wr):=⟨by rw[←hq_];exact bw_37⟩;clear Aa HB hq_;have Aa:=n0_;have HB:=n1_;clear n0_ n1_));have Eu:0≤(Aq:Int):=od;have Ev:(Aq:Int)<((Ae.length:Int):Int):=od;obtain⟨Cu,Gu,Du,Dv,gl33,Gv,HG33⟩:=Kd.R_form Aa.out (by omega);(first|cases Du|(injection Du with ea_ en_ ec_;(first|subst ea_|(injection ea_ with ea_;subst ea_));subst ec_;clear en_));have Ew:=Az.mk Dv;have Gw:=Az.mk HG33;clear Dv gl33 HG33;obtain⟨Ex,Ey⟩:=Kd.R_celln 0 Aa.out (Aq:Int) Eu Ev;replace Eu:=ets Eu;replace Ev:=ets Ev;obtain⟨hy35_,hz35_⟩:=Kd.R_celln 0 Aa.out (Aq:Int) (od) (od);have Cv:=Kd.R_putg Aa.out (Aq:Int) Cd)|((with_reducible refine gate_store (t:=3) (p:=94) rfl ?_);refine store_event (t:=3) (p:=94) (v:=?vo_w36) (w1:=(wr.setCell ⟨Cu,(Aq:Int).toNat,none⟩ (.int .i64 Cd))) ?hg ?ho ?hn ?hr ?_;(case ho=>rfl);(case hg=>rfl);(case hn=>rfl);(case hr=>first|(go_simp;done)|(go_simp;rfl));intro Ez hw;have hg:wr.grownBy Ez (some Cu):=(by rw[hw];exact Cv.2);have hp_:Kd.R (Kd.int .i64) 3 Ez w.heap.size (fun _=>True) (.slice (some ⟨Cu,0,none⟩) Ae.length Bi) Cr:=(by rw[hw,Dt.out];exact Cv.1);clear Cv;replace Aa:=Az.mk (hp_);replace HB:=Az.mk ((by rw[hw];exact bwS (HB.out) Ew.out:Below w.heap.size w Ez));clear hg hw hp_))
     go_roundg k4
     case measure=>have:=HK1.out;have:=HK2.out;have:=HK3.out;have:=HK4.out;omega
     case rel=>exact⟨(Cr),(wrap64 (Aj+1)),rq2,H',⟨by have:=HK1.out;have:=HK2.out;have:=HK3.out;have:=HK4.out;omega⟩,⟨kR Aa.out⟩,⟨bw_37⟩⟩
theorem z38_1 {p:Prop} (h:p:=by repeat(first|(with_reducible first|exact HK.out|apply Kept.alloc|apply Kept.drewN|apply Kept.drew)|exact HK.out)):p:=h
theorem z38_0 {p:Prop} (h:p:=by first|exact HK.out.1|exact(show Kept w _ (fun k_=>P0_ k_)from by repeat(first|(with_reducible first|exact HK.out|apply Kept.alloc|apply Kept.drewN|apply Kept.drew)|exact HK.out)).1):p:=h
theorem bw_38 {n:Nat}{v v':World} (h:Below n v v':=by repeat(first|(with_reducible first|exact HB.out|apply bwA|apply pbN|apply bwD)|exact HB.out)):Below n v v':=h
theorem own_len {W w1:World}{A:Option Addr}{n m c:Nat} (h:W.grownBy w1 (Value.slice A n c).ownBlock):W.grownBy w1 (Value.slice A m c).ownBlock:=by
 cases A <;> exact h
theorem own_len2 {W:World}{v:Value}{A:Option Addr}{n m c:Nat} (h:v.ownBlock=(Value.slice A n c).ownBlock∨∃b,v.ownBlock=some b∧W.heap.size≤b):v.ownBlock=(Value.slice A m c).ownBlock∨∃b,v.ownBlock=some b∧W.heap.size≤b:=by
 cases A <;> exact h
def jH.l0:Nat→List Int→Int→Int→Option (List Int)
 |0,_,_,_=>none
 |k+1,x0,x1,x5=>if x5>0 then(if 0≤(wrap64 (x5 - 1)) then(if(wrap64 (x5 - 1))<(x0.length:Int) then(if(rd x0 (wrap64 (x5 - 1)))>x1 then(jH.l0 k x0 x1 (wrap64 (x5 - 1))) else((some (([]:List Int):List Int)).bind fun y731=>(if 0≤x5 then(if x5≤(x0.length:Int) then((some (x0.drop (x5:Int).toNat:List Int)).bind fun y734=>(if y731.length+y734.length<17592186044416 then((some (y731 ++ y734:List Int)).bind fun y738=>((some (x0.take (x5:Int).toNat:List Int)).bind fun y741=>(if y741.length<17592186044416 then((some (y741 ++ [x1]:List Int)).bind fun y744=>(if y744.length+y738.length<17592186044416 then(some (y744 ++ y738)) else(none))) else(none)))) else(none))) else(none)) else(none)))) else(none)) else(none)) else((some (([]:List Int):List Int)).bind fun y750=>(if 0≤x5 then(if x5≤(x0.length:Int) then((some (x0.drop (x5:Int).toNat:List Int)).bind fun y753=>(if y750.length+y753.length<17592186044416 then((some (y750 ++ y753:List Int)).bind fun y757=>((some (x0.take (x5:Int).toNat:List Int)).bind fun y760=>(if y760.length<17592186044416 then((some (y760 ++ [x1]:List Int)).bind fun y763=>(if y763.length+y757.length<17592186044416 then(some (y763 ++ y757)) else(none))) else(none)))) else(none))) else(none)) else(none)))
def jH.f (k:Nat) (l0:List Int) (a1:Int):Option (List Int):=jH.l0 k l0 a1 (l0.length:Int)
theorem jH.calls (k:Nat) (P0_:Nat→Prop) (u9000_:Value) (l0:List Int) (a1:Int) (r:List Int) (w0 w:World) (hB:Below w0.heap.size w0 w) (Eg:Kd.R (Kd.int .i64) 3 w w0.heap.size P0_ u9000_ l0) (h:jH.f k l0 a1=some r):
  Calls Try.prog 70 #[u9000_, .int .i64 a1] w fun e w'=>∃v0_:Value,e= .returned (v0_)∧Kd.R (Kd.int .i64) 3 w' w0.heap.size (fun k_=>(P0_ k_∨w.heap.size≤k_)) v0_ r∧Below w0.heap.size w0 w'∧Kept w w' (fun k_=>P0_ k_):=by
 have Dt:=Az.mk (show Kd.R (Kd.int .i64) 3 w w0.heap.size (fun k_=>(P0_ k_∨w.heap.size≤k_)) u9000_ l0 from Kd.R_mono Eg (fun k_ hk=>(.inl hk)))
 have HK:=Az.mk (Kept.refl w (fun k_=>P0_ k_))
 have HW0:=Az.mk hB.size
 have HB:=Az.mk hB
 clear hB
 have H:=h
 unfold jH.f at H
 clear h
 have H':=Az.mk H
 clear H
 obtain⟨Bt,Ap,Eh⟩:=Kd.R_slice Dt.out
 subst Eh
 go_enter Try.func70,Try.ntmps70
 go_wp2
 go_loopg [5] k (fun kq v5 w'=>∃(Aa:Int),v5= .int .i64 Aa∧Az (jH.l0 kq l0 a1 Aa=some r)∧Az (kq≤k)∧Az (Kd.R (Kd.int .i64) 3 w' w0.heap.size (fun k_=>(P0_ k_∨w.heap.size≤k_)) (.slice Bt l0.length Ap) l0)∧Az (Kept w w' (fun k_=>P0_ k_))∧Az (Below w0.heap.size w0 w'))
 case atStart=>exact⟨((l0.length:Int)),rq2,H',⟨Nat.le_refl _⟩,⟨kR Dt.out⟩,⟨by repeat(first|(with_reducible first|exact HK.out|apply Kept.alloc|apply Kept.drewN|apply Kept.drew)|exact HK.out)⟩,⟨bw_38⟩⟩
 clear H'
 obtain⟨Aa,rfl,HA,HK1,Ab,HK,HB⟩:=hrel
 cases gk with
 |zero=>exact absurd HA.out (by simp[jH.l0])
 |succ k1=>
  have H:=HA.out
  clear HA
  simp only[jH.l0]at H
  by_cases c4:Aa>0
  rotate_left
  ·rw[ig c4]at H
   have Cw:decide (0<Aa)=false:=decide_eq_false c4
   clear c4
   obtain⟨Aq,hy⟩:∃y_:List Int,y_=(([]:List Int)):=⟨_,rfl⟩
   replace H:(if 0≤Aa then(if Aa≤(l0.length:Int) then((some (l0.drop (Aa:Int).toNat:List Int)).bind fun Ak=>(if Aq.length+Ak.length<17592186044416 then((some (Aq ++ Ak:List Int)).bind fun Ae=>((some (l0.take (Aa:Int).toNat:List Int)).bind fun Af=>(if Af.length<17592186044416 then((some (Af ++ [a1]:List Int)).bind fun Ac=>(if Ac.length+Ae.length<17592186044416 then(some (Ac ++ Ae)) else(none))) else(none)))) else(none))) else(none)) else(none))=some r:=rh
   have Bu:=Az.mk hy
   clear hy
   by_cases Cf:0≤Aa
   rotate_left
   ·rw[ig Cf]at H
    exact absurd H (by simp)
   rw[ip Cf]at H
   have Du:=ets Cf
   have Dv:=ode Cf
   clear Cf
   by_cases Cg:Aa≤(l0.length:Int)
   rotate_left
   ·rw[ig Cg]at H
    exact absurd H (by simp)
   rw[ip Cg]at H
   have Dw:=ets Cg
   have Dx:=ode Cg
   clear Cg
   obtain⟨Ak,hy⟩:∃y_:List Int,y_=(l0.drop (Aa:Int).toNat):=⟨_,rfl⟩
   replace H:(if Aq.length+Ak.length<17592186044416 then((some (Aq ++ Ak:List Int)).bind fun Ae=>((some (l0.take (Aa:Int).toNat:List Int)).bind fun Af=>(if Af.length<17592186044416 then((some (Af ++ [a1]:List Int)).bind fun Ac=>(if Ac.length+Ae.length<17592186044416 then(some (Ac ++ Ae)) else(none))) else(none)))) else(none))=some r:=rh
   have Bd:=Az.mk hy
   clear hy
   by_cases Cq:Aq.length+Ak.length<17592186044416
   rotate_left
   ·rw[ig Cq]at H
    exact absurd H (by simp)
   rw[ip Cq]at H
   have LMc25:=Az.mk Cq
   clear Cq
   obtain⟨Ae,hy⟩:∃y_:List Int,y_=(Aq ++ Ak):=⟨_,rfl⟩
   replace H:((some (l0.take (Aa:Int).toNat:List Int)).bind fun Af=>(if Af.length<17592186044416 then((some (Af ++ [a1]:List Int)).bind fun Ac=>(if Ac.length+Ae.length<17592186044416 then(some (Ac ++ Ae)) else(none))) else(none)))=some r:=rh
   have Ch:=Az.mk hy
   clear hy
   have Dy:=ets (od:Aa≤(l0.length:Int))
   obtain⟨Af,hy⟩:∃y_:List Int,y_=(l0.take (Aa:Int).toNat):=⟨_,rfl⟩
   replace H:(if Af.length<17592186044416 then((some (Af ++ [a1]:List Int)).bind fun Ac=>(if Ac.length+Ae.length<17592186044416 then(some (Ac ++ Ae)) else(none))) else(none))=some r:=rh
   have Bv:=Az.mk hy
   clear hy
   by_cases Cr:Af.length<17592186044416
   rotate_left
   ·rw[ig Cr]at H
    exact absurd H (by simp)
   rw[ip Cr]at H
   have LMc27:=Az.mk Cr
   clear Cr
   obtain⟨Ac,hy⟩:∃y_:List Int,y_=(Af ++ [a1]):=⟨_,rfl⟩
   replace H:(if Ac.length+Ae.length<17592186044416 then(some (Ac ++ Ae)) else(none))=some r:=rh
   have Ci:=Az.mk hy
   clear hy
   by_cases Cs:Ac.length+Ae.length<17592186044416
   rotate_left
   ·rw[ig Cs]at H
    exact absurd H (by simp)
   rw[ip Cs]at H
   have LMc28:=Az.mk Cs
   clear Cs
   obtain⟨Cy,hy⟩:∃y_:List Int,y_=(Ac ++ Ae):=⟨_,rfl⟩
   replace H:(some Cy)=some r:=rh
   have Cj:=Az.mk hy
   clear hy
   obtain rfl:=Option.some.inj H
   go_wp2_with (first|((with_reducible refine gtD (N:=22) rfl ?_);refine Kd.R_lit (Kd.int .i64) _ 3 ?hg (N:=22) ?hd (xs:=([]:List Int)) (inner:=[]) (ok:=fun _=>True) (okp:=fun _=>True) ?hr ?hp (fun _ hk=>hk) trivial (Below.refl _ _) (Nat.le_refl _) (by simp) ?_;(case hd=>rfl);(case hg=>rfl);(case hr=>first|(go_simp;done)|(go_simp;rfl));(case hp=>exact(Reps.none _ _));intro Cz Ey Ba hb hg_ hnew_;clear hg_ hnew_;(first|rw[←Bu.out]at Ba|(simp only[Int.reduceToNat]at Ba;rw[←Bu.out]at Ba));have Bf:=Az.mk (Kd.R_lower (Kd.R_new' (Kd.R_newM (M:=fun k_=>(P0_ k_∨w.heap.size≤k_)) Ba z38_0 (fun k_ h_=> .inr h_)) (Kd.R_lt (kR Ab.out))) (bwZ bw_38));replace Ab:=Az.mk (Kd.R_elder' (kR Ab.out) (Kd.R_base Ba) hb);replace HK:=Az.mk (Kept.below (S:=(fun k_=>P0_ k_)) z38_1 hb);replace HB:=Az.mk (bwT bw_38 hb);clear hb Ba;have Da:(Aa:Int)≤((l0.length:Int):Int):=od;obtain⟨Ei,Bw,_,hsz31,_⟩:=info_parts info3;have hroom31:l0.length≤Ap:=(Kd.R_reads' Ab.out).2.1;have hC31:Kd.C (Kd.int .i64) _ Bt l0.length l0:=(Kd.R_reads' Ab.out).2.2;have Db:(0:Int)≤(Aa:Int):=od;have hcut31:=cut_from (P:=Try.prog) 25 3 .i64 Try.underlying25 Bw 1 hsz31 Bt l0.length Ap Aa Db Da;have Bh:=Kd.C_drop (m:=(Aa:Int).toNat) (c:=Ap) hC31 (by omega) hroom31;obtain⟨Dz,hA31⟩:∃A1,A1=(if Ap=(Aa:Int).toNat then Bt else(Bt:Option Addr).map (·.add ((Aa:Int).toNat*1))):=⟨_,rfl⟩;obtain⟨Ej,Cc⟩:∃c1,c1=Ap - (Aa:Int).toNat:=⟨_,rfl⟩;have hy31:Ak.length=l0.length - (Aa:Int).toNat:=(by rw[Bd.out,List.length_drop] <;> omega);rw[show(l0).drop (Aa:Int).toNat=Ak from Bd.out.symm]at Bh;replace Bh:Kd.C (Kd.int .i64) _ Dz Ak.length Ak:=(by rw[hA31];exact Bh);rw[←hy31, ←hA31, ←Cc]at hcut31;have Ax:=Az.mk Bh;have Ea:=Az.mk (show Ak.length≤Ej from by rw[hy31,Cc];exact Nat.sub_le_sub_right hroom31 _);clear Bh hC31 hroom31 Bw hsz31 Cc;have KY31:=Az.mk hy31;have KA31:=Az.mk hA31;clear hy31 hA31;have KL31:=Az.mk (show(Aa:Int).toNat≤l0.length from by omega);replace Da:=ets Da)|((with_reducible refine gate_builtin (b:= .append) (xs:= #[.tmp 22, .tmp 25]) rfl ?_);at_builtin;refine Kd.R_append_rows (Kd.int .i64) (w0:=w0) w0.heap.size rfl (.tmp 22) (.tmp 25) 25 3 (.int .i64 0) 8 rfl Try.underlying25 info3 rfl (by decide) (by omega) Cz Aq Ak _ _ _ (fun k_=>(P0_ k_∨w.heap.size≤k_)∧some k_≠(.slice Bt l0.length Ap:Value).ownBlock) (fun _=>False) rfl rfl ?aO ?aR (fun _ _ h=>h) (fun _ h=>h.elim) ?aF ?aB ?aS ?aL ?_;(case aR=>repeat(first|exact(by repeat(first|(with_reducible exact Ax.out)|(with_reducible refine Kd.C_alloc ?_ _)|(with_reducible refine Kd.C_drewN ?_ _)|(with_reducible refine Kd.C_drew ?_)|exact Ax.out))|(with_reducible refine Kd.C_alloc ?_ _)|(with_reducible refine Kd.C_drewN ?_ _)|(with_reducible refine Kd.C_drew ?_)));(case aB=>exact bw_38);(case aF=>exact(fun k_ hk=>⟨(.inr (Nat.le_trans z38_0 hk)),Kd.fresh' (Kd.R_lt (kR Ab.out)) k_ hk⟩));(case aO=>exact(by(with_reducible repeat(first|apply Kd.R_alloc|apply Kd.R_drewN|apply Kd.R_drew));exact Kd.R_mono Bf.out (fun _ hk=>⟨hk.1.1,hk.2⟩)));(case aS=>exact(bwZ bw_38));(case aL=>have:=LMc25.out;omega);intro Dc Ek ho hb hg hat;rw[←Ch.out]at ho;have n0_:=Az.mk (Kd.R_after (ok:=(fun k_=>(P0_ k_∨w.heap.size≤k_))) (kR Ab.out) hg hat);have n1_:=Az.mk (hb);have n2_:=Az.mk (Kept.of_grown (S:=(fun k_=>P0_ k_)) hg z38_1 (fun k_ e_=>(Bf.out.1 k_ e_).1.1));have n3_:=Az.mk ((show Kd.C (Kd.int .i64) Ek Dz Ak.length Ak from by rw[Bd.out,KA31.out];exact Kd.C_drop (m:=(Aa:Int).toNat) (c:=Ap) ((Kd.R_reads' (Kd.R_after (ok:=(fun k_=>(P0_ k_∨w.heap.size≤k_))) (kR Ab.out) hg hat)).2.2) KL31.out ((Kd.R_reads' (Kd.R_after (ok:=(fun k_=>(P0_ k_∨w.heap.size≤k_))) (kR Ab.out) hg hat)).2.1)));have n4_:=Az.mk (ho);clear Ab;clear HB;clear HK;clear Ax;clear Bf;have Ab:=n0_;have HB:=n1_;have HK:=n2_;have Ax:=n3_;have Ai:=n4_;clear n0_ n1_ n2_ n3_ n4_;clear ho hb hg hat;have Dd:(Aa:Int)≤((l0.length:Int):Int):=od;obtain⟨El,Bx,_,hsz33,_⟩:=info_parts info3;have hcut33:=cut_to (P:=Try.prog) 25 3 .i64 Try.underlying25 Bx Bt l0.length Ap Aa (od) Dd (Kd.R_reads' Ab.out).2.1;have Bq:=Kd.R_take (m:=(Aa:Int).toNat) Ab.out (by omega);have hy33:Af.length=(Aa:Int).toNat:=(by rw[Bv.out,List.length_take];omega);rw[←Bv.out]at Bq;rw[←hy33]at Bq hcut33;clear hy33 Bx hsz33 Ab;have Bi:=Az.mk Bq;clear Bq;replace Dd:=ets Dd)|((with_reducible refine gate_builtin (b:= .append) (xs:= #[.tmp 29, .tmp 31]) rfl ?_);at_builtin;refine Kd.R_append (Kd.int .i64) (w0:=w0) w0.heap.size rfl (.tmp 29) (.tmp 31) 25 3 (.int .i64 0) 8 rfl Try.underlying25 info3 rfl (by decide) (by omega) (.slice Bt Af.length Ap) Af a1 [.int .i64 a1] (fun k_=>(P0_ k_∨w.heap.size≤k_)∧some k_≠(Dc:Value).ownBlock) (fun _=>False) rfl rfl ?aP (fun _ hk=>hk.elim) ?aF ?aO ?aB ?aS ?aL ?_;(case aP=>exact rfl);(case aB=>exact bw_38);(case aF=>exact(fun k_ hk=>⟨(.inr (Nat.le_trans z38_0 hk)),Kd.fresh' (Kd.R_lt (kR Ai.out)) k_ hk⟩));(case aO=>exact(kR Bi.out));(case aS=>exact(bwZ bw_38));(case aL=>have:=LMc27.out;omega);intro De Ez ho hb hg hat;rw[←Ci.out]at ho;have n0_:=Az.mk (Kd.R_after (ok:=(fun k_=>(P0_ k_∨w.heap.size≤k_))) (kR Ai.out) (own_len hg) (own_len2 hat));have n1_:=Az.mk (hb);have n2_:=Az.mk (Kept.of_grown (S:=(fun k_=>P0_ k_)) hg z38_1 (fun k_ e_=>(Bi.out.1 k_ e_).1));have n3_:=Az.mk (ho);clear Ai;clear HB;clear HK;clear Bi;have Ai:=n0_;have HB:=n1_;have HK:=n2_;have Bj:=n3_;clear n0_ n1_ n2_ n3_;clear ho hb hg hat;obtain⟨Df,Dg,Dh⟩:=Kd.R_slice Ai.out;subst Dh)|((with_reducible refine gate_builtin (b:= .append) (xs:= #[.tmp 32, .tmp 33]) rfl ?_);at_builtin;refine Kd.R_append_rows (Kd.int .i64) (w0:=w0) w0.heap.size rfl (.tmp 32) (.tmp 33) 25 3 (.int .i64 0) 8 rfl Try.underlying25 info3 rfl (by decide) (by omega) De Ac Ae _ _ _ (fun k_=>(P0_ k_∨w.heap.size≤k_)∧some k_≠(.slice Df Ae.length Dg:Value).ownBlock) (fun _=>False) rfl rfl ?aO ?aR (fun _ _ h=>h) (fun _ h=>h.elim) ?aF ?aB ?aS ?aL ?_;(case aR=>exact kC (Kd.R_reads' Ai.out).2.2);(case aB=>exact bw_38);(case aF=>exact(fun k_ hk=>⟨(.inr (Nat.le_trans z38_0 hk)),Kd.fresh' (Kd.R_lt (kR Ai.out)) k_ hk⟩));(case aO=>exact(kR Bj.out));(case aS=>exact(bwZ bw_38));(case aL=>have:=LMc28.out;omega);intro Em Ga ho hb hg hat;rw[←Cj.out]at ho;have n0_:=Az.mk (Kd.R_after (ok:=(fun k_=>(P0_ k_∨w.heap.size≤k_))) (kR Ai.out) hg hat);have n1_:=Az.mk (hb);have n2_:=Az.mk (Kept.of_grown (S:=(fun k_=>P0_ k_)) hg z38_1 (fun k_ e_=>(Bj.out.1 k_ e_).1));have n3_:=Az.mk (ho);clear Ai;clear HB;clear HK;clear Bj;have Ai:=n0_;have HB:=n1_;have HK:=n2_;have Ck:=n3_;clear n0_ n1_ n2_ n3_;clear ho hb hg hat))
   go_ret
   exact⟨_,rq1,by(with_reducible repeat(first|apply Kd.R_alloc|apply Kd.R_drewN|apply Kd.R_drew));exact Kd.R_mono Ck.out (fun _ hk=>hk.1),kB HB.out,by repeat(first|(with_reducible first|exact HK.out|apply Kept.alloc|apply Kept.drewN|apply Kept.drew)|exact HK.out)⟩
  rw[ip c4]at H
  have Cw:decide (0<Aa)=true:=ode c4
  clear c4
  obtain⟨Bb,Bk⟩:∃j_:Int,(wrap64 (Aa - 1))=j_:=⟨_,rfl⟩
  first|rw[Bk]at H|simp only[Bk]at H
  have hji5w:(IntKind.i64.wrap (Aa - 1))=Bb:=(i64_w _).trans Bk
  by_cases c6:0≤(Bb)
  rotate_left
  ·rw[ig c6]at H
   exact absurd H (by simp)
  rw[ip c6]at H
  have Eo:=ode c6
  clear c6
  by_cases c7:(Bb)<(l0.length:Int)
  rotate_left
  ·rw[ig c7]at H
   exact absurd H (by simp)
  rw[ip c7]at H
  have Ep:=ode c7
  clear c7
  by_cases c8:(rd l0 (Bb))>a1
  ·rw[ip c8]at H
   have Di:decide (a1<(rd l0 (Bb)))=true:=ode c8
   clear c8
   have H':=Az.mk H
   clear H
   have As:0≤((Bb):Int):=od
   have Au:(Bb)<(l0.length:Int):=od
   obtain⟨Am,Cd,Br⟩:=Kd.at_int (Kd.R_reads' Ab.out).2.2 (Bb) As Au
   cases Cd
   replace As:=ets As
   replace Au:=ets Au
   go_wp2
   go_roundg k1
   case measure=>have:=HK1.out;omega
   case rel=>exact⟨(Bb),(by first|rfl|(simp;done)|(simp only[←Bk] <;> (first|rfl|simp))|(simp[*];done)),H',⟨by have:=HK1.out;omega⟩,⟨kR Ab.out⟩,⟨by repeat(first|(with_reducible first|exact HK.out|apply Kept.alloc|apply Kept.drewN|apply Kept.drew)|exact HK.out)⟩,⟨bw_38⟩⟩
  rw[ig c8]at H
  have Di:decide (a1<(rd l0 (Bb)))=false:=decide_eq_false c8
  clear c8
  obtain⟨Av,hy⟩:∃y_:List Int,y_=(([]:List Int)):=⟨_,rfl⟩
  replace H:(if 0≤Aa then(if Aa≤(l0.length:Int) then((some (l0.drop (Aa:Int).toNat:List Int)).bind fun Al=>(if Av.length+Al.length<17592186044416 then((some (Av ++ Al:List Int)).bind fun Ag=>((some (l0.take (Aa:Int).toNat:List Int)).bind fun Ah=>(if Ah.length<17592186044416 then((some (Ah ++ [a1]:List Int)).bind fun Ad=>(if Ad.length+Ag.length<17592186044416 then(some (Ad ++ Ag)) else(none))) else(none)))) else(none))) else(none)) else(none))=some r:=rh
  have By:=Az.mk hy
  clear hy
  by_cases c9:0≤Aa
  rotate_left
  ·rw[ig c9]at H
   exact absurd H (by simp)
  rw[ip c9]at H
  have Er:=ets c9
  have Es:=ode c9
  clear c9
  by_cases Cl:Aa≤(l0.length:Int)
  rotate_left
  ·rw[ig Cl]at H
   exact absurd H (by simp)
  rw[ip Cl]at H
  have Eb:=ets Cl
  have Ec:=ode Cl
  clear Cl
  obtain⟨Al,hy⟩:∃y_:List Int,y_=(l0.drop (Aa:Int).toNat):=⟨_,rfl⟩
  replace H:(if Av.length+Al.length<17592186044416 then((some (Av ++ Al:List Int)).bind fun Ag=>((some (l0.take (Aa:Int).toNat:List Int)).bind fun Ah=>(if Ah.length<17592186044416 then((some (Ah ++ [a1]:List Int)).bind fun Ad=>(if Ad.length+Ag.length<17592186044416 then(some (Ad ++ Ag)) else(none))) else(none)))) else(none))=some r:=rh
  have Bl:=Az.mk hy
  clear hy
  by_cases Ct:Av.length+Al.length<17592186044416
  rotate_left
  ·rw[ig Ct]at H
   exact absurd H (by simp)
  rw[ip Ct]at H
  have LMc11:=Az.mk Ct
  clear Ct
  obtain⟨Ag,hy⟩:∃y_:List Int,y_=(Av ++ Al):=⟨_,rfl⟩
  replace H:((some (l0.take (Aa:Int).toNat:List Int)).bind fun Ah=>(if Ah.length<17592186044416 then((some (Ah ++ [a1]:List Int)).bind fun Ad=>(if Ad.length+Ag.length<17592186044416 then(some (Ad ++ Ag)) else(none))) else(none)))=some r:=rh
  have Cm:=Az.mk hy
  clear hy
  have Ed:=ets (od:Aa≤(l0.length:Int))
  obtain⟨Ah,hy⟩:∃y_:List Int,y_=(l0.take (Aa:Int).toNat):=⟨_,rfl⟩
  replace H:(if Ah.length<17592186044416 then((some (Ah ++ [a1]:List Int)).bind fun Ad=>(if Ad.length+Ag.length<17592186044416 then(some (Ad ++ Ag)) else(none))) else(none))=some r:=rh
  have Bz:=Az.mk hy
  clear hy
  by_cases Cu:Ah.length<17592186044416
  rotate_left
  ·rw[ig Cu]at H
   exact absurd H (by simp)
  rw[ip Cu]at H
  have LMc13:=Az.mk Cu
  clear Cu
  obtain⟨Ad,hy⟩:∃y_:List Int,y_=(Ah ++ [a1]):=⟨_,rfl⟩
  replace H:(if Ad.length+Ag.length<17592186044416 then(some (Ad ++ Ag)) else(none))=some r:=rh
  have Cn:=Az.mk hy
  clear hy
  by_cases Cv:Ad.length+Ag.length<17592186044416
  rotate_left
  ·rw[ig Cv]at H
   exact absurd H (by simp)
  rw[ip Cv]at H
  have LMc14:=Az.mk Cv
  clear Cv
  obtain⟨Dj,hy⟩:∃y_:List Int,y_=(Ad ++ Ag):=⟨_,rfl⟩
  replace H:(some Dj)=some r:=rh
  have Co:=Az.mk hy
  clear hy
  obtain rfl:=Option.some.inj H
  have As:0≤((Bb):Int):=od
  have Au:(Bb)<(l0.length:Int):=od
  obtain⟨Am,Cd,Br⟩:=Kd.at_int (Kd.R_reads' Ab.out).2.2 (Bb) As Au
  cases Cd
  replace As:=ets As
  replace Au:=ets Au
  go_wp2_with (first|((with_reducible refine gtD (N:=22) rfl ?_);refine Kd.R_lit (Kd.int .i64) _ 3 ?hg (N:=22) ?hd (xs:=([]:List Int)) (inner:=[]) (ok:=fun _=>True) (okp:=fun _=>True) ?hr ?hp (fun _ hk=>hk) trivial (Below.refl _ _) (Nat.le_refl _) (by simp) ?_;(case hd=>rfl);(case hg=>rfl);(case hr=>first|(go_simp;done)|(go_simp;rfl));(case hp=>exact(Reps.none _ _));intro Dk Gb Bc hb hg_ hnew_;clear hg_ hnew_;(first|rw[←By.out]at Bc|(simp only[Int.reduceToNat]at Bc;rw[←By.out]at Bc));have Bm:=Az.mk (Kd.R_lower (Kd.R_new' (Kd.R_newM (M:=fun k_=>(P0_ k_∨w.heap.size≤k_)) Bc z38_0 (fun k_ h_=> .inr h_)) (Kd.R_lt (kR Ab.out))) (bwZ bw_38));replace Ab:=Az.mk (Kd.R_elder' (kR Ab.out) (Kd.R_base Bc) hb);replace HK:=Az.mk (Kept.below (S:=(fun k_=>P0_ k_)) z38_1 hb);replace HB:=Az.mk (bwT bw_38 hb);clear hb Bc;have Dl:(Aa:Int)≤((l0.length:Int):Int):=od;obtain⟨Et,Ca,_,hsz17,_⟩:=info_parts info3;have hroom17:l0.length≤Ap:=(Kd.R_reads' Ab.out).2.1;have hC17:Kd.C (Kd.int .i64) _ (some Am) l0.length l0:=(Kd.R_reads' Ab.out).2.2;have Dm:(0:Int)≤(Aa:Int):=od;have hcut17:=cut_from (P:=Try.prog) 25 3 .i64 Try.underlying25 Ca 1 hsz17 (some Am) l0.length Ap Aa Dm Dl;have Bn:=Kd.C_drop (m:=(Aa:Int).toNat) (c:=Ap) hC17 (by omega) hroom17;obtain⟨Ee,hA17⟩:∃A1,A1=(if Ap=(Aa:Int).toNat then(some Am) else((some Am):Option Addr).map (·.add ((Aa:Int).toNat*1))):=⟨_,rfl⟩;obtain⟨Eu,Ce⟩:∃c1,c1=Ap - (Aa:Int).toNat:=⟨_,rfl⟩;have hy17:Al.length=l0.length - (Aa:Int).toNat:=(by rw[Bl.out,List.length_drop] <;> omega);rw[show(l0).drop (Aa:Int).toNat=Al from Bl.out.symm]at Bn;replace Bn:Kd.C (Kd.int .i64) _ Ee Al.length Al:=(by rw[hA17];exact Bn);rw[←hy17, ←hA17, ←Ce]at hcut17;have Ay:=Az.mk Bn;have Ef:=Az.mk (show Al.length≤Eu from by rw[hy17,Ce];exact Nat.sub_le_sub_right hroom17 _);clear Bn hC17 hroom17 Ca hsz17 Ce;have KY17:=Az.mk hy17;have KA17:=Az.mk hA17;clear hy17 hA17;have KL17:=Az.mk (show(Aa:Int).toNat≤l0.length from by omega);replace Dl:=ets Dl)|((with_reducible refine gate_builtin (b:= .append) (xs:= #[.tmp 22, .tmp 25]) rfl ?_);at_builtin;refine Kd.R_append_rows (Kd.int .i64) (w0:=w0) w0.heap.size rfl (.tmp 22) (.tmp 25) 25 3 (.int .i64 0) 8 rfl Try.underlying25 info3 rfl (by decide) (by omega) Dk Av Al _ _ _ (fun k_=>(P0_ k_∨w.heap.size≤k_)∧some k_≠(.slice (some Am) l0.length Ap:Value).ownBlock) (fun _=>False) rfl rfl ?aO ?aR (fun _ _ h=>h) (fun _ h=>h.elim) ?aF ?aB ?aS ?aL ?_;(case aR=>repeat(first|exact(by repeat(first|(with_reducible exact Ay.out)|(with_reducible refine Kd.C_alloc ?_ _)|(with_reducible refine Kd.C_drewN ?_ _)|(with_reducible refine Kd.C_drew ?_)|exact Ay.out))|(with_reducible refine Kd.C_alloc ?_ _)|(with_reducible refine Kd.C_drewN ?_ _)|(with_reducible refine Kd.C_drew ?_)));(case aB=>exact bw_38);(case aF=>exact(fun k_ hk=>⟨(.inr (Nat.le_trans z38_0 hk)),Kd.fresh' (Kd.R_lt (kR Ab.out)) k_ hk⟩));(case aO=>exact(by(with_reducible repeat(first|apply Kd.R_alloc|apply Kd.R_drewN|apply Kd.R_drew));exact Kd.R_mono Bm.out (fun _ hk=>⟨hk.1.1,hk.2⟩)));(case aS=>exact(bwZ bw_38));(case aL=>have:=LMc11.out;omega);intro Dn Ev ho hb hg hat;rw[←Cm.out]at ho;have n0_:=Az.mk (Kd.R_after (ok:=(fun k_=>(P0_ k_∨w.heap.size≤k_))) (kR Ab.out) hg hat);have n1_:=Az.mk (hb);have n2_:=Az.mk (Kept.of_grown (S:=(fun k_=>P0_ k_)) hg z38_1 (fun k_ e_=>(Bm.out.1 k_ e_).1.1));have n3_:=Az.mk ((show Kd.C (Kd.int .i64) Ev Ee Al.length Al from by rw[Bl.out,KA17.out];exact Kd.C_drop (m:=(Aa:Int).toNat) (c:=Ap) ((Kd.R_reads' (Kd.R_after (ok:=(fun k_=>(P0_ k_∨w.heap.size≤k_))) (kR Ab.out) hg hat)).2.2) KL17.out ((Kd.R_reads' (Kd.R_after (ok:=(fun k_=>(P0_ k_∨w.heap.size≤k_))) (kR Ab.out) hg hat)).2.1)));have n4_:=Az.mk (ho);clear Ab;clear HB;clear HK;clear Ay;clear Bm;have Ab:=n0_;have HB:=n1_;have HK:=n2_;have Ay:=n3_;have Aj:=n4_;clear n0_ n1_ n2_ n3_ n4_;clear ho hb hg hat;have Do:(Aa:Int)≤((l0.length:Int):Int):=od;obtain⟨Ew,Cb,_,hsz19,_⟩:=info_parts info3;have hcut19:=cut_to (P:=Try.prog) 25 3 .i64 Try.underlying25 Cb (some Am) l0.length Ap Aa (od) Do (Kd.R_reads' Ab.out).2.1;have Bs:=Kd.R_take (m:=(Aa:Int).toNat) Ab.out (by omega);have hy19:Ah.length=(Aa:Int).toNat:=(by rw[Bz.out,List.length_take];omega);rw[←Bz.out]at Bs;rw[←hy19]at Bs hcut19;clear hy19 Cb hsz19 Ab;have Bo:=Az.mk Bs;clear Bs;replace Do:=ets Do)|((with_reducible refine gate_builtin (b:= .append) (xs:= #[.tmp 29, .tmp 31]) rfl ?_);at_builtin;refine Kd.R_append (Kd.int .i64) (w0:=w0) w0.heap.size rfl (.tmp 29) (.tmp 31) 25 3 (.int .i64 0) 8 rfl Try.underlying25 info3 rfl (by decide) (by omega) (.slice (some Am) Ah.length Ap) Ah a1 [.int .i64 a1] (fun k_=>(P0_ k_∨w.heap.size≤k_)∧some k_≠(Dn:Value).ownBlock) (fun _=>False) rfl rfl ?aP (fun _ hk=>hk.elim) ?aF ?aO ?aB ?aS ?aL ?_;(case aP=>exact rfl);(case aB=>exact bw_38);(case aF=>exact(fun k_ hk=>⟨(.inr (Nat.le_trans z38_0 hk)),Kd.fresh' (Kd.R_lt (kR Aj.out)) k_ hk⟩));(case aO=>exact(kR Bo.out));(case aS=>exact(bwZ bw_38));(case aL=>have:=LMc13.out;omega);intro Dp Gc ho hb hg hat;rw[←Cn.out]at ho;have n0_:=Az.mk (Kd.R_after (ok:=(fun k_=>(P0_ k_∨w.heap.size≤k_))) (kR Aj.out) hg hat);have n1_:=Az.mk (hb);have n2_:=Az.mk (Kept.of_grown (S:=(fun k_=>P0_ k_)) hg z38_1 (fun k_ e_=>(Bo.out.1 k_ e_).1));have n3_:=Az.mk (ho);clear Aj;clear HB;clear HK;clear Bo;have Aj:=n0_;have HB:=n1_;have HK:=n2_;have Bp:=n3_;clear n0_ n1_ n2_ n3_;clear ho hb hg hat;obtain⟨Dq,Dr,Ds⟩:=Kd.R_slice Aj.out;subst Ds)|((with_reducible refine gate_builtin (b:= .append) (xs:= #[.tmp 32, .tmp 33]) rfl ?_);at_builtin;refine Kd.R_append_rows (Kd.int .i64) (w0:=w0) w0.heap.size rfl (.tmp 32) (.tmp 33) 25 3 (.int .i64 0) 8 rfl Try.underlying25 info3 rfl (by decide) (by omega) Dp Ad Ag _ _ _ (fun k_=>(P0_ k_∨w.heap.size≤k_)∧some k_≠(.slice Dq Ag.length Dr:Value).ownBlock) (fun _=>False) rfl rfl ?aO ?aR (fun _ _ h=>h) (fun _ h=>h.elim) ?aF ?aB ?aS ?aL ?_;(case aR=>exact kC (Kd.R_reads' Aj.out).2.2);(case aB=>exact bw_38);(case aF=>exact(fun k_ hk=>⟨(.inr (Nat.le_trans z38_0 hk)),Kd.fresh' (Kd.R_lt (kR Aj.out)) k_ hk⟩));(case aO=>exact(kR Bp.out));(case aS=>exact(bwZ bw_38));(case aL=>have:=LMc14.out;omega);intro Ex Gd ho hb hg hat;rw[←Co.out]at ho;have n0_:=Az.mk (Kd.R_after (ok:=(fun k_=>(P0_ k_∨w.heap.size≤k_))) (kR Aj.out) hg hat);have n1_:=Az.mk (hb);have n2_:=Az.mk (Kept.of_grown (S:=(fun k_=>P0_ k_)) hg z38_1 (fun k_ e_=>(Bp.out.1 k_ e_).1));have n3_:=Az.mk (ho);clear Aj;clear HB;clear HK;clear Bp;have Aj:=n0_;have HB:=n1_;have HK:=n2_;have Cp:=n3_;clear n0_ n1_ n2_ n3_;clear ho hb hg hat))
  go_ret
  exact⟨_,by first|rfl|(simp[eWn,eWs] <;> rfl)|(simp only[←Bk];first|rfl|(simp[eWn,eWs] <;> rfl))|(simp[*,eWn,eWs] <;> rfl),by(with_reducible repeat(first|apply Kd.R_alloc|apply Kd.R_drewN|apply Kd.R_drew));exact Kd.R_mono Cp.out (fun _ hk=>hk.1),kB HB.out,by repeat(first|(with_reducible first|exact HK.out|apply Kept.alloc|apply Kept.drewN|apply Kept.drew)|exact HK.out)⟩
theorem bw_39 {n:Nat}{v v':World} (h:Below n v v':=by repeat(first|(with_reducible first|exact HB.out|apply bwA|apply pbN|apply bwD)|exact HB.out)):Below n v v':=h
theorem ln_39 {P:Prop} (h:P:=by(try simp only[List.map_toArray,List.map_cons,List.map_nil]);first|done|rfl|(simp only[List.length_drop,List.length_take];rfl)):P:=h
mutual
def fT.l0:Nat→List Int→List Int→List Int→Int→Option (List Int)
 |0,_,_,_,_=>none
 |k+1,x5,x6,x7,x8=>if x8<(x6.length:Int) then((fX.f k x6 x8).bind fun t779=>((fX.f k x6 x8).bind fun t780=>(if 0≤t780 then(if t780<(x7.length:Int) then(if 0≤t779 then(if t779<(x7.length:Int) then(fT.l0 k x5 x6 (x7.set (t779:Int).toNat (wrap64 ((rd x7 t780)+1))) (wrap64 (x8+1))) else(none)) else(none)) else(none)) else(none)))) else(fT.l1 k x5 x7 0)
def fT.l1:Nat→List Int→List Int→Int→Option (List Int)
 |0,_,_,_=>none
 |k+1,x5,x7,x9=>if x9<(x7.length:Int) then(if 0≤x9 then(if(rd x7 x9)>0 then((jH.f k x5 (rd x7 x9)).bind fun t785=>(fT.l1 k t785 x7 (wrap64 (x9+1)))) else(fT.l1 k x5 x7 (wrap64 (x9+1)))) else(none)) else(some x5)
end
def fT.f (k:Nat) (l0:List (List Int)) (l1:List Int):Option (List Int):=(some (([]:List Int):List Int)).bind fun y769=>((fI.f k l0 l1).bind fun t772=>(if t772=true then((fE.f k l0 l1).bind fun t773=>(if 0≤(t773.length:Int) then(if((t773.length:Int):Int).toNat≤35184372088832 then(fT.l0 k y769 t773 (List.replicate ((t773.length:Int):Int).toNat 0) 0) else(none)) else(none))) else(some y769)))
theorem fT.calls (k:Nat) (A0:Option Addr) (c0:Nat) (l0:List (List Int)) (A1:Option Addr) (c1:Nat) (l1:List Int) (r:List Int) (w:World) (Dw:Kd.C (Kd.slice 3 (Kd.int .i64)) w A0 l0.length l0) (Dx:l0.length≤c0) (Dy:Kd.C (Kd.int .i64) w A1 l1.length l1) (Dz:l1.length≤c1) (h:fT.f k l0 l1=some r):
  Calls Try.prog 57 #[.slice A0 l0.length c0, .slice A1 l1.length c1] w fun e w'=>∃v0_:Value,e= .returned (v0_)∧Kd.R (Kd.int .i64) 3 w' w.heap.size (fun _=>True) v0_ r∧Below w.heap.size w w':=by
 have Df:=Az.mk Dw
 have Dg:=Az.mk Dx
 clear Dw Dx
 have Dh:=Az.mk Dy
 have Di:=Az.mk Dz
 clear Dy Dz
 have HB:=Az.mk (Below.refl w.heap.size w)
 have H:=h
 unfold fT.f at H
 clear h
 obtain⟨Aq,hy⟩:∃y_:List Int,y_=(([]:List Int)):=⟨_,rfl⟩
 replace H:((fI.f k l0 l1).bind fun Bq=>(if Bq=true then((fE.f k l0 l1).bind fun Aa=>(if 0≤(Aa.length:Int) then(if((Aa.length:Int):Int).toNat≤35184372088832 then(fT.l0 k Aq Aa (List.replicate ((Aa.length:Int):Int).toNat 0) 0) else(none)) else(none))) else(some Aq)))=some r:=rh
 have Bf:=Az.mk hy
 clear hy
 replace H:=bez H
 obtain⟨Bq,A3,H⟩:=H
 try dsimp only at H
 by_cases c4:Bq=true
 rotate_left
 ·replace c4:=Bool.eq_false_iff.mpr c4
  subst c4
  rw[ig ff]at H
  obtain rfl:=Option.some.inj H
  go_enter Try.func57,Try.ntmps57
  go_wp2_with (first|((with_reducible refine gtD (N:=10) rfl ?_);refine Kd.R_lit (Kd.int .i64) _ 3 ?hg (N:=10) ?hd (xs:=([]:List Int)) (inner:=[]) (ok:=fun _=>True) (okp:=fun _=>True) ?hr ?hp (fun _ hk=>hk) trivial (Below.refl _ _) (Nat.le_refl _) (by simp) ?_;(case hd=>rfl);(case hg=>rfl);(case hr=>first|(go_simp;done)|(go_simp;rfl));(case hp=>exact(Reps.none _ _));intro Ak Er Bi hb hg_ hnew_;clear hg_ hnew_;(first|rw[←Bf.out]at Bi|(simp only[Int.reduceToNat]at Bi;rw[←Bf.out]at Bi));have Ae:=Az.mk (Kd.R_lower Bi (bwZ bw_39));replace HB:=Az.mk (bwT bw_39 hb);clear hb Bi)|((with_reducible refine gtC (f:=29) rfl ?_);refine clz Try.func29 (some 13) #[.slice A0 l0.length c0, .slice A1 l1.length c1] ?_;(with_reducible refine(fI.calls k _ _ l0 _ _ l1 false _ ?Af ?Ag ?Au ?Av A3.out).mono ?_);(case Af=>exact kC (Kd.C_below Df.out HB.out));(case Ag=>exact Dg.out);(case Au=>exact kC (Kd.C_below Dh.out HB.out));(case Av=>exact Di.out);rintro e Es ⟨rfl,hb⟩;refine⟨_,rfl,?_⟩;replace Ae:=Az.mk (Kd.R_below (kR Ae.out) hb);replace HB:=Az.mk (bwT bw_39 hb);(try clear hb)))
  go_ret
  exact⟨_,rq1,kR Ae.out,bw_39⟩
 subst c4
 rw[ip rfl]at H
 replace H:=bez H
 obtain⟨Aa,A5,H⟩:=H
 try dsimp only at H
 by_cases c6:0≤(Aa.length:Int)
 rotate_left
 ·rw[ig c6]at H
  exact absurd H (by simp)
 rw[ip c6]at H
 have Cd:=ets c6
 have Ce:=ode c6
 clear c6
 by_cases c7:((Aa.length:Int):Int).toNat≤35184372088832
 rotate_left
 ·rw[ig c7]at H
  exact absurd H (by simp)
 rw[ip c7]at H
 have Cf:=ets c7
 have Cg:=ode c7
 clear c7
 obtain⟨Ch,hy⟩:∃y_:List Int,y_=(List.replicate ((Aa.length:Int):Int).toNat 0):=⟨_,rfl⟩
 replace H:(fT.l0 k Aq Aa Ch 0)=some r:=rh
 have Bo:=Az.mk hy
 clear hy
 have H':=Az.mk H
 clear H
 go_enter Try.func57,Try.ntmps57
 go_wp2_with (first|((with_reducible refine gtD (N:=10) rfl ?_);refine Kd.R_lit (Kd.int .i64) _ 3 ?hg (N:=10) ?hd (xs:=([]:List Int)) (inner:=[]) (ok:=fun _=>True) (okp:=fun _=>True) ?hr ?hp (fun _ hk=>hk) trivial (Below.refl _ _) (Nat.le_refl _) (by simp) ?_;(case hd=>rfl);(case hg=>rfl);(case hr=>first|(go_simp;done)|(go_simp;rfl));(case hp=>exact(Reps.none _ _));intro Ak w8 Ci hb hg_ hnew_;clear hg_ hnew_;(first|rw[←Bf.out]at Ci|(simp only[Int.reduceToNat]at Ci;rw[←Bf.out]at Ci));have Ae:=Az.mk (Kd.R_lower Ci (bwZ bw_39));replace HB:=Az.mk (bwT bw_39 hb);clear hb Ci)|((with_reducible refine gtC (f:=29) rfl ?_);refine clz Try.func29 (some 13) #[.slice A0 l0.length c0, .slice A1 l1.length c1] ?_;(with_reducible refine(fI.calls k _ _ l0 _ _ l1 true _ ?Af ?Ag ?Au ?Av A3.out).mono ?_);(case Af=>exact kC (Kd.C_below Df.out HB.out));(case Ag=>exact Dg.out);(case Au=>exact kC (Kd.C_below Dh.out HB.out));(case Av=>exact Di.out);rintro e Et ⟨rfl,hb⟩;refine⟨_,rfl,?_⟩;replace Ae:=Az.mk (Kd.R_below (kR Ae.out) hb);replace HB:=Az.mk (bwT bw_39 hb);(try clear hb))|((with_reducible refine gtC (f:=69) rfl ?_);refine clz Try.func69 (some 18) #[.slice A0 l0.length c0, .slice A1 l1.length c1] ?_;(with_reducible refine(fE.calls k _ _ l0 _ _ l1 Aa _ ?Af ?Ag ?Au ?Av A5.out).mono ?_);(case Af=>exact kC (Kd.C_below Df.out HB.out));(case Ag=>exact Dg.out);(case Au=>exact kC (Kd.C_below Dh.out HB.out));(case Av=>exact Di.out);rintro e Eu ⟨Ec,rfl,Br,hb⟩;refine⟨_,rfl,?_⟩;have Ax:=Az.mk (Kd.R_lower (Kd.R_new' Br (Kd.R_lt (kR Ae.out))) (bwZ bw_39));replace Ae:=Az.mk (Kd.R_elder' (kR Ae.out) (Kd.R_base Br) hb);replace HB:=Az.mk (bwT bw_39 hb);(try clear hb);(try clear Br);obtain⟨Ai,Aj,Dj⟩:=Kd.R_slice Ax.out;subst Dj)|((with_reducible refine gtD (N:=21) rfl ?_);refine Kd.R_make (Kd.int .i64) _ 3 rfl (N:=21) rfl 25 _ _ rfl (Aa.length:Int) rfl rfl Try.underlying25 (.int .i64 0) 8 info3 rfl (by decide) (by omega) 0 (ok:=fun _=>True) (okp:=fun _=>True) rfl (fun _ hk=>hk) trivial (od) (Nat.le_trans (Nat.mul_le_mul_right _ (od:(Aa.length:Int).toNat≤35184372088832)) (by omega)) (Below.refl _ _) (Nat.le_refl _) ?_;intro Al Ev Ba hb hg_ hnew_;clear hg_ hnew_;(first|rw[←Bo.out]at Ba|(simp only[Int.reduceToNat]at Ba;rw[←Bo.out]at Ba));have Cj:=Az.mk (Kd.R_lower (Kd.R_new' (Kd.R_new' Ba (Kd.R_lt (kR Ae.out))) (Kd.R_lt (kR Ax.out))) (bwZ bw_39));replace Ae:=Az.mk (Kd.R_elder' (kR Ae.out) (Kd.R_base Ba) hb);replace Ax:=Az.mk (Kd.R_elder' (kR Ax.out) (Kd.R_base Ba) hb);replace HB:=Az.mk (bwT bw_39 hb);clear hb Ba))
 go_loopg [8] k (fun kq v8 w'=>∃(Ab:List Int) (Am:Int),v8= .int .i64 Am∧Az (fT.l0 kq Aq Aa Ab Am=some r)∧Az (kq≤k)∧Az (Kd.R (Kd.int .i64) 3 w' w.heap.size (fun k_=>some k_≠((.slice Ai Aa.length Aj):Value).ownBlock∧some k_≠(Al:Value).ownBlock) Ak Aq)∧Az (Kd.R (Kd.int .i64) 3 w' w.heap.size (fun k_=>some k_≠(Ak:Value).ownBlock∧some k_≠(Al:Value).ownBlock) (.slice Ai Aa.length Aj) Aa)∧Az (Kd.R (Kd.int .i64) 3 w' w.heap.size (fun k_=>some k_≠(Ak:Value).ownBlock∧some k_≠((.slice Ai Aa.length Aj):Value).ownBlock) Al Ab)∧Az (Below w.heap.size w w'))
 case atStart=>exact⟨(Ch),(0),rq2,H',⟨Nat.le_refl _⟩,⟨by(with_reducible repeat(first|apply Kd.R_alloc|apply Kd.R_drewN|apply Kd.R_drew));exact Kd.R_mono Ae.out (fun _ hk=>⟨hk.1.2,hk.2⟩)⟩,⟨by(with_reducible repeat(first|apply Kd.R_alloc|apply Kd.R_drewN|apply Kd.R_drew));exact Kd.R_mono Ax.out (fun _ hk=>⟨hk.1.2,hk.2⟩)⟩,⟨by(with_reducible repeat(first|apply Kd.R_alloc|apply Kd.R_drewN|apply Kd.R_drew));exact Kd.R_mono Cj.out (fun _ hk=>⟨hk.1.2,hk.2⟩)⟩,⟨bw_39⟩⟩
 clear H'
 try clear c1
 try clear c4
 try clear c6
 try clear Cd
 try clear Ce
 try clear c7
 try clear Cf
 try clear Cg
 obtain⟨Ab,Am,rfl,HA,HK1,Ah,HO_6,Ac,HB⟩:=hrel
 cases gk with
 |zero=>exact absurd HA.out (by simp[fT.l0])
 |succ k1=>
  have H:=HA.out
  clear HA
  simp only[fT.l0]at H
  by_cases Bs:Am<(Aa.length:Int)
  ·rw[ip Bs]at H
   have Bp:=ode Bs
   clear Bs
   replace H:=bez H
   obtain⟨Ap,Ed,H⟩:=H
   try dsimp only at H
   replace H:=bez H
   obtain⟨As,Ee,H⟩:=H
   try dsimp only at H
   by_cases Ck:0≤As
   rotate_left
   ·rw[ig Ck]at H
    exact absurd H (by simp)
   rw[ip Ck]at H
   have Cl:=ode Ck
   clear Ck
   by_cases Cm:As<(Ab.length:Int)
   rotate_left
   ·rw[ig Cm]at H
    exact absurd H (by simp)
   rw[ip Cm]at H
   have Cn:=ode Cm
   clear Cm
   by_cases Co:0≤Ap
   rotate_left
   ·rw[ig Co]at H
    exact absurd H (by simp)
   rw[ip Co]at H
   have Cp:=ode Co
   clear Co
   by_cases Cq:Ap<(Ab.length:Int)
   rotate_left
   ·rw[ig Cq]at H
    exact absurd H (by simp)
   rw[ip Cq]at H
   have Cr:=ode Cq
   clear Cq
   obtain⟨Bt,hy⟩:∃y_:List Int,y_=(Ab.set (Ap:Int).toNat (wrap64 ((rd Ab As)+1))):=⟨_,rfl⟩
   replace H:(fT.l0 k1 Aq Aa Bt (wrap64 (Am+1)))=some r:=rh
   have Cs:=Az.mk hy
   clear hy
   have H':=Az.mk H
   clear H
   go_wp2_with (first|((with_reducible refine gtC (f:=68) rfl ?_);refine clz Try.func68 (some 31) #[.slice Ai Aa.length Aj, .int .i64 Am] ?_;(with_reducible refine(fX.calls k1 _ _ Aa Am Ap _ ?Af ?Ag Ed.out).mono ?_);(case Af=>exact kC (Kd.R_reads' HO_6.out).2.2);(case Ag=>exact(Kd.R_reads' HO_6.out).2.1);rintro e w' ⟨rfl,⟨nd,rfl⟩⟩;refine⟨_,rfl,?_⟩;(try(rw[drewN_self wr];generalize hq_:World.drewN wr _=wr;have n0_:Az (Kd.R (Kd.int .i64) 3 wr w.heap.size (fun k_=>some k_≠(.slice Ai Aa.length Aj:Value).ownBlock∧some k_≠(Al:Value).ownBlock) Ak Aq):=⟨by rw[←hq_];exact(kR Ah.out)⟩;have n1_:Az (Kd.R (Kd.int .i64) 3 wr w.heap.size (fun k_=>some k_≠(Ak:Value).ownBlock∧some k_≠(Al:Value).ownBlock) (.slice Ai Aa.length Aj) Aa):=⟨by rw[←hq_];exact(kR HO_6.out)⟩;have n2_:Az (Kd.R (Kd.int .i64) 3 wr w.heap.size (fun k_=>some k_≠(Ak:Value).ownBlock∧some k_≠(.slice Ai Aa.length Aj:Value).ownBlock) Al Ab):=⟨by rw[←hq_];exact(kR Ac.out)⟩;have n3_:Az (Below w.heap.size w wr):=⟨by rw[←hq_];exact bw_39⟩;clear Ah HO_6 Ac HB hq_;have Ah:=n0_;have HO_6:=n1_;have Ac:=n2_;have HB:=n3_;clear n0_ n1_ n2_ n3_)))|((with_reducible refine gtC (f:=68) rfl ?_);refine clz Try.func68 (some 35) #[.slice Ai Aa.length Aj, .int .i64 Am] ?_;(with_reducible refine(fX.calls k1 _ _ Aa Am As _ ?Af ?Ag Ee.out).mono ?_);(case Af=>exact kC (Kd.R_reads' HO_6.out).2.2);(case Ag=>exact(Kd.R_reads' HO_6.out).2.1);rintro e w' ⟨rfl,⟨nd,rfl⟩⟩;refine⟨_,rfl,?_⟩;(try(rw[drewN_self wr];generalize hq_:World.drewN wr _=wr;have n0_:Az (Kd.R (Kd.int .i64) 3 wr w.heap.size (fun k_=>some k_≠(.slice Ai Aa.length Aj:Value).ownBlock∧some k_≠(Al:Value).ownBlock) Ak Aq):=⟨by rw[←hq_];exact(kR Ah.out)⟩;have n1_:Az (Kd.R (Kd.int .i64) 3 wr w.heap.size (fun k_=>some k_≠(Ak:Value).ownBlock∧some k_≠(Al:Value).ownBlock) (.slice Ai Aa.length Aj) Aa):=⟨by rw[←hq_];exact(kR HO_6.out)⟩;have n2_:Az (Kd.R (Kd.int .i64) 3 wr w.heap.size (fun k_=>some k_≠(Ak:Value).ownBlock∧some k_≠(.slice Ai Aa.length Aj:Value).ownBlock) Al Ab):=⟨by rw[←hq_];exact(kR Ac.out)⟩;have n3_:Az (Below w.heap.size w wr):=⟨by rw[←hq_];exact bw_39⟩;clear Ah HO_6 Ac HB hq_;have Ah:=n0_;have HO_6:=n1_;have Ac:=n2_;have HB:=n3_;clear n0_ n1_ n2_ n3_));obtain⟨Ef,Bj,Dk⟩:=Kd.R_slice Ac.out;subst Dk;have Bl:0≤(As:Int):=od;have Bm:As<(Ab.length:Int):=od;obtain⟨Ea,Dl,Bh⟩:=Kd.at_int (Kd.R_reads' Ac.out).2.2 As Bl Bm;cases Dl;replace Bl:=ets Bl;replace Bm:=ets Bm;have Ct:0≤(Ap:Int):=od;have Cu:(Ap:Int)<((Ab.length:Int):Int):=od;obtain⟨Bb,Eg,Cv,Cw,gl22,Eh,HG22⟩:=Kd.R_form Ac.out (by omega);(first|cases Cv|(injection Cv with ea_ en_ ec_;(first|subst ea_|(injection ea_ with ea_;subst ea_));subst ec_;clear en_));have Dm:=Az.mk Cw;have Ei:=Az.mk HG22;clear Cw gl22 HG22;(first|simp only[add_plain]at Bh|skip);obtain⟨Bu,Dn⟩:=Kd.R_celln 0 Ac.out (Ap:Int) Ct Cu;replace Ct:=ets Ct;replace Cu:=ets Cu;obtain⟨hy24_,hz24_⟩:=Kd.R_celln 0 Ac.out (Ap:Int) (od) (od);have Bv:=Kd.R_putg Ac.out (Ap:Int) (wrap64 ((rd Ab As)+1)))|((with_reducible refine gate_store (t:=3) (p:=39) rfl ?_);refine store_event (t:=3) (p:=39) (v:=?vo_w25) (w1:=(wr.setCell ⟨Bb,(Ap:Int).toNat,none⟩ (.int .i64 (wrap64 ((rd Ab As)+1))))) ?hg ?ho ?hn ?hr ?_;(case ho=>rfl);(case hg=>rfl);(case hn=>rfl);(case hr=>first|(go_simp;done)|(go_simp;rfl));intro Do hw;have hg:wr.grownBy Do (some Bb):=(by rw[hw];exact Bv.2);have hp_:Kd.R (Kd.int .i64) 3 Do w.heap.size (fun k_=>some k_≠(Ak:Value).ownBlock∧some k_≠(.slice Ai Aa.length Aj:Value).ownBlock) (.slice (some ⟨Bb,0,none⟩) Ab.length Bj) Bt:=(by rw[hw,Cs.out];exact Bv.1);clear Bv;replace Ah:=Az.mk (Kd.R_after (v:=(.slice (some ⟨Bb,0,none⟩) Ab.length Bj)) (v1:=(.slice (some ⟨Bb,0,none⟩) Ab.length Bj)) (ok:=(fun k_=>some k_≠(.slice Ai Aa.length Aj:Value).ownBlock)) (kR Ah.out) hg (.inl rfl));replace HO_6:=Az.mk (Kd.R_after (v:=(.slice (some ⟨Bb,0,none⟩) Ab.length Bj)) (v1:=(.slice (some ⟨Bb,0,none⟩) Ab.length Bj)) (ok:=(fun k_=>some k_≠(Ak:Value).ownBlock)) (kR HO_6.out) hg (.inl rfl));replace Ac:=Az.mk (hp_);replace HB:=Az.mk ((by rw[hw];exact bwS (HB.out) Dm.out:Below w.heap.size w Do));clear hg hw hp_))
   go_roundg k1
   case measure=>have:=HK1.out;omega
   case rel=>exact⟨(Bt),(wrap64 (Am+1)),rq2,H',⟨by have:=HK1.out;omega⟩,⟨kR Ah.out⟩,⟨kR HO_6.out⟩,⟨kR Ac.out⟩,⟨bw_39⟩⟩
  rw[ig Bs]at H
  have Bp:=decide_eq_false Bs
  clear Bs
  have H':=Az.mk H
  clear H
  go_wp2
  go_loopg [5,9] k1 (fun kq v5 v9 w'=>∃(Ay:List Int) (Ad:Int),v9= .int .i64 Ad∧Az (fT.l1 kq Ay Ab Ad=some r)∧Az (kq≤k1)∧Az (Kd.R (Kd.int .i64) 3 w' w.heap.size (fun k_=>some k_≠(Al:Value).ownBlock) v5 Ay)∧Az (Kd.R (Kd.int .i64) 3 w' w.heap.size (fun k_=>some k_≠(v5:Value).ownBlock) Al Ab)∧Az (Below w.heap.size w w'))
  case atStart=>exact⟨(Aq),(0),rq2,H',⟨Nat.le_refl _⟩,⟨by(with_reducible repeat(first|apply Kd.R_alloc|apply Kd.R_drewN|apply Kd.R_drew));exact Kd.R_mono Ah.out (fun _ hk=>hk.2)⟩,⟨by(with_reducible repeat(first|apply Kd.R_alloc|apply Kd.R_drewN|apply Kd.R_drew));exact Kd.R_mono Ac.out (fun _ hk=>hk.1)⟩,⟨bw_39⟩⟩
  clear H'
  try clear c1
  try clear c4
  try clear c6
  try clear Cd
  try clear Ce
  try clear c7
  try clear Cf
  try clear Cg
  try clear Bs
  try clear Bp
  try clear Ck
  try clear Cl
  try clear Cm
  try clear Cn
  try clear Co
  try clear Cp
  try clear Cq
  try clear Cr
  try clear Ct
  try clear Cu
  try clear Bu
  try clear Bh
  try clear Ct
  try clear Bl
  try clear Cu
  try clear Bm
  obtain⟨Ay,Ad,rfl,HA,HK2,Ah,Ac,HB⟩:=hrel
  cases gk with
  |zero=>exact absurd HA.out (by simp[fT.l1])
  |succ k2=>
   have H:=HA.out
   clear HA
   simp only[fT.l1]at H
   by_cases Cb:Ad<(Ab.length:Int)
   rotate_left
   ·rw[ig Cb]at H
    have Cy:=decide_eq_false Cb
    clear Cb
    obtain rfl:=Option.some.inj H
    obtain⟨Ej,Ek,Dp⟩:=Kd.R_slice Ac.out
    subst Dp
    go_wp2
    go_ret
    exact⟨_,rq1,by(with_reducible repeat(first|apply Kd.R_alloc|apply Kd.R_drewN|apply Kd.R_drew));exact Kd.R_mono Ah.out (fun _ hk=>trivial),bw_39⟩
   rw[ip Cb]at H
   have Cy:=ode Cb
   clear Cb
   by_cases Dd:0≤Ad
   rotate_left
   ·rw[ig Dd]at H
    exact absurd H (by simp)
   rw[ip Dd]at H
   have Eb:=ode Dd
   clear Dd
   by_cases Cc:(rd Ab Ad)>0
   rotate_left
   ·rw[ig Cc]at H
    have Cz:decide (0<(rd Ab Ad))=false:=decide_eq_false Cc
    clear Cc
    have H':=Az.mk H
    clear H
    obtain⟨El,Em,Dq⟩:=Kd.R_slice Ac.out
    subst Dq
    have Bc:0≤(Ad:Int):=od
    have Bd:Ad<(Ab.length:Int):=od
    obtain⟨Bk,Bw,Bn⟩:=Kd.at_int (Kd.R_reads' Ac.out).2.2 Ad Bc Bd
    cases Bw
    replace Bc:=ets Bc
    replace Bd:=ets Bd
    go_wp2
    go_roundg k2
    case measure=>have:=HK1.out;have:=HK2.out;omega
    case rel=>exact⟨(Ay),(wrap64 (Ad+1)),rq2,H',⟨by have:=HK1.out;have:=HK2.out;omega⟩,⟨kR Ah.out⟩,⟨kR Ac.out⟩,⟨bw_39⟩⟩
   rw[ip Cc]at H
   have Cz:decide (0<(rd Ab Ad))=true:=ode Cc
   clear Cc
   replace H:=bez H
   obtain⟨Da,Eo,H⟩:=H
   try dsimp only at H
   have H':=Az.mk H
   clear H
   obtain⟨Ep,Dr,Ds⟩:=Kd.R_slice Ac.out
   subst Ds
   have Bc:0≤(Ad:Int):=od
   have Bd:Ad<(Ab.length:Int):=od
   obtain⟨Bk,Bw,Bn⟩:=Kd.at_int (Kd.R_reads' Ac.out).2.2 Ad Bc Bd
   cases Bw
   replace Bc:=ets Bc
   replace Bd:=ets Bd
   have Bx:0≤(Ad:Int):=od
   have By:Ad<(Ab.length:Int):=od
   obtain⟨Db,Dt,De⟩:=Kd.at_int (Kd.R_reads' Ac.out).2.2 Ad Bx By
   obtain rfl:Bk=Db:=(by injection Dt)
   replace Bx:=ets Bx
   replace By:=ets By
   obtain⟨Bz,Ca,Du⟩:=Kd.R_slice Ah.out
   subst Du
   go_wp2_with (first|((with_reducible refine gtC (f:=70) rfl ?_);refine clz Try.func70 (some 56) #[.slice Bz Ay.length Ca, .int .i64 (rd Ab Ad)] ?_;(with_reducible refine(jH.calls k2 (fun k_=>some k_=(.slice Bz Ay.length Ca:Value).ownBlock) (.slice Bz Ay.length Ca) Ay (rd Ab Ad) Da w _ ?Af ?Ag Eo.out).mono ?_);(case Af=>exact bw_39);(case Ag=>exact Kd.R_tight rfl Ah.out);rintro e Ew ⟨Dv,rfl,Br,hb,hkp⟩;refine⟨_,rfl,?_⟩;have n0_:=Az.mk (Kd.R_mono (ok':=fun k_=>some k_≠(Dv:Value).ownBlock) (Kd.R_keptB (Ac.out) hkp (fun k_ hk_ hs_=>(hk_) hs_)) (fun k_ hk_=>fun e_=>Or.elim (Br.1 k_ e_.symm) (fun hs_=>hk_.2.1 hs_) (fun hn_=>Nat.not_le.2 hk_.2.2 hn_)));have n1_:=Az.mk (Kd.R_mono (ok':=fun k_=>some k_≠(.slice (some Bk) Ab.length Dr:Value).ownBlock) Br (fun k_ hk_=>Or.elim hk_ (fun hs_=>fun e_=>(((Ac.out).1 k_ e_.symm)) hs_) (fun hn_=>(Kd.fresh' (Kd.R_lt (kR Ac.out)) k_ hn_))));have n2_:=Az.mk (hb);clear Ac;clear HB;clear Ah;have Ac:=n0_;have Dc:=n1_;have HB:=n2_;clear n0_ n1_ n2_;(try clear hb);(try clear hkp);(try clear Br)))
   go_roundg k2
   case measure=>have:=HK1.out;have:=HK2.out;omega
   case rel=>exact⟨(Da),(wrap64 (Ad+1)),rq2,H',⟨by have:=HK1.out;have:=HK2.out;omega⟩,⟨kR Dc.out⟩,⟨kR Ac.out⟩,⟨bw_39⟩⟩
def gI.f (k:Nat) (l0:List (List Int)) (l1:List Int):Option (Int):=(fI.f k l0 l1).bind fun t788=>(if t788=true then((fT.f k l0 l1).bind fun t789=>(some (t789.length:Int))) else(some (-1)))
theorem gI.calls (k:Nat) (A0:Option Addr) (c0:Nat) (l0:List (List Int)) (A1:Option Addr) (c1:Nat) (l1:List Int) (r:Int) (w:World) (Al:Kd.C (Kd.slice 3 (Kd.int .i64)) w A0 l0.length l0) (Am:l0.length≤c0) (Ap:Kd.C (Kd.int .i64) w A1 l1.length l1) (Aq:l1.length≤c1) (h:gI.f k l0 l1=some r):
  Calls Try.prog 30 #[.slice A0 l0.length c0, .slice A1 l1.length c1] w fun e w'=>e= .returned (.int .i64 r)∧Below w.heap.size w w':=by
 have Af:=Az.mk Al
 have Ag:=Az.mk Am
 clear Al Am
 have Ah:=Az.mk Ap
 have Ai:=Az.mk Aq
 clear Ap Aq
 have HB:=Az.mk (Below.refl w.heap.size w)
 have H:=h
 unfold gI.f at H
 clear h
 replace H:=bez H
 obtain⟨Aj,A3,H⟩:=H
 try dsimp only at H
 by_cases c4:Aj=true
 rotate_left
 ·replace c4:=Bool.eq_false_iff.mpr c4
  subst c4
  rw[ig ff]at H
  obtain rfl:=Option.some.inj H
  go_enter Try.func30,Try.ntmps30
  go_wp2_with (first|((with_reducible refine gtC (f:=29) rfl ?_);refine clz Try.func29 (some 7) #[.slice A0 l0.length c0, .slice A1 l1.length c1] ?_;(with_reducible refine(fI.calls k _ _ l0 _ _ l1 false _ ?Aa ?Ab ?Ac ?Ad A3.out).mono ?_);(case Aa=>exact kC Af.out);(case Ab=>exact Ag.out);(case Ac=>exact kC Ah.out);(case Ad=>exact Ai.out);rintro e w9 ⟨rfl,hb⟩;refine⟨_,rfl,?_⟩;replace HB:=Az.mk (bwT bw_39 hb);(try clear hb)))
  go_ret
  exact⟨rq1,bw_39⟩
 subst c4
 rw[ip rfl]at H
 replace H:=bez H
 obtain⟨Ak,A5,H⟩:=H
 try dsimp only at H
 obtain rfl:=Option.some.inj H
 go_enter Try.func30,Try.ntmps30
 go_wp2_with (first|((with_reducible refine gtC (f:=29) rfl ?_);refine clz Try.func29 (some 7) #[.slice A0 l0.length c0, .slice A1 l1.length c1] ?_;(with_reducible refine(fI.calls k _ _ l0 _ _ l1 true _ ?Aa ?Ab ?Ac ?Ad A3.out).mono ?_);(case Aa=>exact kC Af.out);(case Ab=>exact Ag.out);(case Ac=>exact kC Ah.out);(case Ad=>exact Ai.out);rintro e w6 ⟨rfl,hb⟩;refine⟨_,rfl,?_⟩;replace HB:=Az.mk (bwT bw_39 hb);(try clear hb))|((with_reducible refine gtC (f:=57) rfl ?_);refine clz Try.func57 (some 11) #[.slice A0 l0.length c0, .slice A1 l1.length c1] ?_;(with_reducible refine(fT.calls k _ _ l0 _ _ l1 Ak _ ?Aa ?Ab ?Ac ?Ad A5.out).mono ?_);(case Aa=>exact kC (Kd.C_below Af.out HB.out));(case Ab=>exact Ag.out);(case Ac=>exact kC (Kd.C_below Ah.out HB.out));(case Ad=>exact Ai.out);rintro e w7 ⟨Au,rfl,As,hb⟩;refine⟨_,rfl,?_⟩;have Ae:=Az.mk (Kd.R_lower As (bwZ bw_39));replace HB:=Az.mk (bwT bw_39 hb);(try clear hb);(try clear As);obtain⟨Ax,Ay,Av⟩:=Kd.R_slice Ae.out;subst Av))
 go_ret
 exact⟨rq1,bw_39⟩
theorem bw_40 {n:Nat}{v v':World} (h:Below n v v':=by repeat(first|(with_reducible first|exact HB.out|apply bwA|apply pbN|apply bwD)|exact HB.out)):Below n v v':=h
theorem ln_40 {P:Prop} (h:P:=by(try simp only[List.map_toArray,List.map_cons,List.map_nil]);first|done|rfl|(simp only[List.length_drop,List.length_take];rfl)):P:=h
mutual
def fK.l0:Nat→List (List Int)→List Int→List Int→Int→Option (Int × Int)
 |0,_,_,_,_=>none
 |k+1,x0,x1,x6,x7=>if x7<(x0.length:Int) then(fK.l1 k x0 x1 x6 x7 0) else(some ((-1),(-1)))
def fK.l1:Nat→List (List Int)→List Int→List Int→Int→Int→Option (Int × Int)
 |0,_,_,_,_,_=>none
 |k+1,x0,x1,x6,x7,x8=>if x8<3 then(if 0≤x7 then(if x7<(x0.length:Int) then(if 0≤x8 then(if x8<((rd_L1 x0 x7).length:Int) then((fZ.f (rd (rd_L1 x0 x7) x8)).bind fun t797=>((gJ.f (decide ((rd (rd_L1 x0 x7) x8)>0))).bind fun t798=>((fX.f k x6 (wrap64 ((wrap64 (2*t797))+t798))).bind fun t799=>(fK.l2 k x0 x1 x6 x7 x8 t799 true 0)))) else(none)) else(none)) else(none)) else(none)) else(fK.l0 k x0 x1 x6 (wrap64 (x7+1)))
def fK.l2:Nat→List (List Int)→List Int→List Int→Int→Int→Int→Bool→Int→Option (Int × Int)
 |0,_,_,_,_,_,_,_,_=>none
 |k+1,x0,x1,x6,x7,x8,x10,x11,x12=>if x12<(x0.length:Int) then(fK.l3 k x0 x1 x6 x7 x8 x10 x11 x12 0) else(if x11=true then(some (x7,x8)) else(fK.l1 k x0 x1 x6 x7 (wrap64 (x8+1))))
def fK.l3:Nat→List (List Int)→List Int→List Int→Int→Int→Int→Bool→Int→Int→Option (Int × Int)
 |0,_,_,_,_,_,_,_,_,_=>none
 |k+1,x0,x1,x6,x7,x8,x10,x11,x12,x13=>if x13<3 then(if 0≤x12 then(if x12<(x0.length:Int) then(if 0≤x13 then(if x13<((rd_L1 x0 x12).length:Int) then((fZ.f (rd (rd_L1 x0 x12) x13)).bind fun t802=>((gJ.f (decide ((rd (rd_L1 x0 x12) x13)>0))).bind fun t803=>((fX.f k x6 (wrap64 ((wrap64 (2*t802))+t803))).bind fun t804=>(if t804=x10 then((gR.f x0 x1 x12 x13).bind fun t805=>(if t805<2 then(fK.l3 k x0 x1 x6 x7 x8 x10 false x12 (wrap64 (x13+1))) else(fK.l3 k x0 x1 x6 x7 x8 x10 x11 x12 (wrap64 (x13+1))))) else(fK.l3 k x0 x1 x6 x7 x8 x10 x11 x12 (wrap64 (x13+1))))))) else(none)) else(none)) else(none)) else(none)) else(fK.l2 k x0 x1 x6 x7 x8 x10 x11 (wrap64 (x12+1)))
end
def fK.f (k:Nat) (l0:List (List Int)) (l1:List Int):Option (Int × Int):=(fR.f k l0).bind fun t792=>(fK.l0 k l0 l1 t792 0)
theorem fK.calls (k:Nat) (A0:Option Addr) (c0:Nat) (l0:List (List Int)) (A1:Option Addr) (c1:Nat) (l1:List Int) (r1:Int) (r2:Int) (w:World) (Dm:Kd.C (Kd.slice 3 (Kd.int .i64)) w A0 l0.length l0) (Dn:l0.length≤c0) (Do:Kd.C (Kd.int .i64) w A1 l1.length l1) (Dp:l1.length≤c1) (h:fK.f k l0 l1=some (r1,r2)):
  Calls Try.prog 58 #[.slice A0 l0.length c0, .slice A1 l1.length c1] w fun e w'=>e= .returned (.tuple #[.int .i64 r1, .int .i64 r2])∧Below w.heap.size w w':=by
 have Cc:=Az.mk Dm
 have Dc:=Az.mk Dn
 clear Dm Dn
 have Dq:=Az.mk Do
 have Dr:=Az.mk Dp
 clear Do Dp
 have HB:=Az.mk (Below.refl w.heap.size w)
 have H:=h
 unfold fK.f at H
 clear h
 replace H:=bez H
 obtain⟨Ai,A3,H⟩:=H
 try dsimp only at H
 have H':=Az.mk H
 clear H
 go_enter Try.func58,Try.ntmps58
 go_wp2_with (first|((with_reducible refine gtC (f:=54) rfl ?_);refine clz Try.func54 (some 16) #[.slice A0 l0.length c0] ?_;(with_reducible refine(fR.calls k _ _ l0 Ai _ ?Ag ?Ah A3.out).mono ?_);(case Ag=>exact kC Cc.out);(case Ah=>exact Dc.out);rintro e w4 ⟨Cm,rfl,Ds,hb⟩;refine⟨_,rfl,?_⟩;have Cn:=Az.mk (Kd.R_lower Ds (bwZ bw_40));replace HB:=Az.mk (bwT bw_40 hb);(try clear hb);(try clear Ds)))
 go_loopg [7] k (fun kq v7 w'=>∃(Aj:Int),v7= .int .i64 Aj∧Az (fK.l0 kq l0 l1 Ai Aj=some (r1,r2))∧Az (kq≤k)∧Az (Kd.R (Kd.int .i64) 3 w' w.heap.size (fun _=>True) Cm Ai)∧Az (Below w.heap.size w w'))
 case atStart=>exact⟨(0),rq2,H',⟨Nat.le_refl _⟩,⟨kR Cn.out⟩,⟨bw_40⟩⟩
 clear H'
 try clear c1
 obtain⟨Aj,rfl,HA,HK1,HO_6,HB⟩:=hrel
 cases gk with
 |zero=>exact absurd HA.out (by simp[fK.l0])
 |succ k1=>
  have H:=HA.out
  clear HA
  simp only[fK.l0]at H
  by_cases c5:Aj<(l0.length:Int)
  rotate_left
  ·rw[ig c5]at H
   have Bv:=decide_eq_false c5
   clear c5
   simp only[Option.some.injEq,Prod.mk.injEq]at H
   obtain⟨rfl,rfl⟩:=H
   go_wp2
   go_ret2
   exact⟨rq1,bw_40⟩
  rw[ip c5]at H
  have Bv:=ode c5
  clear c5
  have H':=Az.mk H
  clear H
  go_wp2
  go_loopg [8] k1 (fun kq v8 w'=>∃(Ak:Int),v8= .int .i64 Ak∧Az (fK.l1 kq l0 l1 Ai Aj Ak=some (r1,r2))∧Az (kq≤k1)∧Az (Kd.R (Kd.int .i64) 3 w' w.heap.size (fun _=>True) Cm Ai)∧Az (Below w.heap.size w w'))
  case atStart=>exact⟨(0),rq2,H',⟨Nat.le_refl _⟩,⟨kR HO_6.out⟩,⟨bw_40⟩⟩
  clear H'
  try clear c1
  try clear c5
  try clear Bv
  obtain⟨Ak,rfl,HA,HK2,HO_6,HB⟩:=hrel
  cases gk with
  |zero=>exact absurd HA.out (by simp[fK.l1])
  |succ k2=>
   have H:=HA.out
   clear HA
   simp only[fK.l1]at H
   by_cases c6:Ak<3
   rotate_left
   ·rw[ig c6]at H
    have Cd:=decide_eq_false c6
    clear c6
    have H':=Az.mk H
    clear H
    go_wp2
    go_roundg k2
    case measure=>have:=HK1.out;have:=HK2.out;omega
    case rel=>exact⟨(wrap64 (Aj+1)),rq2,H',⟨by have:=HK1.out;have:=HK2.out;omega⟩,⟨kR HO_6.out⟩,⟨bw_40⟩⟩
   rw[ip c6]at H
   have Cd:=ode c6
   clear c6
   by_cases c7:0≤Aj
   rotate_left
   ·rw[ig c7]at H
    exact absurd H (by simp)
   rw[ip c7]at H
   have Co:=ode c7
   clear c7
   by_cases c8:Aj<(l0.length:Int)
   rotate_left
   ·rw[ig c8]at H
    exact absurd H (by simp)
   rw[ip c8]at H
   have Cp:=ode c8
   clear c8
   by_cases c9:0≤Ak
   rotate_left
   ·rw[ig c9]at H
    exact absurd H (by simp)
   rw[ip c9]at H
   have Cq:=ode c9
   clear c9
   by_cases Cj:Ak<((rd_L1 l0 Aj).length:Int)
   rotate_left
   ·rw[ig Cj]at H
    exact absurd H (by simp)
   rw[ip Cj]at H
   have Bz:=ode Cj
   clear Cj
   replace H:=bez H
   obtain⟨Ce,Dz,H⟩:=H
   try dsimp only at H
   replace H:=bez H
   obtain⟨Cf,Ea,H⟩:=H
   try dsimp only at H
   replace H:=bez H
   obtain⟨Bw,Eb,H⟩:=H
   try dsimp only at H
   have H':=Az.mk H
   clear H
   have Bk:0≤(Aj:Int):=od
   have Bl:Aj<(l0.length:Int):=od
   obtain⟨Bm,Dd,De,Df,Am,Bd,Bf⟩:=at_L1 Cc.out Aj Bk Bl
   cases Df
   replace Am:=kc HB Am
   have Bx:=Az.mk Bf
   have Cv:=Az.mk Bd
   clear Bf Bd
   replace Bk:=ets Bk
   replace Bl:=ets Bl
   have Bn:0≤(Ak:Int):=od
   have Bo:Ak<((rd_L1 l0 Aj).length:Int):=od
   obtain⟨Dt,Dg,Ap⟩:=Kd.at_int Bx.out Ak Bn Bo
   cases Dg
   replace Ap:=kc HB Ap
   replace Bn:=ets Bn
   replace Bo:=ets Bo
   go_wp2_with (first|((with_reducible refine gtC (f:=43) rfl ?_);refine clz Try.func43 (some 36) #[.int .i64 (rd (rd_L1 l0 Aj) Ak)] ?_;(with_reducible refine(fZ.calls (rd (rd_L1 l0 Aj) Ak) Ce _ Dz.out).mono ?_);rintro e w' ⟨rfl,⟨nd,rfl⟩⟩;refine⟨_,rfl,?_⟩)|((with_reducible refine gtC (f:=55) rfl ?_);refine clz Try.func55 (some 40) #[.bool (decide ((rd (rd_L1 l0 Aj) Ak)>0))] ?_;(with_reducible refine(gJ.calls (decide ((rd (rd_L1 l0 Aj) Ak)>0)) Cf _ Ea.out).mono ?_);rintro e w' ⟨rfl,⟨nd,rfl⟩⟩;refine⟨_,rfl,?_⟩;obtain⟨Bi,Bj,Dh⟩:=Kd.R_slice HO_6.out;subst Dh)|((with_reducible refine gtC (f:=68) rfl ?_);refine clz Try.func68 (some 42) #[.slice Bi Ai.length Bj, .int .i64 (wrap64 ((wrap64 (2*Ce))+Cf))] ?_;(with_reducible refine(fX.calls k2 _ _ Ai (wrap64 ((wrap64 (2*Ce))+Cf)) Bw _ ?Ag ?Ah Eb.out).mono ?_);(case Ag=>exact kC (Kd.R_reads' HO_6.out).2.2);(case Ah=>exact(Kd.R_reads' HO_6.out).2.1);rintro e w' ⟨rfl,⟨nd,rfl⟩⟩;refine⟨_,rfl,?_⟩))
   go_loopg [11,12] k2 (fun kq Di Ec w'=>∃(Bb:Bool) (Aa:Int),Di= .bool Bb∧Ec= .int .i64 Aa∧Az (fK.l2 kq l0 l1 Ai Aj Ak Bw Bb Aa=some (r1,r2))∧Az (kq≤k2)∧Az (Kd.R (Kd.int .i64) 3 w' w.heap.size (fun _=>True) (.slice Bi Ai.length Bj) Ai)∧Az (Below w.heap.size w w'))
   case atStart=>exact⟨(true),(0),rq2,rq2,H',⟨Nat.le_refl _⟩,⟨kR HO_6.out⟩,⟨bw_40⟩⟩
   clear H'
   try clear c1
   try clear c5
   try clear Bv
   try clear c6
   try clear Cd
   try clear c7
   try clear Co
   try clear c8
   try clear Cp
   try clear c9
   try clear Cq
   try clear Cj
   try clear Bz
   try clear Am
   try clear Ap
   try clear Bk
   try clear Bn
   try clear Bl
   try clear Bo
   obtain⟨Bb,Aa,rfl,rfl,HA,HK3,HO_6,HB⟩:=hrel
   cases gk with
   |zero=>exact absurd HA.out (by simp[fK.l2])
   |succ k3=>
    have H:=HA.out
    clear HA
    simp only[fK.l2]at H
    by_cases Cg:Aa<(l0.length:Int)
    rotate_left
    ·rw[ig Cg]at H
     have Ca:=decide_eq_false Cg
     clear Cg
     by_cases Cw:Bb=true
     ·subst Cw
      rw[ip rfl]at H
      simp only[Option.some.injEq,Prod.mk.injEq]at H
      obtain⟨rfl,rfl⟩:=H
      go_wp2
      go_ret2
      exact⟨rq1,bw_40⟩
     replace Cw:=Bool.eq_false_iff.mpr Cw
     subst Cw
     rw[ig ff]at H
     have H':=Az.mk H
     clear H
     go_wp2
     go_roundg k3
     case measure=>have:=HK1.out;have:=HK2.out;have:=HK3.out;omega
     case rel=>exact⟨(wrap64 (Ak+1)),rq2,H',⟨by have:=HK1.out;have:=HK2.out;have:=HK3.out;omega⟩,⟨kR HO_6.out⟩,⟨bw_40⟩⟩
    rw[ip Cg]at H
    have Ca:=ode Cg
    clear Cg
    have H':=Az.mk H
    clear H
    go_wp2
    go_loopg [11,13] k3 (fun kq Di Ed w'=>∃(Ax:Bool) (Ab:Int),Di= .bool Ax∧Ed= .int .i64 Ab∧Az (fK.l3 kq l0 l1 Ai Aj Ak Bw Ax Aa Ab=some (r1,r2))∧Az (kq≤k3)∧Az (Kd.R (Kd.int .i64) 3 w' w.heap.size (fun _=>True) (.slice Bi Ai.length Bj) Ai)∧Az (Below w.heap.size w w'))
    case atStart=>exact⟨(Bb),(0),rq2,rq2,H',⟨Nat.le_refl _⟩,⟨kR HO_6.out⟩,⟨bw_40⟩⟩
    clear H'
    try clear c1
    try clear c5
    try clear Bv
    try clear c6
    try clear Cd
    try clear c7
    try clear Co
    try clear c8
    try clear Cp
    try clear c9
    try clear Cq
    try clear Cj
    try clear Bz
    try clear Cg
    try clear Ca
    try clear Am
    try clear Ap
    try clear Bk
    try clear Bn
    try clear Bl
    try clear Bo
    obtain⟨Ax,Ab,rfl,rfl,HA,HK4,HO_6,HB⟩:=hrel
    cases gk with
    |zero=>exact absurd HA.out (by simp[fK.l3])
    |succ k4=>
     have H:=HA.out
     clear HA
     simp only[fK.l3]at H
     by_cases Ck:Ab<3
     rotate_left
     ·rw[ig Ck]at H
      have Cr:=decide_eq_false Ck
      clear Ck
      have H':=Az.mk H
      clear H
      go_wp2
      go_roundg k4
      case measure=>have:=HK1.out;have:=HK2.out;have:=HK3.out;have:=HK4.out;omega
      case rel=>exact⟨(Ax),(wrap64 (Aa+1)),rq2,rq2,H',⟨by have:=HK1.out;have:=HK2.out;have:=HK3.out;have:=HK4.out;omega⟩,⟨kR HO_6.out⟩,⟨bw_40⟩⟩
     rw[ip Ck]at H
     have Cr:=ode Ck
     clear Ck
     by_cases Cy:0≤Aa
     rotate_left
     ·rw[ig Cy]at H
      exact absurd H (by simp)
     rw[ip Cy]at H
     have Du:=ode Cy
     clear Cy
     by_cases Cz:Aa<(l0.length:Int)
     rotate_left
     ·rw[ig Cz]at H
      exact absurd H (by simp)
     rw[ip Cz]at H
     have Dv:=ode Cz
     clear Cz
     by_cases Da:0≤Ab
     rotate_left
     ·rw[ig Da]at H
      exact absurd H (by simp)
     rw[ip Da]at H
     have Dw:=ode Da
     clear Da
     by_cases Db:Ab<((rd_L1 l0 Aa).length:Int)
     rotate_left
     ·rw[ig Db]at H
      exact absurd H (by simp)
     rw[ip Db]at H
     have Dx:=ode Db
     clear Db
     replace H:=bez H
     obtain⟨Ay,Dj,H⟩:=H
     try dsimp only at H
     replace H:=bez H
     obtain⟨Ba,Dk,H⟩:=H
     try dsimp only at H
     replace H:=bez H
     obtain⟨By,Dl,H⟩:=H
     try dsimp only at H
     by_cases Ch:By=Bw
     rotate_left
     ·rw[ig Ch]at H
      have Cs:=beq_eq_false_iff_ne.mpr Ch
      have Ct:=bne_iff_ne.mpr Ch
      have H':=Az.mk H
      clear H
      have Aq:0≤(Aa:Int):=od
      have As:Aa<(l0.length:Int):=od
      obtain⟨Bc,Bp,Bq,Br,Ac,Ad,Ae⟩:=at_L1 Cc.out Aa Aq As
      obtain rfl:Bm=Bc:=(by injection Br)
      replace Ac:=kc HB Ac
      have Al:=Az.mk Ae
      have Bh:=Az.mk Ad
      clear Ae Ad
      replace Aq:=ets Aq
      replace As:=ets As
      have Au:0≤(Ab:Int):=od
      have Av:Ab<((rd_L1 l0 Aa).length:Int):=od
      obtain⟨Cb,Bs,Af⟩:=Kd.at_int Al.out Ab Au Av
      cases Bs
      replace Af:=kc HB Af
      replace Au:=ets Au
      replace Av:=ets Av
      go_wp2_with (first|((with_reducible refine gtC (f:=43) rfl ?_);refine clz Try.func43 (some 62) #[.int .i64 (rd (rd_L1 l0 Aa) Ab)] ?_;(with_reducible refine(fZ.calls (rd (rd_L1 l0 Aa) Ab) Ay _ Dj.out).mono ?_);rintro e w' ⟨rfl,⟨nd,rfl⟩⟩;refine⟨_,rfl,?_⟩)|((with_reducible refine gtC (f:=55) rfl ?_);refine clz Try.func55 (some 66) #[.bool (decide ((rd (rd_L1 l0 Aa) Ab)>0))] ?_;(with_reducible refine(gJ.calls (decide ((rd (rd_L1 l0 Aa) Ab)>0)) Ba _ Dk.out).mono ?_);rintro e w' ⟨rfl,⟨nd,rfl⟩⟩;refine⟨_,rfl,?_⟩)|((with_reducible refine gtC (f:=68) rfl ?_);refine clz Try.func68 (some 68) #[.slice Bi Ai.length Bj, .int .i64 (wrap64 ((wrap64 (2*Ay))+Ba))] ?_;(with_reducible refine(fX.calls k4 _ _ Ai (wrap64 ((wrap64 (2*Ay))+Ba)) By _ ?Ag ?Ah Dl.out).mono ?_);(case Ag=>exact kC (Kd.R_reads' HO_6.out).2.2);(case Ah=>exact(Kd.R_reads' HO_6.out).2.1);rintro e w' ⟨rfl,⟨nd,rfl⟩⟩;refine⟨_,rfl,?_⟩))
      go_roundg k4
      case measure=>have:=HK1.out;have:=HK2.out;have:=HK3.out;have:=HK4.out;omega
      case rel=>exact⟨(Ax),(wrap64 (Ab+1)),rq2,rq2,H',⟨by have:=HK1.out;have:=HK2.out;have:=HK3.out;have:=HK4.out;omega⟩,⟨kR HO_6.out⟩,⟨bw_40⟩⟩
     rw[ip Ch]at H
     have Cs:=beq_iff_eq.mpr Ch
     have Ct:=bne_eq_false_iff_eq.mpr Ch
     clear Ch
     replace H:=bez H
     obtain⟨Ci,Dy,H⟩:=H
     try dsimp only at H
     by_cases Cl:Ci<2
     ·rw[ip Cl]at H
      have Cu:=ode Cl
      clear Cl
      have H':=Az.mk H
      clear H
      have Aq:0≤(Aa:Int):=od
      have As:Aa<(l0.length:Int):=od
      obtain⟨Bc,Bp,Bq,Br,Ac,Ad,Ae⟩:=at_L1 Cc.out Aa Aq As
      obtain rfl:Bm=Bc:=(by injection Br)
      replace Ac:=kc HB Ac
      have Al:=Az.mk Ae
      have Bh:=Az.mk Ad
      clear Ae Ad
      replace Aq:=ets Aq
      replace As:=ets As
      have Au:0≤(Ab:Int):=od
      have Av:Ab<((rd_L1 l0 Aa).length:Int):=od
      obtain⟨Cb,Bs,Af⟩:=Kd.at_int Al.out Ab Au Av
      cases Bs
      replace Af:=kc HB Af
      replace Au:=ets Au
      replace Av:=ets Av
      go_wp2_with (first|((with_reducible refine gtC (f:=43) rfl ?_);refine clz Try.func43 (some 62) #[.int .i64 (rd (rd_L1 l0 Aa) Ab)] ?_;(with_reducible refine(fZ.calls (rd (rd_L1 l0 Aa) Ab) Ay _ Dj.out).mono ?_);rintro e w' ⟨rfl,⟨nd,rfl⟩⟩;refine⟨_,rfl,?_⟩)|((with_reducible refine gtC (f:=55) rfl ?_);refine clz Try.func55 (some 66) #[.bool (decide ((rd (rd_L1 l0 Aa) Ab)>0))] ?_;(with_reducible refine(gJ.calls (decide ((rd (rd_L1 l0 Aa) Ab)>0)) Ba _ Dk.out).mono ?_);rintro e w' ⟨rfl,⟨nd,rfl⟩⟩;refine⟨_,rfl,?_⟩)|((with_reducible refine gtC (f:=68) rfl ?_);refine clz Try.func68 (some 68) #[.slice Bi Ai.length Bj, .int .i64 (wrap64 ((wrap64 (2*Ay))+Ba))] ?_;(with_reducible refine(fX.calls k4 _ _ Ai (wrap64 ((wrap64 (2*Ay))+Ba)) By _ ?Ag ?Ah Dl.out).mono ?_);(case Ag=>exact kC (Kd.R_reads' HO_6.out).2.2);(case Ah=>exact(Kd.R_reads' HO_6.out).2.1);rintro e w' ⟨rfl,⟨nd,rfl⟩⟩;refine⟨_,rfl,?_⟩)|(go_at_call 56;(with_reducible refine(gR.calls _ _ l0 _ _ l1 Aa Ab Ci _ ?Ag ?Ah ?Bt ?Bu Dy.out).mono ?_);(case Ag=>exact kC (Kd.C_below Cc.out bw_40));(case Ah=>exact Dc.out);(case Bt=>exact kC (Kd.C_below Dq.out bw_40));(case Bu=>exact Dr.out);rintro e w' ⟨rfl,⟨nd,rfl⟩⟩))
      go_roundg k4
      case measure=>have:=HK1.out;have:=HK2.out;have:=HK3.out;have:=HK4.out;omega
      case rel=>exact⟨(false),(wrap64 (Ab+1)),rq2,rq2,H',⟨by have:=HK1.out;have:=HK2.out;have:=HK3.out;have:=HK4.out;omega⟩,⟨kR HO_6.out⟩,⟨bw_40⟩⟩
     rw[ig Cl]at H
     have Cu:=decide_eq_false Cl
     clear Cl
     have H':=Az.mk H
     clear H
     have Aq:0≤(Aa:Int):=od
     have As:Aa<(l0.length:Int):=od
     obtain⟨Bc,Bp,Bq,Br,Ac,Ad,Ae⟩:=at_L1 Cc.out Aa Aq As
     obtain rfl:Bm=Bc:=(by injection Br)
     replace Ac:=kc HB Ac
     have Al:=Az.mk Ae
     have Bh:=Az.mk Ad
     clear Ae Ad
     replace Aq:=ets Aq
     replace As:=ets As
     have Au:0≤(Ab:Int):=od
     have Av:Ab<((rd_L1 l0 Aa).length:Int):=od
     obtain⟨Cb,Bs,Af⟩:=Kd.at_int Al.out Ab Au Av
     cases Bs
     replace Af:=kc HB Af
     replace Au:=ets Au
     replace Av:=ets Av
     go_wp2_with (first|((with_reducible refine gtC (f:=43) rfl ?_);refine clz Try.func43 (some 62) #[.int .i64 (rd (rd_L1 l0 Aa) Ab)] ?_;(with_reducible refine(fZ.calls (rd (rd_L1 l0 Aa) Ab) Ay _ Dj.out).mono ?_);rintro e w' ⟨rfl,⟨nd,rfl⟩⟩;refine⟨_,rfl,?_⟩)|((with_reducible refine gtC (f:=55) rfl ?_);refine clz Try.func55 (some 66) #[.bool (decide ((rd (rd_L1 l0 Aa) Ab)>0))] ?_;(with_reducible refine(gJ.calls (decide ((rd (rd_L1 l0 Aa) Ab)>0)) Ba _ Dk.out).mono ?_);rintro e w' ⟨rfl,⟨nd,rfl⟩⟩;refine⟨_,rfl,?_⟩)|((with_reducible refine gtC (f:=68) rfl ?_);refine clz Try.func68 (some 68) #[.slice Bi Ai.length Bj, .int .i64 (wrap64 ((wrap64 (2*Ay))+Ba))] ?_;(with_reducible refine(fX.calls k4 _ _ Ai (wrap64 ((wrap64 (2*Ay))+Ba)) By _ ?Ag ?Ah Dl.out).mono ?_);(case Ag=>exact kC (Kd.R_reads' HO_6.out).2.2);(case Ah=>exact(Kd.R_reads' HO_6.out).2.1);rintro e w' ⟨rfl,⟨nd,rfl⟩⟩;refine⟨_,rfl,?_⟩)|(go_at_call 56;(with_reducible refine(gR.calls _ _ l0 _ _ l1 Aa Ab Ci _ ?Ag ?Ah ?Bt ?Bu Dy.out).mono ?_);(case Ag=>exact kC (Kd.C_below Cc.out bw_40));(case Ah=>exact Dc.out);(case Bt=>exact kC (Kd.C_below Dq.out bw_40));(case Bu=>exact Dr.out);rintro e w' ⟨rfl,⟨nd,rfl⟩⟩))
     go_roundg k4
     case measure=>have:=HK1.out;have:=HK2.out;have:=HK3.out;have:=HK4.out;omega
     case rel=>exact⟨(Ax),(wrap64 (Ab+1)),rq2,rq2,H',⟨by have:=HK1.out;have:=HK2.out;have:=HK3.out;have:=HK4.out;omega⟩,⟨kR HO_6.out⟩,⟨bw_40⟩⟩
section
open Bool renaming true → T, false → F
theorem bw_41 {n:Nat}{v v':World} (h:Below n v v':=by repeat(first|(with_reducible first|exact HB.out|apply bwA|apply pbN|apply bwD|refine bwS ?_ GB21.out)|exact HB.out)):Below n v v':=h
theorem ln_41 {P:Prop} (h:P:=by(try simp only[List.map_toArray,List.map_cons,List.map_nil]);first|done|rfl|(simp only[List.length_drop,List.length_take];rfl)):P:=h
mutual
def fJ.l0:Nat→List (List Int)→List Int→Option (List Int × Bool)
 |0,_,_=>none
 |k+1,x0,x6=>(fK.f k x0 x6).bind fun bt816=>(if bt816.1<0 then(some (x6,true)) else((gL.f k x0 bt816.1 bt816.2).bind fun t818=>(fJ.l1 k x0 x6 t818 0)))
def fJ.l1:Nat→List (List Int)→List Int→List Int→Int→Option (List Int × Bool)
 |0,_,_,_,_=>none
 |k+1,x0,x6,x9,x10=>if x10<(x6.length:Int) then(if 0≤x10 then(if x10<(x9.length:Int) then(fJ.l1 k x0 (x6.set (x10:Int).toNat (wrap64 ((rd x6 x10) - (rd x9 x10)))) x9 (wrap64 (x10+1))) else(none)) else(none)) else(fJ.l0 k x0 x6)
end
def fJ.f (k:Nat) (l0:List (List Int)) (l1:List Int):Option (List Int × Bool):=(fI.f k l0 l1).bind fun t806=>(if t806=true then((some (([]:List Int):List Int)).bind fun y810=>(if y810.length+l1.length<17592186044416 then(fJ.l0 k l0 (y810 ++ l1)) else(none))) else(some ((([]:List Int)),false)))
def fJ.T11:Bool × List (List Nat × List Nat):=(true,[([],[]),([],[]),([],[]),([],[]),([2,3],[2,3]),([4],[4]),([],[]),([],[]),([6,7],[6,7]),([8],[8]),([5,9],[5,9]),([0,1,0,1,2,3,4,5,6,7,8,9,10],[0,1]),([11,10,0,1,2,3,4,5,6,7,8,9,10],[10,11])])
def fJ.B11:List Nat:=[0,0,0,0,12,28,0,0,192,448,1020,2047,4095]
theorem fJ.tab11:rtab .any (opsOf Try.f31 11)=fJ.T11:=by kernel_rfl
theorem fJ.bits11:waitsOk fJ.T11.2 fJ.B11=true:=by kernel_rfl
theorem fJ.calls (k:Nat) (A0:Option Addr) (c0:Nat) (l0:List (List Int)) (A1:Option Addr) (c1:Nat) (l1:List Int) (r1:List Int) (r2:Bool) (w:World) (Cw:Kd.C (Kd.slice 3 (Kd.int .i64)) w A0 l0.length l0) (Cy:l0.length≤c0) (Cz:Kd.C (Kd.int .i64) w A1 l1.length l1) (Da:l1.length≤c1) (h:fJ.f k l0 l1=some (r1,r2)):
  Calls Try.prog 31 #[.slice A0 l0.length c0, .slice A1 l1.length c1] w fun e w'=>∃v0_:Value,e= .returned (.tuple #[v0_, .bool r2])∧Kd.R (Kd.int .i64) 3 w' w.heap.size (fun _=>True) v0_ r1∧Below w.heap.size w w':=by
 have Bo:=Az.mk Cw
 have Bp:=Az.mk Cy
 clear Cw Cy
 have Ch:=Az.mk Cz
 have Db:=Az.mk Da
 clear Cz Da
 have HB:=Az.mk (Below.refl w.heap.size w)
 have H:=h
 unfold fJ.f at H
 clear h
 replace H:=bez H
 obtain⟨Ci,A3,H⟩:=H
 try dsimp only at H
 by_cases c4:Ci=true
 rotate_left
 ·replace c4:=Bool.eq_false_iff.mpr c4
  subst c4
  rw[ig ff]at H
  obtain⟨Cj,hy⟩:∃y_:List Int,y_=(([]:List Int)):=⟨_,rfl⟩
  replace H:(some (Cj,false))=some (r1,r2):=rh
  have Au:=Az.mk hy
  clear hy
  simp only[Option.some.injEq,Prod.mk.injEq]at H
  obtain⟨rfl,rfl⟩:=H
  go_enter Try.func31,Try.ntmps31
  go_wp2_with (first|((with_reducible refine gtC (f:=29) rfl ?_);refine clz Try.func29 (some 13) #[.slice A0 l0.length c0, .slice A1 l1.length c1] ?_;(with_reducible refine(fI.calls k _ _ l0 _ _ l1 false _ ?Ab ?Ac ?Af ?Ag A3.out).mono ?_);(case Ab=>exact kC Bo.out);(case Ac=>exact Bp.out);(case Af=>exact kC Ch.out);(case Ag=>exact Db.out);rintro e Dn ⟨rfl,hb⟩;refine⟨_,rfl,?_⟩;replace HB:=Az.mk (bwT bw_41 hb);(try clear hb))|((with_reducible refine gtD (N:=15) rfl ?_);refine Kd.R_lit (Kd.int .i64) _ 3 ?hg (N:=15) ?hd (xs:=([]:List Int)) (inner:=[]) (ok:=fun _=>True) (okp:=fun _=>True) ?hr ?hp (fun _ hk=>hk) trivial (Below.refl _ _) (Nat.le_refl _) (by simp) ?_;(case hd=>rfl);(case hg=>rfl);(case hr=>first|(go_simp;done)|(go_simp;rfl));(case hp=>exact(Reps.none _ _));intro Dg Do Am hb hg_ hnew_;clear hg_ hnew_;(first|rw[←Au.out]at Am|(simp only[Int.reduceToNat]at Am;rw[←Au.out]at Am));have Bq:=Az.mk (Kd.R_lower Am (bwZ bw_41));replace HB:=Az.mk (bwT bw_41 hb);clear hb Am))
  go_ret2
  exact⟨_,rq1,kR Bq.out,bw_41⟩
 subst c4
 rw[ip rfl]at H
 obtain⟨Ap,hy⟩:∃y_:List Int,y_=(([]:List Int)):=⟨_,rfl⟩
 replace H:(if Ap.length+l1.length<17592186044416 then(fJ.l0 k l0 (Ap ++ l1)) else(none))=some (r1,r2):=rh
 have Av:=Az.mk hy
 clear hy
 by_cases c5:Ap.length+l1.length<17592186044416
 rotate_left
 ·rw[ig c5]at H
  exact absurd H (by simp)
 rw[ip c5]at H
 have LMc5:=Az.mk c5
 clear c5
 obtain⟨Br,hy⟩:∃y_:List Int,y_=(Ap ++ l1):=⟨_,rfl⟩
 replace H:(fJ.l0 k l0 Br)=some (r1,r2):=rh
 have Bs:=Az.mk hy
 clear hy
 have H':=Az.mk H
 clear H
 go_enter Try.func31,Try.ntmps31
 go_wp2_with (first|((with_reducible refine gtC (f:=29) rfl ?_);refine clz Try.func29 (some 13) #[.slice A0 l0.length c0, .slice A1 l1.length c1] ?_;(with_reducible refine(fI.calls k _ _ l0 _ _ l1 true _ ?Ab ?Ac ?Af ?Ag A3.out).mono ?_);(case Ab=>exact kC Bo.out);(case Ac=>exact Bp.out);(case Af=>exact kC Ch.out);(case Ag=>exact Db.out);rintro e w6 ⟨rfl,hb⟩;refine⟨_,rfl,?_⟩;replace HB:=Az.mk (bwT bw_41 hb);(try clear hb))|((with_reducible refine gtD (N:=16) rfl ?_);refine Kd.R_lit (Kd.int .i64) _ 3 ?hg (N:=16) ?hd (xs:=([]:List Int)) (inner:=[]) (ok:=fun _=>True) (okp:=fun _=>True) ?hr ?hp (fun _ hk=>hk) trivial (Below.refl _ _) (Nat.le_refl _) (by simp) ?_;(case hd=>rfl);(case hg=>rfl);(case hr=>first|(go_simp;done)|(go_simp;rfl));(case hp=>exact(Reps.none _ _));intro Ck w7 Bt hb hg_ hnew_;clear hg_ hnew_;(first|rw[←Av.out]at Bt|(simp only[Int.reduceToNat]at Bt;rw[←Av.out]at Bt));have Ax:=Az.mk (Kd.R_lower Bt (bwZ bw_41));replace HB:=Az.mk (bwT bw_41 hb);clear hb Bt)|((with_reducible refine gate_builtin (b:= .append) (xs:= #[.tmp 16, .tmp 17]) rfl ?_);at_builtin;refine Kd.R_append_rows (Kd.int .i64) (w0:=w) w.heap.size rfl (.tmp 16) (.tmp 17) 25 3 (.int .i64 0) 8 rfl Try.underlying25 info3 rfl (by decide) (by omega) Ck Ap l1 _ _ _ (fun _=>True) (fun _=>False) rfl rfl ?aO ?aR (fun _ _ h=>h) (fun _ h=>h.elim) ?aF ?aB ?aS ?aL ?_;(case aR=>exact kC (Kd.C_below Ch.out HB.out));(case aB=>exact bw_41);(case aF=>exact(fun _ _=>trivial));(case aO=>exact(kR Ax.out));(case aS=>exact(bwZ bw_41));(case aL=>have:=LMc5.out;omega);intro Cl w9 ho hb hg hat;rw[←Bs.out]at ho;have n0_:=Az.mk (hb);have n1_:=Az.mk (ho);clear HB;clear Ax;have HB:=n0_;have Bu:=n1_;clear n0_ n1_;clear ho hb hg hat))
 go_loopg [] k (fun kq w'=>∃(Ah:List Int),Az (fJ.l0 kq l0 Ah=some (r1,r2))∧Az (kq≤k)∧Az (Kd.R (Kd.int .i64) 3 w' w.heap.size (fun _=>True) Cl Ah)∧Az (Below w.heap.size w w'))
 case atStart=>exact⟨(Br),H',⟨Nat.le_refl _⟩,⟨kR Bu.out⟩,⟨bw_41⟩⟩
 clear H'
 try clear c1
 try clear c4
 try clear c5
 obtain⟨Ah,HA,HK1,HO_6,HB⟩:=hrel
 cases gk with
 |zero=>exact absurd HA.out (by simp[fJ.l0])
 |succ k1=>
  have H:=HA.out
  clear HA
  simp only[fJ.l0]at H
  replace H:=bez H
  obtain⟨⟨Aq,As⟩,Dc,H⟩:=H
  try dsimp only at H
  by_cases Ba:Aq<0
  ·rw[ip Ba]at H
   have Ay:=ode Ba
   clear Ba
   simp only[Option.some.injEq,Prod.mk.injEq]at H
   obtain⟨rfl,rfl⟩:=H
   obtain⟨Cm,Cn,Co⟩:=Kd.R_slice HO_6.out
   subst Co
   go_wp2_with (first|((with_reducible refine gtC (f:=58) rfl ?_);refine clz Try.func58 (some 22) #[.slice A0 l0.length c0, .slice Cm Ah.length Cn] ?_;(with_reducible refine(fK.calls k1 _ _ l0 _ _ Ah Aq As _ ?Ab ?Ac ?Af ?Ag Dc.out).mono ?_);(case Ab=>exact kC (Kd.C_below Bo.out HB.out));(case Ac=>exact Bp.out);(case Af=>exact kC (Kd.R_reads' HO_6.out).2.2);(case Ag=>exact(Kd.R_reads' HO_6.out).2.1);rintro e Dp ⟨rfl,hb⟩;refine⟨_,rfl,?_⟩;replace HO_6:=Az.mk (Kd.R_below (kR HO_6.out) hb);replace HB:=Az.mk (bwT bw_41 hb);(try clear hb)))
   go_ret2
   exact⟨_,rq1,kR HO_6.out,bw_41⟩
  rw[ig Ba]at H
  have Ay:=decide_eq_false Ba
  clear Ba
  replace H:=bez H
  obtain⟨Ai,Dh,H⟩:=H
  try dsimp only at H
  have H':=Az.mk H
  clear H
  obtain⟨Bb,Bc,Cp⟩:=Kd.R_slice HO_6.out
  subst Cp
  go_wp2_with (first|((with_reducible refine gtC (f:=58) rfl ?_);refine clz Try.func58 (some 22) #[.slice A0 l0.length c0, .slice Bb Ah.length Bc] ?_;(with_reducible refine(fK.calls k1 _ _ l0 _ _ Ah Aq As _ ?Ab ?Ac ?Af ?Ag Dc.out).mono ?_);(case Ab=>exact kC (Kd.C_below Bo.out HB.out));(case Ac=>exact Bp.out);(case Af=>exact kC (Kd.R_reads' HO_6.out).2.2);(case Ag=>exact(Kd.R_reads' HO_6.out).2.1);rintro e Dq ⟨rfl,hb⟩;refine⟨_,rfl,?_⟩;replace HO_6:=Az.mk (Kd.R_below (kR HO_6.out) hb);replace HB:=Az.mk (bwT bw_41 hb);(try clear hb))|((with_reducible refine gtC (f:=59) rfl ?_);refine clz Try.func59 (some 31) #[.slice A0 l0.length c0, .int .i64 Aq, .int .i64 As] ?_;(with_reducible refine(gL.calls k1 _ _ l0 Aq As Ai _ ?Ab ?Ac Dh.out).mono ?_);(case Ab=>exact kC (Kd.C_below Bo.out HB.out));(case Ac=>exact Bp.out);rintro e Dr ⟨Bv,rfl,Cq,hb⟩;refine⟨_,rfl,?_⟩;have Bw:=Az.mk (Kd.R_lower (Kd.R_new' Cq (Kd.R_lt (kR HO_6.out))) (bwZ bw_41));replace HO_6:=Az.mk (Kd.R_elder' (kR HO_6.out) (Kd.R_base Cq) hb);replace HB:=Az.mk (bwT bw_41 hb);(try clear hb);(try clear Cq)))
  go_loopg [10] k1 (fun kq Di w'=>∃(Ae:List Int) (Aa:Int),Di= .int .i64 Aa∧Az (fJ.l1 kq l0 Ae Ai Aa=some (r1,r2))∧Az (kq≤k1)∧Az (Kd.R (Kd.int .i64) 3 w' w.heap.size (fun k_=>some k_≠(Bv:Value).ownBlock) (.slice Bb Ah.length Bc) Ae)∧Az (Kd.R (Kd.int .i64) 3 w' w.heap.size (fun k_=>some k_≠((.slice Bb Ah.length Bc):Value).ownBlock) Bv Ai)∧Az (Below w.heap.size w w'))
  case atStart=>exact⟨(Ah),(0),rq2,H',⟨Nat.le_refl _⟩,⟨by(with_reducible repeat(first|apply Kd.R_alloc|apply Kd.R_drewN|apply Kd.R_drew));exact Kd.R_mono HO_6.out (fun _ hk=>hk.2)⟩,⟨by(with_reducible repeat(first|apply Kd.R_alloc|apply Kd.R_drewN|apply Kd.R_drew));exact Kd.R_mono Bw.out (fun _ hk=>hk.2)⟩,⟨bw_41⟩⟩
  clear H'
  try clear c1
  try clear c4
  try clear c5
  try clear Ba
  try clear Ay
  obtain⟨Ae,Aa,rfl,HA,HK2,HO_6,Ak,HB⟩:=hrel
  have Ad:=(Kd.R_reads' HO_6.out).1
  rw[Ad]at HO_6
  (try simp only[Ad])
  (try simp only[Ad]at Ak)
  cases gk with
  |zero=>exact absurd HA.out (by simp[fJ.l1])
  |succ k2=>
   have H:=HA.out
   clear HA
   simp only[fJ.l1]at H
   by_cases Bn:Aa<(Ae.length:Int)
   rotate_left
   ·rw[ig Bn]at H
    have Bx:=decide_eq_false Bn
    clear Bn
    have H':=Az.mk H
    clear H
    go_wp2
    (try simp only[←Ad])
    go_roundg k2
    case measure=>have:=HK1.out;have:=HK2.out;omega
    case rel=>exact⟨(Ae),H',⟨by have:=HK1.out;have:=HK2.out;omega⟩,⟨by(try simp only[Ad]);(with_reducible repeat(first|apply Kd.R_alloc|apply Kd.R_drewN|apply Kd.R_drew));exact Kd.R_mono HO_6.out (fun _ hk=>trivial)⟩,⟨bw_41⟩⟩
   rw[ip Bn]at H
   have Bx:=ode Bn
   clear Bn
   by_cases Cf:0≤Aa
   rotate_left
   ·rw[ig Cf]at H
    exact absurd H (by simp)
   rw[ip Cf]at H
   have Dd:=ode Cf
   clear Cf
   by_cases Cg:Aa<(Ai.length:Int)
   rotate_left
   ·rw[ig Cg]at H
    exact absurd H (by simp)
   rw[ip Cg]at H
   have De:=ode Cg
   clear Cg
   obtain⟨By,hy⟩:∃y_:List Int,y_=(Ae.set (Aa:Int).toNat (wrap64 ((rd Ae Aa) - (rd Ai Aa)))):=⟨_,rfl⟩
   replace H:(fJ.l1 k2 l0 By Ai (wrap64 (Aa+1)))=some (r1,r2):=rh
   have Bz:=Az.mk hy
   clear hy
   have H':=Az.mk H
   clear H
   try go_wp2
   replace HO_6:=Az.mk (Kd.R_drew HO_6.out);replace Ak:=Az.mk (Kd.R_drew Ak.out);replace HB:=Az.mk (bwD HB.out)
   have Bd:0≤(Aa:Int):=od
   have Bf:Aa<(Ae.length:Int):=od
   obtain⟨Df,Cr,Aj⟩:=Kd.at_int (Kd.R_reads' HO_6.out).2.2 Aa Bd Bf
   cases Cr
   replace Bd:=ets Bd
   replace Bf:=ets Bf
   obtain⟨Dj,Dk,Ca⟩:=Kd.R_slice Ak.out
   (first|subst Ca|(injection Ca with f1_ f2_ f3_;have f4_:=f1_.symm;have f5_:=f3_.symm;clear f1_ f2_ f3_;subst f4_;subst f5_))
   have Bh:0≤(Aa:Int):=od
   have Bi:Aa<(Ai.length:Int):=od
   obtain⟨Cb,Cs,Al⟩:=Kd.at_int (Kd.R_reads' Ak.out).2.2 Aa Bh Bi
   cases Cs
   replace Bh:=ets Bh
   replace Bi:=ets Bi
   have Ct:0≤(Aa:Int):=od
   have Cu:(Aa:Int)<((Ae.length:Int):Int):=od
   obtain⟨Bj,Dl,Cc,Cd,gl21,Dm,HG21⟩:=Kd.R_form HO_6.out (by omega)
   (first|cases Cc|(injection Cc with ea_ en_ ec_;(first|subst ea_|(injection ea_ with ea_;subst ea_));subst ec_;clear en_))
   have GB21:=Az.mk Cd
   have Cv:=Az.mk HG21
   clear Cd gl21 HG21
   (first|simp only[add_plain]at Aj|skip)
   obtain⟨Bk,Bl⟩:=Kd.R_celln 0 HO_6.out (Aa:Int) Ct Cu
   replace Ct:=ets Ct
   replace Cu:=ets Cu
   have Bm:=Kd.R_putn HO_6.out (Aa:Int) (wrap64 ((rd Ae Aa) - (rd Ai Aa)))
   rw[←Bz.out]at Bm
   have Ce:=Az.mk Bm
   clear Bm
   refine start_ (n:=13) (S:=fun w'=>w'.cell? ⟨Bj,(Aa).toNat,none⟩=some (.int .i64 (rd Ae Aa))∧w'.cell? (Cb.add (Aa).toNat)=some (.int .i64 (rd Ai Aa))) (ds:=[12]) #[F,F,F,F,F,F,F,F,F,F,F,F,F] (by kernel_rfl) rfl rfl ⟨Aj,Al⟩ (fun hHeld=>?_);refine with_tabW fJ.tab11 fJ.bits11 (fun HT_ HW_=>?_)
   generalize wr.drew=Ds at HO_6 Ak HB Cv Ce Bl Bk Aj Al hHeld ⊢
   refine pu (i:=0) (N:=some 38) #[T,F,F,F,F,F,F,F,F,F,F,F,F] (any_of HT_.out (by kernel_rfl)) ?_
   refine pu (i:=1) (N:=some 39) #[T,T,F,F,F,F,F,F,F,F,F,F,F] (any_of HT_.out (by kernel_rfl)) ?_
   refine pu (i:=2) (N:=some 40) #[T,T,T,F,F,F,F,F,F,F,F,F,F] (any_of HT_.out (by kernel_rfl)) ?_
   refine pu (i:=3) (N:=some 41) #[T,T,T,T,F,F,F,F,F,F,F,F,F] (any_of HT_.out (by kernel_rfl)) ?_
   refine pu (i:=4) (N:=some 42) #[T,T,T,T,T,F,F,F,F,F,F,F,F] (any_of HT_.out (by kernel_rfl)) ?_
   refine pu (i:=6) (N:=some 44) #[T,T,T,T,T,F,T,F,F,F,F,F,F] (any_of HT_.out (by kernel_rfl)) ?_
   refine pu (i:=7) (N:=some 45) #[T,T,T,T,T,F,T,T,F,F,F,F,F] (any_of HT_.out (by kernel_rfl)) ?_
   refine pu (i:=8) (N:=some 46) #[T,T,T,T,T,F,T,T,T,F,F,F,F] (any_of HT_.out (by kernel_rfl)) ?_
   refine take_ (i:=5) (N:=some 43) (v:=?_) (a':=?_) #[T,T,T,T,T,T,T,T,T,F,F,F,F] rfl rfl (take_ofW HT_.out HW_.out (by kernel_rfl)) (fun _ _ _ h=>h) (Or.inl ⟨by rfl,?_⟩) hHeld ?_ ?_
   rotate_left
   ·rintro w' ⟨s0,s1⟩
    go_simp
    with_reducible rfl
   rotate_left
   ·exact acq
   refine take_ (i:=9) (N:=some 47) (v:=?_) (a':=?_) #[T,T,T,T,T,T,T,T,T,T,F,F,F] rfl rfl (take_ofW HT_.out HW_.out (by kernel_rfl)) (fun _ _ _ h=>h) (Or.inl ⟨by rfl,?_⟩) hHeld ?_ ?_
   rotate_left
   ·rintro w' ⟨s0,s1⟩
    go_simp
    with_reducible rfl
   rotate_left
   ·exact acq
   refine pu (i:=10) (N:=some 48) #[T,T,T,T,T,T,T,T,T,T,T,F,F] (any_of HT_.out (by kernel_rfl)) ?_
   refine pu (i:=11) (N:=some 49) #[T,T,T,T,T,T,T,T,T,T,T,T,F] (any_of HT_.out (by kernel_rfl)) ?_
   refine last_ (i:=12) (N:=none) #[T,T,T,T,T,T,T,T,T,T,T,T,T] rfl rfl (one_of HT_.out (by kernel_rfl)) (by decide) (fun K hK=>?_)
   refine skip_ (w1:=?_) (by rfl) rfl ?_ ?_
   rotate_left
   ·go_simp
    rfl
   refine hK.out _ _ ?_
   clear hK K
   refine done_ (done_of HT_.out (by kernel_rfl)) ?_
   try go_wp2
   (try simp only[←Ad])
   go_roundg k2
   case measure=>have:=HK1.out;have:=HK2.out;omega
   case rel=>exact⟨(By),(wrap64 (Aa+1)),rq2,H',⟨by have:=HK1.out;have:=HK2.out;omega⟩,⟨by(try simp only[Ad]);(with_reducible repeat(first|apply Kd.R_alloc|apply Kd.R_drewN|apply Kd.R_drew));exact Ce.out⟩,⟨by(try simp only[Ad]);(with_reducible repeat(first|apply Kd.R_alloc|apply Kd.R_drewN|apply Kd.R_drew));exact Kd.R_mono (Kd.R_far (p:=⟨Bj,(Aa:Int).toNat,none⟩) (Kd.R_mono Ak.out (fun k_ hk=>(⟨hk,fun e_=>hk (by rw[e_];rfl)⟩:_∧k_≠Bj))) (fun _ hk=>hk.2) (.int .i64 (wrap64 ((rd Ae Aa) - (rd Ai Aa))))) (fun _ hk=>hk.1)⟩,⟨bw_41⟩⟩
end
attribute [local go_sem high] eqA45
mutual
def laws_FnFlips.j0:Nat→List (List Int)→List Int→Int→List (List Int)→List Int→Bool→List (List Int)→List Int→Bool→Option (Bool)
 |0,_,_,_,_,_,_,_,_,_=>none
 |k+1,x3,x4,x5,x6,x10,x11,x22,x23,x24=>if x11=true then((fP.f k x6 x10 x5).bind fun bt921=>((fI.f k x6 x10).bind fun t925=>(if t925=true then((gI.f k x6 x10).bind fun t926=>((gI.f k x3 x4).bind fun t927=>(if t926=t927 then(if bt921.2=true then((gB.f k bt921.1 x4).bind fun t928=>(if t928=true then((fJ.f k x3 x4).bind fun bt929=>((fJ.f k x6 x10).bind fun bt933=>((fG.f k x3 bt929.1 x5).bind fun bt937=>(if bt937.2=true then((gB.f k bt937.1 bt933.1).bind fun t941=>(if t941=true then(laws_FnFlips.j1 k x3 x4 x22 x23 x24) else(none))) else(laws_FnFlips.j1 k x3 x4 x22 x23 x24))))) else(none))) else(none)) else(none)))) else(none)))) else(laws_FnFlips.j1 k x3 x4 x22 x23 x24)
def laws_FnFlips.j1:Nat→List (List Int)→List Int→List (List Int)→List Int→Bool→Option (Bool)
 |0,_,_,_,_,_=>none
 |k+1,x3,x4,x22,x23,x24=>if x24=true then((fI.f k x22 x23).bind fun t943=>(if t943=true then((gI.f k x22 x23).bind fun t944=>((gI.f k x3 x4).bind fun t945=>(if t944=t945 then((gC.f k x23).bind fun t946=>((gC.f k x4).bind fun t947=>(if t946≤t947 then((gE.f k x22 x23).bind fun t948=>(some (t948== 0))) else(none)))) else(none)))) else(none))) else((gE.f k x3 x4).bind fun t942=>(some (t942== 0)))
end
def laws_FnFlips.f (k:Nat) (l0:List Int):Option (Bool):=(jW.f l0).bind fun t824=>(if t824=true then(some true) else((jN.f k l0).bind fun bt825=>((fU.f k bt825.1 bt825.2.2).bind fun bt832=>((jK.f k bt825.1 bt825.2.2).bind fun bt836=>((fP.f k bt825.1 bt825.2.1 bt825.2.2).bind fun bt840=>((fG.f k bt825.1 bt825.2.1 bt825.2.2).bind fun bt844=>((jJ.f k l0).bind fun bt848=>((fW.f k bt848.1 bt848.2).bind fun bt852=>((fL.f k bt848.1 bt848.2).bind fun bt856=>((fM.f k l0).bind fun bt860=>((jE.f k bt825.1 bt825.2.1).bind fun bt866=>((jC.f k bt825.1 bt825.2.1).bind fun bt873=>(if(bt832.2 != bt836.2)=true then(none) else((gG.f k bt832.1 bt836.1).bind fun t880=>(if t880=true then(if(bt840.2 != bt844.2)=true then(none) else((gB.f k bt840.1 bt844.1).bind fun t881=>(if t881=true then(if(bt852.2 != bt856.2)=true then(none) else((gG.f k bt852.1 bt856.1).bind fun t882=>(if t882=true then((gZ.f k bt860.1 bt860.2).bind fun t883=>((jO.f k bt860.1 bt860.2).bind fun t884=>(if(t883 != t884)=true then(none) else(if(bt866.2.2 != bt873.2.2)=true then(none) else((gG.f k bt866.1 bt873.1).bind fun t885=>(if t885=true then((gB.f k bt866.2.1 bt873.2.1).bind fun t886=>(if t886=true then((gT.f k bt825.1 bt825.2.2).bind fun t887=>(if(t887 != bt832.2)=true then(none) else((fA.f k bt825.1).bind fun t888=>((fD.f k bt825.1).bind fun t891=>((gG.f k t888 t891).bind fun t894=>(if t894=true then((gC.f k bt825.2.1).bind fun t895=>((gK.f k bt825.2.1).bind fun t896=>(if t895=t896 then((gE.f k bt825.1 bt825.2.1).bind fun t897=>((gF.f k bt825.1 bt825.2.1).bind fun t898=>(if t897=t898 then(if bt832.2=true then((gA.f k bt825.1).bind fun bt899=>((gA.f k bt832.1).bind fun bt905=>((fU.f k bt832.1 bt825.2.2).bind fun bt911=>((fW.f k bt825.1 bt825.2.2).bind fun bt915=>((fB.f k bt832.1).bind fun t919=>(if t919=true then(if(!(bt899.1== bt905.1)||(!(bt899.2.1== bt905.2.1)||(!(bt899.2.2.1== bt905.2.2.1))))=true then(none) else(if(bt899.2.2.2.2 != bt905.2.2.2.2)=true then(none) else(if bt911.2=true then((gZ.f k bt911.1 bt915.1).bind fun t920=>(if t920=true then(laws_FnFlips.j0 k bt825.1 bt825.2.1 bt825.2.2 bt832.1 bt840.1 bt840.2 bt866.1 bt866.2.1 bt866.2.2) else(none))) else(none)))) else(none))))))) else(laws_FnFlips.j0 k bt825.1 bt825.2.1 bt825.2.2 bt832.1 bt840.1 bt840.2 bt866.1 bt866.2.1 bt866.2.2)) else(none)))) else(none)))) else(none))))))) else(none))) else(none))))))) else(none)))) else(none)))) else(none))))))))))))))))
def laws_FnFlips.Pure:Prop:=∀(l0:List Int),l0.length≤maxLen→l0.length*1≤140737488351232→(∀x∈l0,(Lit.int .u8 x).wf=true)→∃k,laws_FnFlips.f k l0=some true
attribute [local go_sem high] eqA45
def tailOf:Code→Nat→Code
 |c,0=>c
 | .seq _ b,n+1=>tailOf b n
 |c,_+1=>c
end Go.Proofs.Ytemeiocmgbgikaa.P

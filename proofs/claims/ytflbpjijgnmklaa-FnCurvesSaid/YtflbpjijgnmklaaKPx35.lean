-- The walks, cut and laid together by this session's tools (prune.py, sq2.py, min.py: shorter names, no needless spaces). Not trusted: Lean checks it.
import Derived.Test.YtflbpjijgnmklaaKWZip
import Derived.Test.YtflbpjijgnmklaaKPx29
namespace Go.Proofs.Ytflbpjijgnmklaa.P
open Go.RowKit Go.Proofs.YtflbpjijgnmklaaW.PrintWords Go.Proofs.YtflbpjijgnmklaaW.PrintLast Go.Proofs.YtflbpjijgnmklaaW.PrintMore
attribute [local go_sem] max2_int min2_int max_two min_two max_three min_three max_four min_four   -- for this text's walks alone
set_option linter.unusedVariables false
set_option linter.unusedSimpArgs false
set_option maxHeartbeats 8000000
set_option maxRecDepth 100000
open Option renaming bind_eq_some_iff → be
theorem bw_35 {n:Nat}{v v':World} (h:Below n v v':=by repeat(first|(with_reducible first|exact HB.out|apply bwA|apply pbN|apply bwD)|exact HB.out)):Below n v v':=h
theorem ln_35 {P:Prop} (h:P:=by(try simp only[List.map_toArray,List.map_cons,List.map_nil]);first|done|rfl|(simp only[List.length_drop,List.length_take];rfl)):P:=h
mutual
def fE.l0:Nat→List (List Int)→List Int→List Int→Int→Option (List Int)
 |0,_,_,_,_=>none
 |k+1,x0,x1,x5,x6=>if x6<(x1.length:Int) then(fE.l1 k x0 x1 x5 x6 0) else(fE.l2 k x0 x1 x5 0)
def fE.l1:Nat→List (List Int)→List Int→List Int→Int→Int→Option (List Int)
 |0,_,_,_,_,_=>none
 |k+1,x0,x1,x5,x6,x7=>if 0≤x6 then(if x6<(x1.length:Int) then(if x7<(rd x1 x6) then(if x5.length<17592186044416 then(fE.l1 k x0 x1 (x5 ++ [(x5.length:Int)]) x6 (wrap64 (x7+1))) else(none)) else(fE.l0 k x0 x1 x5 (wrap64 (x6+1)))) else(none)) else(none)
def fE.l2:Nat→List (List Int)→List Int→List Int→Int→Option (List Int)
 |0,_,_,_,_=>none
 |k+1,x0,x1,x5,x8=>if x8<(x0.length:Int) then(fE.l3 k x0 x1 x5 x8 0) else(some x5)
def fE.l3:Nat→List (List Int)→List Int→List Int→Int→Int→Option (List Int)
 |0,_,_,_,_,_=>none
 |k+1,x0,x1,x5,x8,x9=>if x9<3 then(if 0≤x8 then(if x8<(x0.length:Int) then(if 0≤x9 then(if x9<((rd_L1 x0 x8).length:Int) then(if 0≤(Int.tmod (wrap64 (x9+1)) 3) then(if(Int.tmod (wrap64 (x9+1)) 3)<((rd_L1 x0 x8).length:Int) then(fE.l4 k x0 x1 x5 x8 x9 (rd (rd_L1 x0 x8) x9) (rd (rd_L1 x0 x8) (Int.tmod (wrap64 (x9+1)) 3)) 0) else(none)) else(none)) else(none)) else(none)) else(none)) else(none)) else(fE.l2 k x0 x1 x5 (wrap64 (x8+1)))
def fE.l4:Nat→List (List Int)→List Int→List Int→Int→Int→Int→Int→Int→Option (List Int)
 |0,_,_,_,_,_,_,_,_=>none
 |k+1,x0,x1,x5,x8,x9,x10,x11,x12=>(gN.f x0 x1 x8 x9).bind fun t618=>(if x12<(wrap64 (Int.tdiv t618 2)) then((gF.f x10).bind fun t619=>(if 0≤(wrap64 (t619 - 1)) then(if(wrap64 (t619 - 1))<(x1.length:Int) then((gR.f k x1 x10 (wrap64 ((wrap64 ((rd x1 (wrap64 (t619 - 1))) - 1)) - x12))).bind fun t621=>((fS.f k x5 t621).bind fun t622=>((gR.f k x1 x11 x12).bind fun t623=>((fS.f k x5 t623).bind fun t624=>(if 0≤t622 then(if t622<(x5.length:Int) then(fE.l4 k x0 x1 (x5.set (t622:Int).toNat t624) x8 x9 x10 x11 (wrap64 (x12+1))) else(none)) else(none)))))) else(none)) else(none))) else(fE.l3 k x0 x1 x5 x8 (wrap64 (x9+1))))
end
def fE.f (k:Nat) (l0:List (List Int)) (l1:List Int):Option (List Int):=fE.l0 k l0 l1 (([]:List Int)) 0
theorem fE.calls (k:Nat) (A0:Option Addr) (c0:Nat) (l0:List (List Int)) (A1:Option Addr) (c1:Nat) (l1:List Int) (r:List Int) (w:World) (Gb:Kd.C (Kd.slice 3 (Kd.int .i64)) w A0 l0.length l0) (Gc:l0.length≤c0) (Gd:Kd.C (Kd.int .i64) w A1 l1.length l1) (Ge:l1.length≤c1) (h:fE.f k l0 l1=some r):
  Calls Try.prog 65 #[.slice A0 l0.length c0, .slice A1 l1.length c1] w fun e w'=>∃v0_:Value,e= .returned (v0_)∧Kd.R (Kd.int .i64) 3 w' w.heap.size (fun _=>True) v0_ r∧Below w.heap.size w w':=by
 have Dx:=Az.mk Gb
 have Gf:=Az.mk Gc
 clear Gb Gc
 have HR1:=Az.mk Gd
 have Dy:=Az.mk Ge
 clear Gd Ge
 have HB:=Az.mk (Below.refl w.heap.size w)
 have H:(fE.l0 k l0 l1 (([]:List Int)) 0)=some r:=h
 clear h
 obtain⟨Cw,hy⟩:∃y_:List Int,y_=(([]:List Int)):=⟨_,rfl⟩
 replace H:(fE.l0 k l0 l1 Cw 0)=some r:=rh
 have Cf:=Az.mk hy
 clear hy
 have H':=Az.mk H
 clear H
 go_enter Try.func65,Try.ntmps65
 go_wp2_with (first|((with_reducible refine gtD (N:=15) rfl ?_);refine Kd.R_lit (Kd.int .i64) _ 3 ?hg (N:=15) ?hd (xs:=([]:List Int)) (inner:=[]) (ok:=fun _=>True) (okp:=fun _=>True) ?hr ?hp (fun _ hk=>hk) trivial (Below.refl _ _) (Nat.le_refl _) (by simp) ?_;(case hd=>rfl);(case hg=>rfl);(case hr=>first|(go_simp;done)|(go_simp;rfl));(case hp=>exact(Reps.none _ _));intro Gn w3 Da hb hg_ hnew_;clear hg_ hnew_;(first|rw[←Cf.out]at Da|(simp only[Int.reduceToNat]at Da;rw[←Cf.out]at Da));have Db:=Az.mk (Kd.R_lower Da (bwZ bw_35));replace HB:=Az.mk (bwT bw_35 hb);clear hb Da))
 go_loopg [5,6] k (fun kq v5 v6 w'=>∃(Bj:List Int) (Ai:Int),v6= .int .i64 Ai∧Az (fE.l0 kq l0 l1 Bj Ai=some r)∧Az (kq≤k)∧Az (Kd.R (Kd.int .i64) 3 w' w.heap.size (fun _=>True) v5 Bj)∧Az (Below w.heap.size w w'))
 case atStart=>exact⟨(Cw),(0),rq2,H',⟨Nat.le_refl _⟩,⟨kR Db.out⟩,⟨bw_35⟩⟩
 clear H'
 try clear c1
 obtain⟨Bj,Ai,rfl,HA,HK1,Aa,HB⟩:=hrel
 cases gk with
 |zero=>exact absurd HA.out (by simp[fE.l0])
 |succ k1=>
  have H:=HA.out
  clear HA
  simp only[fE.l0]at H
  by_cases c5:Ai<(l1.length:Int)
  ·rw[ip c5]at H
   have Bk:=ode c5
   clear c5
   have H':=Az.mk H
   clear H
   go_wp2
   go_loopg [5,7] k1 (fun kq v5 v7 w'=>∃(Aj:List Int) (Bd:Int),v7= .int .i64 Bd∧Az (fE.l1 kq l0 l1 Aj Ai Bd=some r)∧Az (kq≤k1)∧Az (Kd.R (Kd.int .i64) 3 w' w.heap.size (fun _=>True) v5 Aj)∧Az (Below w.heap.size w w'))
   case atStart=>exact⟨(Bj),(0),rq2,H',⟨Nat.le_refl _⟩,⟨kR Aa.out⟩,⟨bw_35⟩⟩
   clear H'
   try clear c1
   try clear c5
   try clear Bk
   obtain⟨Aj,Bd,rfl,HA,HK2,Aa,HB⟩:=hrel
   cases gk with
   |zero=>exact absurd HA.out (by simp[fE.l1])
   |succ k2=>
    have H:=HA.out
    clear HA
    simp only[fE.l1]at H
    by_cases c6:0≤Ai
    rotate_left
    ·rw[ig c6]at H
     exact absurd H (by simp)
    rw[ip c6]at H
    have Cj:=ode c6
    clear c6
    by_cases c7:Ai<(l1.length:Int)
    rotate_left
    ·rw[ig c7]at H
     exact absurd H (by simp)
    rw[ip c7]at H
    have Ck:=ode c7
    clear c7
    by_cases c8:Bd<(rd l1 Ai)
    rotate_left
    ·rw[ig c8]at H
     have Bt:=decide_eq_false c8
     clear c8
     have H':=Az.mk H
     clear H
     have Aq:0≤(Ai:Int):=od
     have As:Ai<(l1.length:Int):=od
     obtain⟨Dc,Cl,Ae⟩:=Kd.at_int HR1.out Ai Aq As
     cases Cl
     replace Ae:=kc HB Ae
     replace Aq:=ets Aq
     replace As:=ets As
     go_wp2
     go_roundg k2
     case measure=>have:=HK1.out;have:=HK2.out;omega
     case rel=>exact⟨(Aj),(wrap64 (Ai+1)),rq2,H',⟨by have:=HK1.out;have:=HK2.out;omega⟩,⟨kR Aa.out⟩,⟨bw_35⟩⟩
    rw[ip c8]at H
    have Bt:=ode c8
    clear c8
    by_cases c9:Aj.length<17592186044416
    rotate_left
    ·rw[ig c9]at H
     exact absurd H (by simp)
    rw[ip c9]at H
    have LMc9:=Az.mk c9
    clear c9
    obtain⟨Dd,hy⟩:∃y_:List Int,y_=(Aj ++ [(Aj.length:Int)]):=⟨_,rfl⟩
    replace H:(fE.l1 k2 l0 l1 Dd Ai (wrap64 (Bd+1)))=some r:=rh
    have De:=Az.mk hy
    clear hy
    have H':=Az.mk H
    clear H
    have Aq:0≤(Ai:Int):=od
    have As:Ai<(l1.length:Int):=od
    obtain⟨Dc,Cl,Ae⟩:=Kd.at_int HR1.out Ai Aq As
    cases Cl
    replace Ae:=kc HB Ae
    replace Aq:=ets Aq
    replace As:=ets As
    obtain⟨Ef,Eg,Eh⟩:=Kd.R_slice Aa.out
    subst Eh
    go_wp2_with (first|((with_reducible refine gate_builtin (b:= .append) (xs:= #[.tmp 30, .tmp 33]) rfl ?_);at_builtin;refine Kd.R_append (Kd.int .i64) (w0:=w) w.heap.size rfl (.tmp 30) (.tmp 33) 25 3 (.int .i64 0) 8 rfl Try.underlying25 info3 rfl (by decide) (by omega) (.slice Ef Aj.length Eg) Aj (Aj.length:Int) [.int .i64 (Aj.length:Int)] (fun _=>True) (fun _=>False) rfl rfl ?aP (fun _ hk=>hk.elim) ?aF ?aO ?aB ?aS ?aL ?_;(case aP=>exact rfl);(case aB=>exact bw_35);(case aF=>exact(fun _ _=>trivial));(case aO=>exact(kR Aa.out));(case aS=>exact(bwZ bw_35));(case aL=>have:=LMc9.out;omega);intro Gp Gy ho hb hg hat;rw[←De.out]at ho;have n0_:=Az.mk (hb);have n1_:=Az.mk (ho);clear HB;clear Aa;have HB:=n0_;have Df:=n1_;clear n0_ n1_;clear ho hb hg hat))
    go_roundg k2
    case measure=>have:=HK1.out;have:=HK2.out;omega
    case rel=>exact⟨(Dd),(wrap64 (Bd+1)),rq2,H',⟨by have:=HK1.out;have:=HK2.out;omega⟩,⟨kR Df.out⟩,⟨bw_35⟩⟩
  rw[ig c5]at H
  have Bk:=decide_eq_false c5
  clear c5
  have H':=Az.mk H
  clear H
  go_wp2
  go_loopg [8] k1 (fun kq v8 w'=>∃(Aj:List Int) (Ab:Int),v8= .int .i64 Ab∧Az (fE.l2 kq l0 l1 Aj Ab=some r)∧Az (kq≤k1)∧Az (Kd.R (Kd.int .i64) 3 w' w.heap.size (fun _=>True) u5 Aj)∧Az (Below w.heap.size w w'))
  case atStart=>exact⟨(Bj),(0),rq2,H',⟨Nat.le_refl _⟩,⟨kR Aa.out⟩,⟨bw_35⟩⟩
  clear H'
  try clear c1
  try clear c5
  try clear Bk
  try clear c6
  try clear Cj
  try clear c7
  try clear Ck
  try clear c8
  try clear Bt
  try clear c9
  try clear Ae
  try clear Aq
  try clear As
  obtain⟨Aj,Ab,rfl,HA,HK2,Aa,HB⟩:=hrel
  cases gk with
  |zero=>exact absurd HA.out (by simp[fE.l2])
  |succ k2=>
   have H:=HA.out
   clear HA
   simp only[fE.l2]at H
   by_cases Cg:Ab<(l0.length:Int)
   rotate_left
   ·rw[ig Cg]at H
    have Bl:=decide_eq_false Cg
    clear Cg
    obtain rfl:=Option.some.inj H
    go_wp2
    go_ret
    exact⟨_,rq1,kR Aa.out,bw_35⟩
   rw[ip Cg]at H
   have Bl:=ode Cg
   clear Cg
   have H':=Az.mk H
   clear H
   go_wp2
   go_loopg [9] k2 (fun kq v9 w'=>∃(Bf:List Int) (Ac:Int),v9= .int .i64 Ac∧Az (fE.l3 kq l0 l1 Bf Ab Ac=some r)∧Az (kq≤k2)∧Az (Kd.R (Kd.int .i64) 3 w' w.heap.size (fun _=>True) u5 Bf)∧Az (Below w.heap.size w w'))
   case atStart=>exact⟨(Aj),(0),rq2,H',⟨Nat.le_refl _⟩,⟨kR Aa.out⟩,⟨bw_35⟩⟩
   clear H'
   try clear c1
   try clear c5
   try clear Bk
   try clear c6
   try clear Cj
   try clear c7
   try clear Ck
   try clear c8
   try clear Bt
   try clear c9
   try clear Cg
   try clear Bl
   try clear Ae
   try clear Aq
   try clear As
   obtain⟨Bf,Ac,rfl,HA,HK3,Aa,HB⟩:=hrel
   cases gk with
   |zero=>exact absurd HA.out (by simp[fE.l3])
   |succ k3=>
    have H:=HA.out
    clear HA
    simp only[fE.l3]at H
    by_cases Cm:Ac<3
    rotate_left
    ·rw[ig Cm]at H
     have Ch:=decide_eq_false Cm
     clear Cm
     have H':=Az.mk H
     clear H
     go_wp2
     go_roundg k3
     case measure=>have:=HK1.out;have:=HK2.out;have:=HK3.out;omega
     case rel=>exact⟨(Bf),(wrap64 (Ab+1)),rq2,H',⟨by have:=HK1.out;have:=HK2.out;have:=HK3.out;omega⟩,⟨kR Aa.out⟩,⟨bw_35⟩⟩
    rw[ip Cm]at H
    have Ch:=ode Cm
    clear Cm
    by_cases Dg:0≤Ab
    rotate_left
    ·rw[ig Dg]at H
     exact absurd H (by simp)
    rw[ip Dg]at H
    have Dh:=ode Dg
    clear Dg
    by_cases Di:Ab<(l0.length:Int)
    rotate_left
    ·rw[ig Di]at H
     exact absurd H (by simp)
    rw[ip Di]at H
    have Dj:=ode Di
    clear Di
    by_cases Dk:0≤Ac
    rotate_left
    ·rw[ig Dk]at H
     exact absurd H (by simp)
    rw[ip Dk]at H
    have Dl:=ode Dk
    clear Dk
    by_cases Dm:Ac<((rd_L1 l0 Ab).length:Int)
    rotate_left
    ·rw[ig Dm]at H
     exact absurd H (by simp)
    rw[ip Dm]at H
    have Dn:=ode Dm
    clear Dm
    obtain⟨Ak,Bm⟩:∃j_:Int,(Int.tmod (wrap64 (Ac+1)) 3)=j_:=⟨_,rfl⟩
    replace H:(if 0≤(Ak) then(if(Ak)<((rd_L1 l0 Ab).length:Int) then(fE.l4 k3 l0 l1 Bf Ab Ac (rd (rd_L1 l0 Ab) Ac) (rd (rd_L1 l0 Ab) (Ak)) 0) else(none)) else(none))=some r:=by first|(rw[Bm]at H;exact H)|(simp only[Bm]at H ⊢;exact H)
    by_cases Do:0≤(Ak)
    rotate_left
    ·rw[ig Do]at H
     exact absurd H (by simp)
    rw[ip Do]at H
    have Dp:=ode Do
    clear Do
    by_cases Dq:(Ak)<((rd_L1 l0 Ab).length:Int)
    rotate_left
    ·rw[ig Dq]at H
     exact absurd H (by simp)
    rw[ip Dq]at H
    have Dr:=ode Dq
    clear Dq
    have H':=Az.mk H
    clear H
    have Bu:0≤(Ab:Int):=od
    have Bv:Ab<(l0.length:Int):=od
    obtain⟨Bn,Ei,Ej,Ek,Am,Ax,Ay⟩:=at_L1 Dx.out Ab Bu Bv
    cases Ek
    replace Am:=kc HB Am
    have Bw:=Az.mk Ay
    have Dz:=Az.mk Ax
    clear Ay Ax
    replace Bu:=ets Bu
    replace Bv:=ets Bv
    have Bx:0≤(Ac:Int):=od
    have By:Ac<((rd_L1 l0 Ab).length:Int):=od
    obtain⟨Gg,El,Av⟩:=Kd.at_int Bw.out Ac Bx By
    cases El
    replace Av:=kc HB Av
    replace Bx:=ets Bx
    replace By:=ets By
    have Bz:0≤(Ab:Int):=od
    have Ca:Ab<(l0.length:Int):=od
    obtain⟨Ds,Em,Eo,Ep,Ao,Ba,Bb⟩:=at_L1 Dx.out Ab Bz Ca
    obtain rfl:Bn=Ds:=(by injection Ep)
    replace Ao:=kc HB Ao
    have Cc:=Az.mk Bb
    have Ea:=Az.mk Ba
    clear Bb Ba
    replace Bz:=ets Bz
    replace Ca:=ets Ca
    have ea_:=Option.some.inj (Am.symm.trans Ao)
    injection ea_ with ea_ en_ ec_
    subst ea_
    subst ec_
    clear en_
    have Cd:0≤((Ak):Int):=od
    have Ce:(Ak)<((rd_L1 l0 Ab).length:Int):=od
    obtain⟨Gh,Er,Aw⟩:=Kd.at_int Cc.out (Ak) Cd Ce
    cases Er
    replace Aw:=kc HB Aw
    replace Cd:=ets Cd
    replace Ce:=ets Ce
    go_wp2
    go_loopg [12] k3 (fun kq Gq w'=>∃(Ad:List Int) (Af:Int),Gq= .int .i64 Af∧Az (fE.l4 kq l0 l1 Ad Ab Ac (rd (rd_L1 l0 Ab) Ac) (rd (rd_L1 l0 Ab) (Ak)) Af=some r)∧Az (kq≤k3)∧Az (Kd.R (Kd.int .i64) 3 w' w.heap.size (fun _=>True) u5 Ad)∧Az (Below w.heap.size w w'))
    case atStart=>exact⟨(Bf),(0),rq2,H',⟨Nat.le_refl _⟩,⟨kR Aa.out⟩,⟨bw_35⟩⟩
    clear H'
    try clear c1
    try clear c5
    try clear Bk
    try clear c6
    try clear Cj
    try clear c7
    try clear Ck
    try clear c8
    try clear Bt
    try clear c9
    try clear Cg
    try clear Bl
    try clear Cm
    try clear Ch
    try clear Dg
    try clear Dh
    try clear Di
    try clear Dj
    try clear Dk
    try clear Dl
    try clear Dm
    try clear Dn
    try clear Do
    try clear Dp
    try clear Dq
    try clear Dr
    try clear Ae
    try clear Am
    try clear Av
    try clear Ao
    try clear Aw
    try clear Aq
    try clear Bu
    try clear Bx
    try clear Bz
    try clear Cd
    try clear As
    try clear Bv
    try clear By
    try clear Ca
    try clear Ce
    obtain⟨Ad,Af,rfl,HA,HK4,Aa,HB⟩:=hrel
    cases gk with
    |zero=>exact absurd HA.out (by simp[fE.l4])
    |succ k4=>
     have H:=HA.out
     clear HA
     simp only[fE.l4]at H
     replace H:=bez H
     obtain⟨Cn,Es,H⟩:=H
     try dsimp only at H
     by_cases Cv:Af<(wrap64 (Int.tdiv Cn 2))
     rotate_left
     ·rw[ig Cv]at H
      have Dt:=decide_eq_false Cv
      clear Cv
      have H':=Az.mk H
      clear H
      go_wp2_with (first|((with_reducible refine gtC (f:=69) rfl ?_);refine clz Try.func69 (some 66) #[.slice (some Bn) l0.length c0, .slice A1 l1.length c1, .int .i64 Ab, .int .i64 Ac] ?_;(with_reducible refine(gN.calls _ _ l0 _ _ l1 Ab Ac Cn _ ?Ag ?Ah ?Bo ?Bp Es.out).mono ?_);(case Ag=>exact kC (Kd.C_below Dx.out HB.out));(case Ah=>exact Gf.out);(case Bo=>exact kC (Kd.C_below HR1.out HB.out));(case Bp=>exact Dy.out);rintro e w' ⟨rfl,⟨nd,rfl⟩⟩;refine⟨_,rfl,?_⟩))
      go_roundg k4
      case measure=>have:=HK1.out;have:=HK2.out;have:=HK3.out;have:=HK4.out;omega
      case rel=>exact⟨(Ad),(wrap64 (Ac+1)),rq2,H',⟨by have:=HK1.out;have:=HK2.out;have:=HK3.out;have:=HK4.out;omega⟩,⟨kR Aa.out⟩,⟨bw_35⟩⟩
     rw[ip Cv]at H
     have Dt:=ode Cv
     clear Cv
     replace H:=bez H
     obtain⟨Co,Gi,H⟩:=H
     try dsimp only at H
     obtain⟨Ap,Au⟩:∃j_:Int,(wrap64 (Co - 1))=j_:=⟨_,rfl⟩
     replace H:(if 0≤(Ap) then(if(Ap)<(l1.length:Int) then((gR.f k4 l1 (rd (rd_L1 l0 Ab) Ac) (wrap64 ((wrap64 ((rd l1 (Ap)) - 1)) - Af))).bind fun Bq=>((fS.f k4 Ad Bq).bind fun Al=>((gR.f k4 l1 (rd (rd_L1 l0 Ab) (Ak)) Af).bind fun Br=>((fS.f k4 Ad Br).bind fun Bh=>(if 0≤Al then(if Al<(Ad.length:Int) then(fE.l4 k4 l0 l1 (Ad.set (Al:Int).toNat Bh) Ab Ac (rd (rd_L1 l0 Ab) Ac) (rd (rd_L1 l0 Ab) (Ak)) (wrap64 (Af+1))) else(none)) else(none)))))) else(none)) else(none))=some r:=by first|(rw[Au]at H;exact H)|(simp only[Au]at H ⊢;exact H)
     (try rw[Au]at Es)
     (try rw[Au]at Gi)
     have hji24w:(IntKind.i64.wrap (Co - 1))=Ap:=(i64_w _).trans Au
     by_cases Eb:0≤(Ap)
     rotate_left
     ·rw[ig Eb]at H
      exact absurd H (by simp)
     rw[ip Eb]at H
     have Gj:=ode Eb
     clear Eb
     by_cases Ec:(Ap)<(l1.length:Int)
     rotate_left
     ·rw[ig Ec]at H
      exact absurd H (by simp)
     rw[ip Ec]at H
     have Gk:=ode Ec
     clear Ec
     replace H:=bez H
     obtain⟨Bq,Gr,H⟩:=H
     try dsimp only at H
     replace H:=bez H
     obtain⟨Al,Gs,H⟩:=H
     try dsimp only at H
     replace H:=bez H
     obtain⟨Br,Gt,H⟩:=H
     try dsimp only at H
     replace H:=bez H
     obtain⟨Bh,Gu,H⟩:=H
     try dsimp only at H
     by_cases Ed:0≤Al
     rotate_left
     ·rw[ig Ed]at H
      exact absurd H (by simp)
     rw[ip Ed]at H
     have Gl:=ode Ed
     clear Ed
     by_cases Ee:Al<(Ad.length:Int)
     rotate_left
     ·rw[ig Ee]at H
      exact absurd H (by simp)
     rw[ip Ee]at H
     have Gm:=ode Ee
     clear Ee
     obtain⟨Cp,hy⟩:∃y_:List Int,y_=(Ad.set (Al:Int).toNat Bh):=⟨_,rfl⟩
     replace H:(fE.l4 k4 l0 l1 Cp Ab Ac (rd (rd_L1 l0 Ab) Ac) (rd (rd_L1 l0 Ab) (Ak)) (wrap64 (Af+1)))=some r:=rh
     have Du:=Az.mk hy
     clear hy
     have H':=Az.mk H
     clear H
     go_wp2_with (first|((with_reducible refine gtC (f:=69) rfl ?_);refine clz Try.func69 (some 66) #[.slice (some Bn) l0.length c0, .slice A1 l1.length c1, .int .i64 Ab, .int .i64 Ac] ?_;(with_reducible refine(gN.calls _ _ l0 _ _ l1 Ab Ac Cn _ ?Ag ?Ah ?Bo ?Bp Es.out).mono ?_);(case Ag=>exact kC (Kd.C_below Dx.out HB.out));(case Ah=>exact Gf.out);(case Bo=>exact kC (Kd.C_below HR1.out HB.out));(case Bp=>exact Dy.out);rintro e w' ⟨rfl,⟨nd,rfl⟩⟩;refine⟨_,rfl,?_⟩;(try(rw[drewN_self wr];generalize hq_:World.drewN wr _=wr;have n0_:Az (Kd.R (Kd.int .i64) 3 wr w.heap.size (fun _=>True) u5 Ad):=⟨by rw[←hq_];exact(kR Aa.out)⟩;have n1_:Az (Below w.heap.size w wr):=⟨by rw[←hq_];exact bw_35⟩;clear Aa HB hq_;have Aa:=n0_;have HB:=n1_;clear n0_ n1_)))|((with_reducible refine gtC (f:=79) rfl ?_);refine clz Try.func79 (some 76) #[.int .i64 (rd (rd_L1 l0 Ab) Ac)] ?_;(with_reducible refine(gF.calls (rd (rd_L1 l0 Ab) Ac) Co _ Gi.out).mono ?_);rintro e w' ⟨rfl,⟨nd,rfl⟩⟩;refine⟨_,rfl,?_⟩;(try(rw[drewN_self wr];generalize hq_:World.drewN wr _=wr;have n0_:Az (Kd.R (Kd.int .i64) 3 wr w.heap.size (fun _=>True) u5 Ad):=⟨by rw[←hq_];exact(kR Aa.out)⟩;have n1_:Az (Below w.heap.size w wr):=⟨by rw[←hq_];exact bw_35⟩;clear Aa HB hq_;have Aa:=n0_;have HB:=n1_;clear n0_ n1_));have Cq:0≤((Ap):Int):=od;have Cs:(Ap)<(l1.length:Int):=od;obtain⟨Ci,Et,Bc⟩:=Kd.at_int HR1.out (Ap) Cq Cs;cases Et;replace Bc:=kc HB Bc;replace Cq:=ets Cq;replace Cs:=ets Cs)|((with_reducible refine gtC (f:=83) rfl ?_);refine goesL_ (some 83) rfl rfl Try.func83 (by kernel_rfl) rfl #[.slice (some Ci) l1.length c1, .int .i64 (rd (rd_L1 l0 Ab) Ac), .int .i64 (wrap64 ((wrap64 ((rd l1 (Ap)) - 1)) - Af))] rfl (by(try simp only[List.map_toArray,List.map_cons,List.map_nil]);first|done|(simp only[Au];rfl)|rfl|(simp only[List.length_drop,List.length_take];rfl)) ?_;(with_reducible refine(gR.calls k4 _ _ l1 (rd (rd_L1 l0 Ab) Ac) (wrap64 ((wrap64 ((rd l1 (Ap)) - 1)) - Af)) Bq _ ?Ag ?Ah Gr.out).mono ?_);(case Ag=>exact kC (Kd.C_below HR1.out HB.out));(case Ah=>exact Dy.out);rintro e w' ⟨rfl,⟨nd,rfl⟩⟩;refine⟨_,rfl,?_⟩;(try(rw[drewN_self wr];generalize hq_:World.drewN wr _=wr;have n0_:Az (Kd.R (Kd.int .i64) 3 wr w.heap.size (fun _=>True) u5 Ad):=⟨by rw[←hq_];exact(kR Aa.out)⟩;have n1_:Az (Below w.heap.size w wr):=⟨by rw[←hq_];exact bw_35⟩;clear Aa HB hq_;have Aa:=n0_;have HB:=n1_;clear n0_ n1_));obtain⟨Bs,Bi,Eu⟩:=Kd.R_slice Aa.out;subst Eu)|((with_reducible refine gtC (f:=66) rfl ?_);refine clz Try.func66 (some 84) #[.slice Bs Ad.length Bi, .int .i64 Bq] ?_;(with_reducible refine(fS.calls k4 _ _ Ad Bq Al _ ?Ag ?Ah Gs.out).mono ?_);(case Ag=>exact kC (Kd.R_reads' Aa.out).2.2);(case Ah=>exact(Kd.R_reads' Aa.out).2.1);rintro e w' ⟨rfl,⟨nd,rfl⟩⟩;refine⟨_,rfl,?_⟩;(try(rw[drewN_self wr];generalize hq_:World.drewN wr _=wr;have n0_:Az (Kd.R (Kd.int .i64) 3 wr w.heap.size (fun _=>True) (.slice Bs Ad.length Bi) Ad):=⟨by rw[←hq_];exact(kR Aa.out)⟩;have n1_:Az (Below w.heap.size w wr):=⟨by rw[←hq_];exact bw_35⟩;clear Aa HB hq_;have Aa:=n0_;have HB:=n1_;clear n0_ n1_)))|((with_reducible refine gtC (f:=83) rfl ?_);refine goesL_ (some 89) rfl rfl Try.func83 (by kernel_rfl) rfl #[.slice (some Ci) l1.length c1, .int .i64 (rd (rd_L1 l0 Ab) (Ak)), .int .i64 Af] rfl (by(try simp only[List.map_toArray,List.map_cons,List.map_nil]);first|done|(simp only[Bm];rfl)|rfl|(simp only[List.length_drop,List.length_take];rfl)) ?_;(with_reducible refine(gR.calls k4 _ _ l1 (rd (rd_L1 l0 Ab) (Ak)) Af Br _ ?Ag ?Ah Gt.out).mono ?_);(case Ag=>exact kC (Kd.C_below HR1.out HB.out));(case Ah=>exact Dy.out);rintro e w' ⟨rfl,⟨nd,rfl⟩⟩;refine⟨_,rfl,?_⟩;(try(rw[drewN_self wr];generalize hq_:World.drewN wr _=wr;have n0_:Az (Kd.R (Kd.int .i64) 3 wr w.heap.size (fun _=>True) (.slice Bs Ad.length Bi) Ad):=⟨by rw[←hq_];exact(kR Aa.out)⟩;have n1_:Az (Below w.heap.size w wr):=⟨by rw[←hq_];exact bw_35⟩;clear Aa HB hq_;have Aa:=n0_;have HB:=n1_;clear n0_ n1_)))|((with_reducible refine gtC (f:=66) rfl ?_);refine clz Try.func66 (some 90) #[.slice Bs Ad.length Bi, .int .i64 Br] ?_;(with_reducible refine(fS.calls k4 _ _ Ad Br Bh _ ?Ag ?Ah Gu.out).mono ?_);(case Ag=>exact kC (Kd.R_reads' Aa.out).2.2);(case Ah=>exact(Kd.R_reads' Aa.out).2.1);rintro e w' ⟨rfl,⟨nd,rfl⟩⟩;refine⟨_,rfl,?_⟩;(try(rw[drewN_self wr];generalize hq_:World.drewN wr _=wr;have n0_:Az (Kd.R (Kd.int .i64) 3 wr w.heap.size (fun _=>True) (.slice Bs Ad.length Bi) Ad):=⟨by rw[←hq_];exact(kR Aa.out)⟩;have n1_:Az (Below w.heap.size w wr):=⟨by rw[←hq_];exact bw_35⟩;clear Aa HB hq_;have Aa:=n0_;have HB:=n1_;clear n0_ n1_));have Ev:0≤(Al:Int):=od;have Ew:(Al:Int)<((Ad.length:Int):Int):=od;obtain⟨Ct,Gv,Dv,Dw,gl33,Gw,HG33⟩:=Kd.R_form Aa.out (by omega);(first|cases Dv|(injection Dv with ea_ en_ ec_;(first|subst ea_|(injection ea_ with ea_;subst ea_));subst ec_;clear en_));have Ex:=Az.mk Dw;have Gx:=Az.mk HG33;clear Dw gl33 HG33;obtain⟨Ey,Ez⟩:=Kd.R_celln 0 Aa.out (Al:Int) Ev Ew;replace Ev:=ets Ev;replace Ew:=ets Ew;obtain⟨hy35_,hz35_⟩:=Kd.R_celln 0 Aa.out (Al:Int) (od) (od);have Cu:=Kd.R_putg Aa.out (Al:Int) Bh)|((with_reducible refine gate_store (t:=3) (p:=94) rfl ?_);refine store_event (t:=3) (p:=94) (v:=?vo_w36) (w1:=(wr.setCell ⟨Ct,(Al:Int).toNat,none⟩ (.int .i64 Bh))) ?hg ?ho ?hn ?hr ?_;(case ho=>rfl);(case hg=>rfl);(case hn=>rfl);(case hr=>first|(go_simp;done)|(go_simp;rfl));intro Ga hw;have hg:wr.grownBy Ga (some Ct):=(by rw[hw];exact Cu.2);have hp_:Kd.R (Kd.int .i64) 3 Ga w.heap.size (fun _=>True) (.slice (some ⟨Ct,0,none⟩) Ad.length Bi) Cp:=(by rw[hw,Du.out];exact Cu.1);clear Cu;replace Aa:=Az.mk (hp_);replace HB:=Az.mk ((by rw[hw];exact bwS (HB.out) Ex.out:Below w.heap.size w Ga));clear hg hw hp_))
     go_roundg k4
     case measure=>have:=HK1.out;have:=HK2.out;have:=HK3.out;have:=HK4.out;omega
     case rel=>exact⟨(Cp),(wrap64 (Af+1)),rq2,H',⟨by have:=HK1.out;have:=HK2.out;have:=HK3.out;have:=HK4.out;omega⟩,⟨kR Aa.out⟩,⟨bw_35⟩⟩
theorem z36_1 {p:Prop} (h:p:=by repeat(first|(with_reducible first|exact HK.out|apply Kept.alloc|apply Kept.drewN|apply Kept.drew)|exact HK.out)):p:=h
theorem z36_0 {p:Prop} (h:p:=by first|exact HK.out.1|exact(show Kept w _ (fun k_=>P0_ k_)from by repeat(first|(with_reducible first|exact HK.out|apply Kept.alloc|apply Kept.drewN|apply Kept.drew)|exact HK.out)).1):p:=h
theorem bw_36 {n:Nat}{v v':World} (h:Below n v v':=by repeat(first|(with_reducible first|exact HB.out|apply bwA|apply pbN|apply bwD)|exact HB.out)):Below n v v':=h
theorem own_len {W w1:World}{A:Option Addr}{n m c:Nat} (h:W.grownBy w1 (Value.slice A n c).ownBlock):W.grownBy w1 (Value.slice A m c).ownBlock:=by
 cases A <;> exact h
theorem own_len2 {W:World}{v:Value}{A:Option Addr}{n m c:Nat} (h:v.ownBlock=(Value.slice A n c).ownBlock∨∃b,v.ownBlock=some b∧W.heap.size≤b):v.ownBlock=(Value.slice A m c).ownBlock∨∃b,v.ownBlock=some b∧W.heap.size≤b:=by
 cases A <;> exact h
def jB.l0:Nat→List Int→Int→Int→Option (List Int)
 |0,_,_,_=>none
 |k+1,x0,x1,x5=>if x5>0 then(if 0≤(wrap64 (x5 - 1)) then(if(wrap64 (x5 - 1))<(x0.length:Int) then(if(rd x0 (wrap64 (x5 - 1)))>x1 then(jB.l0 k x0 x1 (wrap64 (x5 - 1))) else((some (([]:List Int):List Int)).bind fun y627=>(if 0≤x5 then(if x5≤(x0.length:Int) then((some (x0.drop (x5:Int).toNat:List Int)).bind fun y630=>(if y627.length+y630.length<17592186044416 then((some (y627 ++ y630:List Int)).bind fun y634=>((some (x0.take (x5:Int).toNat:List Int)).bind fun y637=>(if y637.length<17592186044416 then((some (y637 ++ [x1]:List Int)).bind fun y640=>(if y640.length+y634.length<17592186044416 then(some (y640 ++ y634)) else(none))) else(none)))) else(none))) else(none)) else(none)))) else(none)) else(none)) else((some (([]:List Int):List Int)).bind fun y646=>(if 0≤x5 then(if x5≤(x0.length:Int) then((some (x0.drop (x5:Int).toNat:List Int)).bind fun y649=>(if y646.length+y649.length<17592186044416 then((some (y646 ++ y649:List Int)).bind fun y653=>((some (x0.take (x5:Int).toNat:List Int)).bind fun y656=>(if y656.length<17592186044416 then((some (y656 ++ [x1]:List Int)).bind fun y659=>(if y659.length+y653.length<17592186044416 then(some (y659 ++ y653)) else(none))) else(none)))) else(none))) else(none)) else(none)))
def jB.f (k:Nat) (l0:List Int) (a1:Int):Option (List Int):=jB.l0 k l0 a1 (l0.length:Int)
theorem jB.calls (k:Nat) (P0_:Nat→Prop) (u9000_:Value) (l0:List Int) (a1:Int) (r:List Int) (w0 w:World) (hB:Below w0.heap.size w0 w) (Ei:Kd.R (Kd.int .i64) 3 w w0.heap.size P0_ u9000_ l0) (h:jB.f k l0 a1=some r):
  Calls Try.prog 67 #[u9000_, .int .i64 a1] w fun e w'=>∃v0_:Value,e= .returned (v0_)∧Kd.R (Kd.int .i64) 3 w' w0.heap.size (fun k_=>(P0_ k_∨w.heap.size≤k_)) v0_ r∧Below w0.heap.size w0 w'∧Kept w w' (fun k_=>P0_ k_):=by
 have Dv:=Az.mk (show Kd.R (Kd.int .i64) 3 w w0.heap.size (fun k_=>(P0_ k_∨w.heap.size≤k_)) u9000_ l0 from Kd.R_mono Ei (fun k_ hk=>(.inl hk)))
 have HK:=Az.mk (Kept.refl w (fun k_=>P0_ k_))
 have HW0:=Az.mk hB.size
 have HB:=Az.mk hB
 clear hB
 have H:(jB.l0 k l0 a1 (l0.length:Int))=some r:=h
 clear h
 have H':=Az.mk H
 clear H
 obtain⟨Br,Ap,Ej⟩:=Kd.R_slice Dv.out
 subst Ej
 go_enter Try.func67,Try.ntmps67
 go_wp2
 go_loopg [5] k (fun kq v5 w'=>∃(Aa:Int),v5= .int .i64 Aa∧Az (jB.l0 kq l0 a1 Aa=some r)∧Az (kq≤k)∧Az (Kd.R (Kd.int .i64) 3 w' w0.heap.size (fun k_=>(P0_ k_∨w.heap.size≤k_)) (.slice Br l0.length Ap) l0)∧Az (Kept w w' (fun k_=>P0_ k_))∧Az (Below w0.heap.size w0 w'))
 case atStart=>exact⟨((l0.length:Int)),rq2,H',⟨Nat.le_refl _⟩,⟨kR Dv.out⟩,⟨by repeat(first|(with_reducible first|exact HK.out|apply Kept.alloc|apply Kept.drewN|apply Kept.drew)|exact HK.out)⟩,⟨bw_36⟩⟩
 clear H'
 obtain⟨Aa,rfl,HA,HK1,Ab,HK,HB⟩:=hrel
 cases gk with
 |zero=>exact absurd HA.out (by simp[jB.l0])
 |succ k1=>
  have H:=HA.out
  clear HA
  simp only[jB.l0]at H
  by_cases c4:Aa>0
  rotate_left
  ·rw[ig c4]at H
   have Cw:decide (0<Aa)=false:=decide_eq_false c4
   clear c4
   obtain⟨As,hy⟩:∃y_:List Int,y_=(([]:List Int)):=⟨_,rfl⟩
   replace H:(if 0≤Aa then(if Aa≤(l0.length:Int) then((some (l0.drop (Aa:Int).toNat:List Int)).bind fun Al=>(if As.length+Al.length<17592186044416 then((some (As ++ Al:List Int)).bind fun Ah=>((some (l0.take (Aa:Int).toNat:List Int)).bind fun Ai=>(if Ai.length<17592186044416 then((some (Ai ++ [a1]:List Int)).bind fun Ag=>(if Ag.length+Ah.length<17592186044416 then(some (Ag ++ Ah)) else(none))) else(none)))) else(none))) else(none)) else(none))=some r:=rh
   have Bs:=Az.mk hy
   clear hy
   by_cases Ce:0≤Aa
   rotate_left
   ·rw[ig Ce]at H
    exact absurd H (by simp)
   rw[ip Ce]at H
   have Dw:=ets Ce
   have Dx:=ode Ce
   clear Ce
   by_cases Cf:Aa≤(l0.length:Int)
   rotate_left
   ·rw[ig Cf]at H
    exact absurd H (by simp)
   rw[ip Cf]at H
   have Dy:=ets Cf
   have Dz:=ode Cf
   clear Cf
   obtain⟨Al,hy⟩:∃y_:List Int,y_=(l0.drop (Aa:Int).toNat):=⟨_,rfl⟩
   replace H:(if As.length+Al.length<17592186044416 then((some (As ++ Al:List Int)).bind fun Ah=>((some (l0.take (Aa:Int).toNat:List Int)).bind fun Ai=>(if Ai.length<17592186044416 then((some (Ai ++ [a1]:List Int)).bind fun Ag=>(if Ag.length+Ah.length<17592186044416 then(some (Ag ++ Ah)) else(none))) else(none)))) else(none))=some r:=rh
   have Bb:=Az.mk hy
   clear hy
   by_cases Cp:As.length+Al.length<17592186044416
   rotate_left
   ·rw[ig Cp]at H
    exact absurd H (by simp)
   rw[ip Cp]at H
   have LMc25:=Az.mk Cp
   clear Cp
   obtain⟨Ah,hy⟩:∃y_:List Int,y_=(As ++ Al):=⟨_,rfl⟩
   replace H:((some (l0.take (Aa:Int).toNat:List Int)).bind fun Ai=>(if Ai.length<17592186044416 then((some (Ai ++ [a1]:List Int)).bind fun Ag=>(if Ag.length+Ah.length<17592186044416 then(some (Ag ++ Ah)) else(none))) else(none)))=some r:=rh
   have Cg:=Az.mk hy
   clear hy
   have Ea:=ets (od:Aa≤(l0.length:Int))
   obtain⟨Ai,hy⟩:∃y_:List Int,y_=(l0.take (Aa:Int).toNat):=⟨_,rfl⟩
   replace H:(if Ai.length<17592186044416 then((some (Ai ++ [a1]:List Int)).bind fun Ag=>(if Ag.length+Ah.length<17592186044416 then(some (Ag ++ Ah)) else(none))) else(none))=some r:=rh
   have Bt:=Az.mk hy
   clear hy
   by_cases Cq:Ai.length<17592186044416
   rotate_left
   ·rw[ig Cq]at H
    exact absurd H (by simp)
   rw[ip Cq]at H
   have LMc27:=Az.mk Cq
   clear Cq
   obtain⟨Ag,hy⟩:∃y_:List Int,y_=(Ai ++ [a1]):=⟨_,rfl⟩
   replace H:(if Ag.length+Ah.length<17592186044416 then(some (Ag ++ Ah)) else(none))=some r:=rh
   have Ch:=Az.mk hy
   clear hy
   by_cases Cs:Ag.length+Ah.length<17592186044416
   rotate_left
   ·rw[ig Cs]at H
    exact absurd H (by simp)
   rw[ip Cs]at H
   have LMc28:=Az.mk Cs
   clear Cs
   obtain⟨Da,hy⟩:∃y_:List Int,y_=(Ag ++ Ah):=⟨_,rfl⟩
   replace H:(some Da)=some r:=rh
   have Ci:=Az.mk hy
   clear hy
   obtain rfl:=Option.some.inj H
   go_wp2_with (first|((with_reducible refine gtD (N:=22) rfl ?_);refine Kd.R_lit (Kd.int .i64) _ 3 ?hg (N:=22) ?hd (xs:=([]:List Int)) (inner:=[]) (ok:=fun _=>True) (okp:=fun _=>True) ?hr ?hp (fun _ hk=>hk) trivial (Below.refl _ _) (Nat.le_refl _) (by simp) ?_;(case hd=>rfl);(case hg=>rfl);(case hr=>first|(go_simp;done)|(go_simp;rfl));(case hp=>exact(Reps.none _ _));intro Db Ga Ay hb hg_ hnew_;clear hg_ hnew_;(first|rw[←Bs.out]at Ay|(simp only[Int.reduceToNat]at Ay;rw[←Bs.out]at Ay));have Bc:=Az.mk (Kd.R_lower (Kd.R_new' (Kd.R_newM (M:=fun k_=>(P0_ k_∨w.heap.size≤k_)) Ay z36_0 (fun k_ h_=> .inr h_)) (Kd.R_lt (kR Ab.out))) (bwZ bw_36));replace Ab:=Az.mk (Kd.R_elder' (kR Ab.out) (Kd.R_base Ay) hb);replace HK:=Az.mk (Kept.below (S:=(fun k_=>P0_ k_)) z36_1 hb);replace HB:=Az.mk (bwT bw_36 hb);clear hb Ay;have Dc:(Aa:Int)≤((l0.length:Int):Int):=od;obtain⟨Ek,Bu,_,hsz31,_⟩:=info_parts info3;have hroom31:l0.length≤Ap:=(Kd.R_reads' Ab.out).2.1;have hC31:Kd.C (Kd.int .i64) _ Br l0.length l0:=(Kd.R_reads' Ab.out).2.2;have Dd:(0:Int)≤(Aa:Int):=od;have hcut31:=cut_from (P:=Try.prog) 25 3 .i64 Try.underlying25 Bu 1 hsz31 Br l0.length Ap Aa Dd Dc;have Bd:=Kd.C_drop (m:=(Aa:Int).toNat) (c:=Ap) hC31 (by omega) hroom31;obtain⟨Eb,hA31⟩:∃A1,A1=(if Ap=(Aa:Int).toNat then Br else(Br:Option Addr).map (·.add ((Aa:Int).toNat*1))):=⟨_,rfl⟩;obtain⟨El,Ca⟩:∃c1,c1=Ap - (Aa:Int).toNat:=⟨_,rfl⟩;have hy31:Al.length=l0.length - (Aa:Int).toNat:=(by rw[Bb.out,List.length_drop] <;> omega);rw[show(l0).drop (Aa:Int).toNat=Al from Bb.out.symm]at Bd;replace Bd:Kd.C (Kd.int .i64) _ Eb Al.length Al:=(by rw[hA31];exact Bd);rw[←hy31, ←hA31, ←Ca]at hcut31;have Aw:=Az.mk Bd;have Ec:=Az.mk (show Al.length≤El from by rw[hy31,Ca];exact Nat.sub_le_sub_right hroom31 _);clear Bd hC31 hroom31 Bu hsz31 Ca;have KY31:=Az.mk hy31;have KA31:=Az.mk hA31;clear hy31 hA31;have KL31:=Az.mk (show(Aa:Int).toNat≤l0.length from by omega);replace Dc:=ets Dc)|((with_reducible refine gate_builtin (b:= .append) (xs:= #[.tmp 22, .tmp 25]) rfl ?_);at_builtin;refine Kd.R_append_rows (Kd.int .i64) (w0:=w0) w0.heap.size rfl (.tmp 22) (.tmp 25) 25 3 (.int .i64 0) 8 rfl Try.underlying25 info3 rfl (by decide) (by omega) Db As Al _ _ _ (fun k_=>(P0_ k_∨w.heap.size≤k_)∧some k_≠(.slice Br l0.length Ap:Value).ownBlock) (fun _=>False) rfl rfl ?aO ?aR (fun _ _ h=>h) (fun _ h=>h.elim) ?aF ?aB ?aS ?aL ?_;(case aR=>repeat(first|exact(by repeat(first|(with_reducible exact Aw.out)|(with_reducible refine Kd.C_alloc ?_ _)|(with_reducible refine Kd.C_drewN ?_ _)|(with_reducible refine Kd.C_drew ?_)|exact Aw.out))|(with_reducible refine Kd.C_alloc ?_ _)|(with_reducible refine Kd.C_drewN ?_ _)|(with_reducible refine Kd.C_drew ?_)));(case aB=>exact bw_36);(case aF=>exact(fun k_ hk=>⟨(.inr (Nat.le_trans z36_0 hk)),Kd.fresh' (Kd.R_lt (kR Ab.out)) k_ hk⟩));(case aO=>exact(by(with_reducible repeat(first|apply Kd.R_alloc|apply Kd.R_drewN|apply Kd.R_drew));exact Kd.R_mono Bc.out (fun _ hk=>⟨hk.1.1,hk.2⟩)));(case aS=>exact(bwZ bw_36));(case aL=>have:=LMc25.out;omega);intro De Em ho hb hg hat;rw[←Cg.out]at ho;have n0_:=Az.mk (Kd.R_after (ok:=(fun k_=>(P0_ k_∨w.heap.size≤k_))) (kR Ab.out) hg hat);have n1_:=Az.mk (hb);have n2_:=Az.mk (Kept.of_grown (S:=(fun k_=>P0_ k_)) hg z36_1 (fun k_ e_=>(Bc.out.1 k_ e_).1.1));have n3_:=Az.mk ((show Kd.C (Kd.int .i64) Em Eb Al.length Al from by rw[Bb.out,KA31.out];exact Kd.C_drop (m:=(Aa:Int).toNat) (c:=Ap) ((Kd.R_reads' (Kd.R_after (ok:=(fun k_=>(P0_ k_∨w.heap.size≤k_))) (kR Ab.out) hg hat)).2.2) KL31.out ((Kd.R_reads' (Kd.R_after (ok:=(fun k_=>(P0_ k_∨w.heap.size≤k_))) (kR Ab.out) hg hat)).2.1)));have n4_:=Az.mk (ho);clear Ab;clear HB;clear HK;clear Aw;clear Bc;have Ab:=n0_;have HB:=n1_;have HK:=n2_;have Aw:=n3_;have Aj:=n4_;clear n0_ n1_ n2_ n3_ n4_;clear ho hb hg hat;have Df:(Aa:Int)≤((l0.length:Int):Int):=od;obtain⟨Eo,Bv,_,hsz33,_⟩:=info_parts info3;have hcut33:=cut_to (P:=Try.prog) 25 3 .i64 Try.underlying25 Bv Br l0.length Ap Aa (od) Df (Kd.R_reads' Ab.out).2.1;have Bo:=Kd.R_take (m:=(Aa:Int).toNat) Ab.out (by omega);have hy33:Ai.length=(Aa:Int).toNat:=(by rw[Bt.out,List.length_take];omega);rw[←Bt.out]at Bo;rw[←hy33]at Bo hcut33;clear hy33 Bv hsz33 Ab;have Bf:=Az.mk Bo;clear Bo;replace Df:=ets Df)|((with_reducible refine gate_builtin (b:= .append) (xs:= #[.tmp 29, .tmp 31]) rfl ?_);at_builtin;refine Kd.R_append (Kd.int .i64) (w0:=w0) w0.heap.size rfl (.tmp 29) (.tmp 31) 25 3 (.int .i64 0) 8 rfl Try.underlying25 info3 rfl (by decide) (by omega) (.slice Br Ai.length Ap) Ai a1 [.int .i64 a1] (fun k_=>(P0_ k_∨w.heap.size≤k_)∧some k_≠(De:Value).ownBlock) (fun _=>False) rfl rfl ?aP (fun _ hk=>hk.elim) ?aF ?aO ?aB ?aS ?aL ?_;(case aP=>exact rfl);(case aB=>exact bw_36);(case aF=>exact(fun k_ hk=>⟨(.inr (Nat.le_trans z36_0 hk)),Kd.fresh' (Kd.R_lt (kR Aj.out)) k_ hk⟩));(case aO=>exact(kR Bf.out));(case aS=>exact(bwZ bw_36));(case aL=>have:=LMc27.out;omega);intro Dg Gb ho hb hg hat;rw[←Ch.out]at ho;have n0_:=Az.mk (Kd.R_after (ok:=(fun k_=>(P0_ k_∨w.heap.size≤k_))) (kR Aj.out) (own_len hg) (own_len2 hat));have n1_:=Az.mk (hb);have n2_:=Az.mk (Kept.of_grown (S:=(fun k_=>P0_ k_)) hg z36_1 (fun k_ e_=>(Bf.out.1 k_ e_).1));have n3_:=Az.mk (ho);clear Aj;clear HB;clear HK;clear Bf;have Aj:=n0_;have HB:=n1_;have HK:=n2_;have Bh:=n3_;clear n0_ n1_ n2_ n3_;clear ho hb hg hat;obtain⟨Dh,Di,Dj⟩:=Kd.R_slice Aj.out;subst Dj)|((with_reducible refine gate_builtin (b:= .append) (xs:= #[.tmp 32, .tmp 33]) rfl ?_);at_builtin;refine Kd.R_append_rows (Kd.int .i64) (w0:=w0) w0.heap.size rfl (.tmp 32) (.tmp 33) 25 3 (.int .i64 0) 8 rfl Try.underlying25 info3 rfl (by decide) (by omega) Dg Ag Ah _ _ _ (fun k_=>(P0_ k_∨w.heap.size≤k_)∧some k_≠(.slice Dh Ah.length Di:Value).ownBlock) (fun _=>False) rfl rfl ?aO ?aR (fun _ _ h=>h) (fun _ h=>h.elim) ?aF ?aB ?aS ?aL ?_;(case aR=>exact kC (Kd.R_reads' Aj.out).2.2);(case aB=>exact bw_36);(case aF=>exact(fun k_ hk=>⟨(.inr (Nat.le_trans z36_0 hk)),Kd.fresh' (Kd.R_lt (kR Aj.out)) k_ hk⟩));(case aO=>exact(kR Bh.out));(case aS=>exact(bwZ bw_36));(case aL=>have:=LMc28.out;omega);intro Ep Gc ho hb hg hat;rw[←Ci.out]at ho;have n0_:=Az.mk (Kd.R_after (ok:=(fun k_=>(P0_ k_∨w.heap.size≤k_))) (kR Aj.out) hg hat);have n1_:=Az.mk (hb);have n2_:=Az.mk (Kept.of_grown (S:=(fun k_=>P0_ k_)) hg z36_1 (fun k_ e_=>(Bh.out.1 k_ e_).1));have n3_:=Az.mk (ho);clear Aj;clear HB;clear HK;clear Bh;have Aj:=n0_;have HB:=n1_;have HK:=n2_;have Cj:=n3_;clear n0_ n1_ n2_ n3_;clear ho hb hg hat))
   go_ret
   exact⟨_,rq1,by(with_reducible repeat(first|apply Kd.R_alloc|apply Kd.R_drewN|apply Kd.R_drew));exact Kd.R_mono Cj.out (fun _ hk=>hk.1),kB HB.out,by repeat(first|(with_reducible first|exact HK.out|apply Kept.alloc|apply Kept.drewN|apply Kept.drew)|exact HK.out)⟩
  rw[ip c4]at H
  have Cw:decide (0<Aa)=true:=ode c4
  clear c4
  obtain⟨Aq,Bi⟩:∃j_:Int,(wrap64 (Aa - 1))=j_:=⟨_,rfl⟩
  replace H:(if 0≤(Aq) then(if(Aq)<(l0.length:Int) then(if(rd l0 (Aq))>a1 then(jB.l0 k1 l0 a1 Aq) else((some (([]:List Int):List Int)).bind fun Ao=>(if 0≤Aa then(if Aa≤(l0.length:Int) then((some (l0.drop (Aa:Int).toNat:List Int)).bind fun Af=>(if Ao.length+Af.length<17592186044416 then((some (Ao ++ Af:List Int)).bind fun Ad=>((some (l0.take (Aa:Int).toNat:List Int)).bind fun Ae=>(if Ae.length<17592186044416 then((some (Ae ++ [a1]:List Int)).bind fun Ac=>(if Ac.length+Ad.length<17592186044416 then(some (Ac ++ Ad)) else(none))) else(none)))) else(none))) else(none)) else(none)))) else(none)) else(none))=some r:=by first|(rw[Bi]at H;exact H)|(simp only[Bi]at H ⊢;exact H)
  have hji5w:(IntKind.i64.wrap (Aa - 1))=Aq:=(i64_w _).trans Bi
  by_cases c6:0≤(Aq)
  rotate_left
  ·rw[ig c6]at H
   exact absurd H (by simp)
  rw[ip c6]at H
  have Er:=ode c6
  clear c6
  by_cases c7:(Aq)<(l0.length:Int)
  rotate_left
  ·rw[ig c7]at H
   exact absurd H (by simp)
  rw[ip c7]at H
  have Es:=ode c7
  clear c7
  by_cases c8:(rd l0 (Aq))>a1
  ·rw[ip c8]at H
   have Dk:decide (a1<(rd l0 (Aq)))=true:=ode c8
   clear c8
   have H':=Az.mk H
   clear H
   have Au:0≤((Aq):Int):=od
   have Av:(Aq)<(l0.length:Int):=od
   obtain⟨Am,Cc,Bp⟩:=Kd.at_int (Kd.R_reads' Ab.out).2.2 (Aq) Au Av
   cases Cc
   replace Au:=ets Au
   replace Av:=ets Av
   go_wp2
   go_roundg k1
   case measure=>have:=HK1.out;omega
   case rel=>exact⟨(Aq),(by first|rfl|(simp;done)|(simp only[←Bi] <;> (first|rfl|simp))|(simp[*];done)),H',⟨by have:=HK1.out;omega⟩,⟨kR Ab.out⟩,⟨by repeat(first|(with_reducible first|exact HK.out|apply Kept.alloc|apply Kept.drewN|apply Kept.drew)|exact HK.out)⟩,⟨bw_36⟩⟩
  rw[ig c8]at H
  have Dk:decide (a1<(rd l0 (Aq)))=false:=decide_eq_false c8
  clear c8
  obtain⟨Ao,hy⟩:∃y_:List Int,y_=(([]:List Int)):=⟨_,rfl⟩
  replace H:(if 0≤Aa then(if Aa≤(l0.length:Int) then((some (l0.drop (Aa:Int).toNat:List Int)).bind fun Af=>(if Ao.length+Af.length<17592186044416 then((some (Ao ++ Af:List Int)).bind fun Ad=>((some (l0.take (Aa:Int).toNat:List Int)).bind fun Ae=>(if Ae.length<17592186044416 then((some (Ae ++ [a1]:List Int)).bind fun Ac=>(if Ac.length+Ad.length<17592186044416 then(some (Ac ++ Ad)) else(none))) else(none)))) else(none))) else(none)) else(none))=some r:=rh
  have Bw:=Az.mk hy
  clear hy
  by_cases c9:0≤Aa
  rotate_left
  ·rw[ig c9]at H
   exact absurd H (by simp)
  rw[ip c9]at H
  have Et:=ets c9
  have Eu:=ode c9
  clear c9
  by_cases Ck:Aa≤(l0.length:Int)
  rotate_left
  ·rw[ig Ck]at H
   exact absurd H (by simp)
  rw[ip Ck]at H
  have Ed:=ets Ck
  have Ee:=ode Ck
  clear Ck
  obtain⟨Af,hy⟩:∃y_:List Int,y_=(l0.drop (Aa:Int).toNat):=⟨_,rfl⟩
  replace H:(if Ao.length+Af.length<17592186044416 then((some (Ao ++ Af:List Int)).bind fun Ad=>((some (l0.take (Aa:Int).toNat:List Int)).bind fun Ae=>(if Ae.length<17592186044416 then((some (Ae ++ [a1]:List Int)).bind fun Ac=>(if Ac.length+Ad.length<17592186044416 then(some (Ac ++ Ad)) else(none))) else(none)))) else(none))=some r:=rh
  have Bj:=Az.mk hy
  clear hy
  by_cases Ct:Ao.length+Af.length<17592186044416
  rotate_left
  ·rw[ig Ct]at H
   exact absurd H (by simp)
  rw[ip Ct]at H
  have LMc11:=Az.mk Ct
  clear Ct
  obtain⟨Ad,hy⟩:∃y_:List Int,y_=(Ao ++ Af):=⟨_,rfl⟩
  replace H:((some (l0.take (Aa:Int).toNat:List Int)).bind fun Ae=>(if Ae.length<17592186044416 then((some (Ae ++ [a1]:List Int)).bind fun Ac=>(if Ac.length+Ad.length<17592186044416 then(some (Ac ++ Ad)) else(none))) else(none)))=some r:=rh
  have Cl:=Az.mk hy
  clear hy
  have Ef:=ets (od:Aa≤(l0.length:Int))
  obtain⟨Ae,hy⟩:∃y_:List Int,y_=(l0.take (Aa:Int).toNat):=⟨_,rfl⟩
  replace H:(if Ae.length<17592186044416 then((some (Ae ++ [a1]:List Int)).bind fun Ac=>(if Ac.length+Ad.length<17592186044416 then(some (Ac ++ Ad)) else(none))) else(none))=some r:=rh
  have Bx:=Az.mk hy
  clear hy
  by_cases Cu:Ae.length<17592186044416
  rotate_left
  ·rw[ig Cu]at H
   exact absurd H (by simp)
  rw[ip Cu]at H
  have LMc13:=Az.mk Cu
  clear Cu
  obtain⟨Ac,hy⟩:∃y_:List Int,y_=(Ae ++ [a1]):=⟨_,rfl⟩
  replace H:(if Ac.length+Ad.length<17592186044416 then(some (Ac ++ Ad)) else(none))=some r:=rh
  have Cm:=Az.mk hy
  clear hy
  by_cases Cv:Ac.length+Ad.length<17592186044416
  rotate_left
  ·rw[ig Cv]at H
   exact absurd H (by simp)
  rw[ip Cv]at H
  have LMc14:=Az.mk Cv
  clear Cv
  obtain⟨Dl,hy⟩:∃y_:List Int,y_=(Ac ++ Ad):=⟨_,rfl⟩
  replace H:(some Dl)=some r:=rh
  have Cn:=Az.mk hy
  clear hy
  obtain rfl:=Option.some.inj H
  have Au:0≤((Aq):Int):=od
  have Av:(Aq)<(l0.length:Int):=od
  obtain⟨Am,Cc,Bp⟩:=Kd.at_int (Kd.R_reads' Ab.out).2.2 (Aq) Au Av
  cases Cc
  replace Au:=ets Au
  replace Av:=ets Av
  go_wp2_with (first|((with_reducible refine gtD (N:=22) rfl ?_);refine Kd.R_lit (Kd.int .i64) _ 3 ?hg (N:=22) ?hd (xs:=([]:List Int)) (inner:=[]) (ok:=fun _=>True) (okp:=fun _=>True) ?hr ?hp (fun _ hk=>hk) trivial (Below.refl _ _) (Nat.le_refl _) (by simp) ?_;(case hd=>rfl);(case hg=>rfl);(case hr=>first|(go_simp;done)|(go_simp;rfl));(case hp=>exact(Reps.none _ _));intro Dm Gd Ba hb hg_ hnew_;clear hg_ hnew_;(first|rw[←Bw.out]at Ba|(simp only[Int.reduceToNat]at Ba;rw[←Bw.out]at Ba));have Bk:=Az.mk (Kd.R_lower (Kd.R_new' (Kd.R_newM (M:=fun k_=>(P0_ k_∨w.heap.size≤k_)) Ba z36_0 (fun k_ h_=> .inr h_)) (Kd.R_lt (kR Ab.out))) (bwZ bw_36));replace Ab:=Az.mk (Kd.R_elder' (kR Ab.out) (Kd.R_base Ba) hb);replace HK:=Az.mk (Kept.below (S:=(fun k_=>P0_ k_)) z36_1 hb);replace HB:=Az.mk (bwT bw_36 hb);clear hb Ba;have Dn:(Aa:Int)≤((l0.length:Int):Int):=od;obtain⟨Ev,By,_,hsz17,_⟩:=info_parts info3;have hroom17:l0.length≤Ap:=(Kd.R_reads' Ab.out).2.1;have hC17:Kd.C (Kd.int .i64) _ (some Am) l0.length l0:=(Kd.R_reads' Ab.out).2.2;have Do:(0:Int)≤(Aa:Int):=od;have hcut17:=cut_from (P:=Try.prog) 25 3 .i64 Try.underlying25 By 1 hsz17 (some Am) l0.length Ap Aa Do Dn;have Bl:=Kd.C_drop (m:=(Aa:Int).toNat) (c:=Ap) hC17 (by omega) hroom17;obtain⟨Eg,hA17⟩:∃A1,A1=(if Ap=(Aa:Int).toNat then(some Am) else((some Am):Option Addr).map (·.add ((Aa:Int).toNat*1))):=⟨_,rfl⟩;obtain⟨Ew,Cd⟩:∃c1,c1=Ap - (Aa:Int).toNat:=⟨_,rfl⟩;have hy17:Af.length=l0.length - (Aa:Int).toNat:=(by rw[Bj.out,List.length_drop] <;> omega);rw[show(l0).drop (Aa:Int).toNat=Af from Bj.out.symm]at Bl;replace Bl:Kd.C (Kd.int .i64) _ Eg Af.length Af:=(by rw[hA17];exact Bl);rw[←hy17, ←hA17, ←Cd]at hcut17;have Ax:=Az.mk Bl;have Eh:=Az.mk (show Af.length≤Ew from by rw[hy17,Cd];exact Nat.sub_le_sub_right hroom17 _);clear Bl hC17 hroom17 By hsz17 Cd;have KY17:=Az.mk hy17;have KA17:=Az.mk hA17;clear hy17 hA17;have KL17:=Az.mk (show(Aa:Int).toNat≤l0.length from by omega);replace Dn:=ets Dn)|((with_reducible refine gate_builtin (b:= .append) (xs:= #[.tmp 22, .tmp 25]) rfl ?_);at_builtin;refine Kd.R_append_rows (Kd.int .i64) (w0:=w0) w0.heap.size rfl (.tmp 22) (.tmp 25) 25 3 (.int .i64 0) 8 rfl Try.underlying25 info3 rfl (by decide) (by omega) Dm Ao Af _ _ _ (fun k_=>(P0_ k_∨w.heap.size≤k_)∧some k_≠(.slice (some Am) l0.length Ap:Value).ownBlock) (fun _=>False) rfl rfl ?aO ?aR (fun _ _ h=>h) (fun _ h=>h.elim) ?aF ?aB ?aS ?aL ?_;(case aR=>repeat(first|exact(by repeat(first|(with_reducible exact Ax.out)|(with_reducible refine Kd.C_alloc ?_ _)|(with_reducible refine Kd.C_drewN ?_ _)|(with_reducible refine Kd.C_drew ?_)|exact Ax.out))|(with_reducible refine Kd.C_alloc ?_ _)|(with_reducible refine Kd.C_drewN ?_ _)|(with_reducible refine Kd.C_drew ?_)));(case aB=>exact bw_36);(case aF=>exact(fun k_ hk=>⟨(.inr (Nat.le_trans z36_0 hk)),Kd.fresh' (Kd.R_lt (kR Ab.out)) k_ hk⟩));(case aO=>exact(by(with_reducible repeat(first|apply Kd.R_alloc|apply Kd.R_drewN|apply Kd.R_drew));exact Kd.R_mono Bk.out (fun _ hk=>⟨hk.1.1,hk.2⟩)));(case aS=>exact(bwZ bw_36));(case aL=>have:=LMc11.out;omega);intro Dp Ex ho hb hg hat;rw[←Cl.out]at ho;have n0_:=Az.mk (Kd.R_after (ok:=(fun k_=>(P0_ k_∨w.heap.size≤k_))) (kR Ab.out) hg hat);have n1_:=Az.mk (hb);have n2_:=Az.mk (Kept.of_grown (S:=(fun k_=>P0_ k_)) hg z36_1 (fun k_ e_=>(Bk.out.1 k_ e_).1.1));have n3_:=Az.mk ((show Kd.C (Kd.int .i64) Ex Eg Af.length Af from by rw[Bj.out,KA17.out];exact Kd.C_drop (m:=(Aa:Int).toNat) (c:=Ap) ((Kd.R_reads' (Kd.R_after (ok:=(fun k_=>(P0_ k_∨w.heap.size≤k_))) (kR Ab.out) hg hat)).2.2) KL17.out ((Kd.R_reads' (Kd.R_after (ok:=(fun k_=>(P0_ k_∨w.heap.size≤k_))) (kR Ab.out) hg hat)).2.1)));have n4_:=Az.mk (ho);clear Ab;clear HB;clear HK;clear Ax;clear Bk;have Ab:=n0_;have HB:=n1_;have HK:=n2_;have Ax:=n3_;have Ak:=n4_;clear n0_ n1_ n2_ n3_ n4_;clear ho hb hg hat;have Dq:(Aa:Int)≤((l0.length:Int):Int):=od;obtain⟨Ey,Bz,_,hsz19,_⟩:=info_parts info3;have hcut19:=cut_to (P:=Try.prog) 25 3 .i64 Try.underlying25 Bz (some Am) l0.length Ap Aa (od) Dq (Kd.R_reads' Ab.out).2.1;have Bq:=Kd.R_take (m:=(Aa:Int).toNat) Ab.out (by omega);have hy19:Ae.length=(Aa:Int).toNat:=(by rw[Bx.out,List.length_take];omega);rw[←Bx.out]at Bq;rw[←hy19]at Bq hcut19;clear hy19 Bz hsz19 Ab;have Bm:=Az.mk Bq;clear Bq;replace Dq:=ets Dq)|((with_reducible refine gate_builtin (b:= .append) (xs:= #[.tmp 29, .tmp 31]) rfl ?_);at_builtin;refine Kd.R_append (Kd.int .i64) (w0:=w0) w0.heap.size rfl (.tmp 29) (.tmp 31) 25 3 (.int .i64 0) 8 rfl Try.underlying25 info3 rfl (by decide) (by omega) (.slice (some Am) Ae.length Ap) Ae a1 [.int .i64 a1] (fun k_=>(P0_ k_∨w.heap.size≤k_)∧some k_≠(Dp:Value).ownBlock) (fun _=>False) rfl rfl ?aP (fun _ hk=>hk.elim) ?aF ?aO ?aB ?aS ?aL ?_;(case aP=>exact rfl);(case aB=>exact bw_36);(case aF=>exact(fun k_ hk=>⟨(.inr (Nat.le_trans z36_0 hk)),Kd.fresh' (Kd.R_lt (kR Ak.out)) k_ hk⟩));(case aO=>exact(kR Bm.out));(case aS=>exact(bwZ bw_36));(case aL=>have:=LMc13.out;omega);intro Dr Ge ho hb hg hat;rw[←Cm.out]at ho;have n0_:=Az.mk (Kd.R_after (ok:=(fun k_=>(P0_ k_∨w.heap.size≤k_))) (kR Ak.out) hg hat);have n1_:=Az.mk (hb);have n2_:=Az.mk (Kept.of_grown (S:=(fun k_=>P0_ k_)) hg z36_1 (fun k_ e_=>(Bm.out.1 k_ e_).1));have n3_:=Az.mk (ho);clear Ak;clear HB;clear HK;clear Bm;have Ak:=n0_;have HB:=n1_;have HK:=n2_;have Bn:=n3_;clear n0_ n1_ n2_ n3_;clear ho hb hg hat;obtain⟨Ds,Dt,Du⟩:=Kd.R_slice Ak.out;subst Du)|((with_reducible refine gate_builtin (b:= .append) (xs:= #[.tmp 32, .tmp 33]) rfl ?_);at_builtin;refine Kd.R_append_rows (Kd.int .i64) (w0:=w0) w0.heap.size rfl (.tmp 32) (.tmp 33) 25 3 (.int .i64 0) 8 rfl Try.underlying25 info3 rfl (by decide) (by omega) Dr Ac Ad _ _ _ (fun k_=>(P0_ k_∨w.heap.size≤k_)∧some k_≠(.slice Ds Ad.length Dt:Value).ownBlock) (fun _=>False) rfl rfl ?aO ?aR (fun _ _ h=>h) (fun _ h=>h.elim) ?aF ?aB ?aS ?aL ?_;(case aR=>exact kC (Kd.R_reads' Ak.out).2.2);(case aB=>exact bw_36);(case aF=>exact(fun k_ hk=>⟨(.inr (Nat.le_trans z36_0 hk)),Kd.fresh' (Kd.R_lt (kR Ak.out)) k_ hk⟩));(case aO=>exact(kR Bn.out));(case aS=>exact(bwZ bw_36));(case aL=>have:=LMc14.out;omega);intro Ez Gf ho hb hg hat;rw[←Cn.out]at ho;have n0_:=Az.mk (Kd.R_after (ok:=(fun k_=>(P0_ k_∨w.heap.size≤k_))) (kR Ak.out) hg hat);have n1_:=Az.mk (hb);have n2_:=Az.mk (Kept.of_grown (S:=(fun k_=>P0_ k_)) hg z36_1 (fun k_ e_=>(Bn.out.1 k_ e_).1));have n3_:=Az.mk (ho);clear Ak;clear HB;clear HK;clear Bn;have Ak:=n0_;have HB:=n1_;have HK:=n2_;have Co:=n3_;clear n0_ n1_ n2_ n3_;clear ho hb hg hat))
  go_ret
  exact⟨_,by first|rfl|(simp[eWn,eWs] <;> rfl)|(simp only[←Bi];first|rfl|(simp[eWn,eWs] <;> rfl))|(simp[*,eWn,eWs] <;> rfl),by(with_reducible repeat(first|apply Kd.R_alloc|apply Kd.R_drewN|apply Kd.R_drew));exact Kd.R_mono Co.out (fun _ hk=>hk.1),kB HB.out,by repeat(first|(with_reducible first|exact HK.out|apply Kept.alloc|apply Kept.drewN|apply Kept.drew)|exact HK.out)⟩
theorem bw_37 {n:Nat}{v v':World} (h:Below n v v':=by repeat(first|(with_reducible first|exact HB.out|apply bwA|apply pbN|apply bwD)|exact HB.out)):Below n v v':=h
theorem ln_37 {P:Prop} (h:P:=by(try simp only[List.map_toArray,List.map_cons,List.map_nil]);first|done|rfl|(simp only[List.length_drop,List.length_take];rfl)):P:=h
mutual
def fN.l0:Nat→List Int→List Int→List Int→Int→Option (List Int)
 |0,_,_,_,_=>none
 |k+1,x5,x6,x7,x8=>if x8<(x6.length:Int) then((fS.f k x6 x8).bind fun t675=>((fS.f k x6 x8).bind fun t676=>(if 0≤t676 then(if t676<(x7.length:Int) then(if 0≤t675 then(if t675<(x7.length:Int) then(fN.l0 k x5 x6 (x7.set (t675:Int).toNat (wrap64 ((rd x7 t676)+1))) (wrap64 (x8+1))) else(none)) else(none)) else(none)) else(none)))) else(fN.l1 k x5 x7 0)
def fN.l1:Nat→List Int→List Int→Int→Option (List Int)
 |0,_,_,_=>none
 |k+1,x5,x7,x9=>if x9<(x7.length:Int) then(if 0≤x9 then(if(rd x7 x9)>0 then((jB.f k x5 (rd x7 x9)).bind fun t681=>(fN.l1 k t681 x7 (wrap64 (x9+1)))) else(fN.l1 k x5 x7 (wrap64 (x9+1)))) else(none)) else(some x5)
end
def fN.f (k:Nat) (l0:List (List Int)) (l1:List Int):Option (List Int):=(some (([]:List Int):List Int)).bind fun y665=>((fL.f k l0 l1).bind fun t668=>(if t668=true then((fE.f k l0 l1).bind fun t669=>(if 0≤(t669.length:Int) then(if((t669.length:Int):Int).toNat≤35184372088832 then(fN.l0 k y665 t669 (List.replicate ((t669.length:Int):Int).toNat 0) 0) else(none)) else(none))) else(some y665)))
theorem fN.calls (k:Nat) (A0:Option Addr) (c0:Nat) (l0:List (List Int)) (A1:Option Addr) (c1:Nat) (l1:List Int) (r:List Int) (w:World) (Dy:Kd.C (Kd.slice 3 (Kd.int .i64)) w A0 l0.length l0) (Dz:l0.length≤c0) (Ea:Kd.C (Kd.int .i64) w A1 l1.length l1) (Eb:l1.length≤c1) (h:fN.f k l0 l1=some r):
  Calls Try.prog 22 #[.slice A0 l0.length c0, .slice A1 l1.length c1] w fun e w'=>∃v0_:Value,e= .returned (v0_)∧Kd.R (Kd.int .i64) 3 w' w.heap.size (fun _=>True) v0_ r∧Below w.heap.size w w':=by
 have Di:=Az.mk Dy
 have Dj:=Az.mk Dz
 clear Dy Dz
 have HR1:=Az.mk Ea
 have Dk:=Az.mk Eb
 clear Ea Eb
 have HB:=Az.mk (Below.refl w.heap.size w)
 have H:((some (([]:List Int):List Int)).bind fun Al=>((fL.f k l0 l1).bind fun Bh=>(if Bh=true then((fE.f k l0 l1).bind fun Aa=>(if 0≤(Aa.length:Int) then(if((Aa.length:Int):Int).toNat≤35184372088832 then(fN.l0 k Al Aa (List.replicate ((Aa.length:Int):Int).toNat 0) 0) else(none)) else(none))) else(some Al))))=some r:=h
 clear h
 obtain⟨Al,hy⟩:∃y_:List Int,y_=(([]:List Int)):=⟨_,rfl⟩
 replace H:((fL.f k l0 l1).bind fun Bh=>(if Bh=true then((fE.f k l0 l1).bind fun Aa=>(if 0≤(Aa.length:Int) then(if((Aa.length:Int):Int).toNat≤35184372088832 then(fN.l0 k Al Aa (List.replicate ((Aa.length:Int):Int).toNat 0) 0) else(none)) else(none))) else(some Al)))=some r:=rh
 have Bd:=Az.mk hy
 clear hy
 replace H:=bez H
 obtain⟨Bh,A3,H⟩:=H
 try dsimp only at H
 by_cases c4:Bh=true
 rotate_left
 ·replace c4:=Bool.eq_false_iff.mpr c4
  subst c4
  rw[ig ff]at H
  obtain rfl:=Option.some.inj H
  go_enter Try.func22,Try.ntmps22
  go_wp2_with (first|((with_reducible refine gtD (N:=10) rfl ?_);refine Kd.R_lit (Kd.int .i64) _ 3 ?hg (N:=10) ?hd (xs:=([]:List Int)) (inner:=[]) (ok:=fun _=>True) (okp:=fun _=>True) ?hr ?hp (fun _ hk=>hk) trivial (Below.refl _ _) (Nat.le_refl _) (by simp) ?_;(case hd=>rfl);(case hg=>rfl);(case hr=>first|(go_simp;done)|(go_simp;rfl));(case hp=>exact(Reps.none _ _));intro Am Et Bi hb hg_ hnew_;clear hg_ hnew_;(first|rw[←Bd.out]at Bi|(simp only[Int.reduceToNat]at Bi;rw[←Bd.out]at Bi));have Ae:=Az.mk (Kd.R_lower Bi (bwZ bw_37));replace HB:=Az.mk (bwT bw_37 hb);clear hb Bi)|((with_reducible refine gtC (f:=27) rfl ?_);refine clz Try.func27 (some 13) #[.slice A0 l0.length c0, .slice A1 l1.length c1] ?_;(with_reducible refine(fL.calls k _ _ l0 _ _ l1 false _ ?Af ?Ag ?Au ?Av A3.out).mono ?_);(case Af=>exact kC (Kd.C_below Di.out HB.out));(case Ag=>exact Dj.out);(case Au=>exact kC (Kd.C_below HR1.out HB.out));(case Av=>exact Dk.out);rintro e Eu ⟨rfl,hb⟩;refine⟨_,rfl,?_⟩;replace Ae:=Az.mk (Kd.R_below (kR Ae.out) hb);replace HB:=Az.mk (bwT bw_37 hb);(try clear hb)))
  go_ret
  exact⟨_,rq1,kR Ae.out,bw_37⟩
 subst c4
 rw[ip rfl]at H
 replace H:=bez H
 obtain⟨Aa,A5,H⟩:=H
 try dsimp only at H
 by_cases c6:0≤(Aa.length:Int)
 rotate_left
 ·rw[ig c6]at H
  exact absurd H (by simp)
 rw[ip c6]at H
 have Cd:=ets c6
 have Ce:=ode c6
 clear c6
 by_cases c7:((Aa.length:Int):Int).toNat≤35184372088832
 rotate_left
 ·rw[ig c7]at H
  exact absurd H (by simp)
 rw[ip c7]at H
 have Cf:=ets c7
 have Cg:=ode c7
 clear c7
 obtain⟨Ch,hy⟩:∃y_:List Int,y_=(List.replicate ((Aa.length:Int):Int).toNat 0):=⟨_,rfl⟩
 replace H:(fN.l0 k Al Aa Ch 0)=some r:=rh
 have Bo:=Az.mk hy
 clear hy
 have H':=Az.mk H
 clear H
 go_enter Try.func22,Try.ntmps22
 go_wp2_with (first|((with_reducible refine gtD (N:=10) rfl ?_);refine Kd.R_lit (Kd.int .i64) _ 3 ?hg (N:=10) ?hd (xs:=([]:List Int)) (inner:=[]) (ok:=fun _=>True) (okp:=fun _=>True) ?hr ?hp (fun _ hk=>hk) trivial (Below.refl _ _) (Nat.le_refl _) (by simp) ?_;(case hd=>rfl);(case hg=>rfl);(case hr=>first|(go_simp;done)|(go_simp;rfl));(case hp=>exact(Reps.none _ _));intro Am w8 Ci hb hg_ hnew_;clear hg_ hnew_;(first|rw[←Bd.out]at Ci|(simp only[Int.reduceToNat]at Ci;rw[←Bd.out]at Ci));have Ae:=Az.mk (Kd.R_lower Ci (bwZ bw_37));replace HB:=Az.mk (bwT bw_37 hb);clear hb Ci)|((with_reducible refine gtC (f:=27) rfl ?_);refine clz Try.func27 (some 13) #[.slice A0 l0.length c0, .slice A1 l1.length c1] ?_;(with_reducible refine(fL.calls k _ _ l0 _ _ l1 true _ ?Af ?Ag ?Au ?Av A3.out).mono ?_);(case Af=>exact kC (Kd.C_below Di.out HB.out));(case Ag=>exact Dj.out);(case Au=>exact kC (Kd.C_below HR1.out HB.out));(case Av=>exact Dk.out);rintro e Ev ⟨rfl,hb⟩;refine⟨_,rfl,?_⟩;replace Ae:=Az.mk (Kd.R_below (kR Ae.out) hb);replace HB:=Az.mk (bwT bw_37 hb);(try clear hb))|((with_reducible refine gtC (f:=65) rfl ?_);refine clz Try.func65 (some 18) #[.slice A0 l0.length c0, .slice A1 l1.length c1] ?_;(with_reducible refine(fE.calls k _ _ l0 _ _ l1 Aa _ ?Af ?Ag ?Au ?Av A5.out).mono ?_);(case Af=>exact kC (Kd.C_below Di.out HB.out));(case Ag=>exact Dj.out);(case Au=>exact kC (Kd.C_below HR1.out HB.out));(case Av=>exact Dk.out);rintro e Ew ⟨Ee,rfl,Bq,hb⟩;refine⟨_,rfl,?_⟩;have Aw:=Az.mk (Kd.R_lower (Kd.R_new' Bq (Kd.R_lt (kR Ae.out))) (bwZ bw_37));replace Ae:=Az.mk (Kd.R_elder' (kR Ae.out) (Kd.R_base Bq) hb);replace HB:=Az.mk (bwT bw_37 hb);(try clear hb);(try clear Bq);obtain⟨Ai,Aj,Dl⟩:=Kd.R_slice Aw.out;subst Dl)|((with_reducible refine gtD (N:=21) rfl ?_);refine Kd.R_make (Kd.int .i64) _ 3 rfl (N:=21) rfl 25 _ _ rfl (Aa.length:Int) rfl rfl Try.underlying25 (.int .i64 0) 8 info3 rfl (by decide) (by omega) 0 (ok:=fun _=>True) (okp:=fun _=>True) rfl (fun _ hk=>hk) trivial (od) (Nat.le_trans (Nat.mul_le_mul_right _ (od:(Aa.length:Int).toNat≤35184372088832)) (by omega)) (Below.refl _ _) (Nat.le_refl _) ?_;intro Ao Ex Ay hb hg_ hnew_;clear hg_ hnew_;(first|rw[←Bo.out]at Ay|(simp only[Int.reduceToNat]at Ay;rw[←Bo.out]at Ay));have Cj:=Az.mk (Kd.R_lower (Kd.R_new' (Kd.R_new' Ay (Kd.R_lt (kR Ae.out))) (Kd.R_lt (kR Aw.out))) (bwZ bw_37));replace Ae:=Az.mk (Kd.R_elder' (kR Ae.out) (Kd.R_base Ay) hb);replace Aw:=Az.mk (Kd.R_elder' (kR Aw.out) (Kd.R_base Ay) hb);replace HB:=Az.mk (bwT bw_37 hb);clear hb Ay))
 go_loopg [8] k (fun kq v8 w'=>∃(Ab:List Int) (Ap:Int),v8= .int .i64 Ap∧Az (fN.l0 kq Al Aa Ab Ap=some r)∧Az (kq≤k)∧Az (Kd.R (Kd.int .i64) 3 w' w.heap.size (fun k_=>some k_≠((.slice Ai Aa.length Aj):Value).ownBlock∧some k_≠(Ao:Value).ownBlock) Am Al)∧Az (Kd.R (Kd.int .i64) 3 w' w.heap.size (fun k_=>some k_≠(Am:Value).ownBlock∧some k_≠(Ao:Value).ownBlock) (.slice Ai Aa.length Aj) Aa)∧Az (Kd.R (Kd.int .i64) 3 w' w.heap.size (fun k_=>some k_≠(Am:Value).ownBlock∧some k_≠((.slice Ai Aa.length Aj):Value).ownBlock) Ao Ab)∧Az (Below w.heap.size w w'))
 case atStart=>exact⟨(Ch),(0),rq2,H',⟨Nat.le_refl _⟩,⟨by(with_reducible repeat(first|apply Kd.R_alloc|apply Kd.R_drewN|apply Kd.R_drew));exact Kd.R_mono Ae.out (fun _ hk=>⟨hk.1.2,hk.2⟩)⟩,⟨by(with_reducible repeat(first|apply Kd.R_alloc|apply Kd.R_drewN|apply Kd.R_drew));exact Kd.R_mono Aw.out (fun _ hk=>⟨hk.1.2,hk.2⟩)⟩,⟨by(with_reducible repeat(first|apply Kd.R_alloc|apply Kd.R_drewN|apply Kd.R_drew));exact Kd.R_mono Cj.out (fun _ hk=>⟨hk.1.2,hk.2⟩)⟩,⟨bw_37⟩⟩
 clear H'
 try clear c1
 try clear c4
 try clear c6
 try clear Cd
 try clear Ce
 try clear c7
 try clear Cf
 try clear Cg
 obtain⟨Ab,Ap,rfl,HA,HK1,Ah,Ak,Ac,HB⟩:=hrel
 cases gk with
 |zero=>exact absurd HA.out (by simp[fN.l0])
 |succ k1=>
  have H:=HA.out
  clear HA
  simp only[fN.l0]at H
  by_cases Br:Ap<(Aa.length:Int)
  ·rw[ip Br]at H
   have Bp:=ode Br
   clear Br
   replace H:=bez H
   obtain⟨Aq,Ef,H⟩:=H
   try dsimp only at H
   replace H:=bez H
   obtain⟨As,Eg,H⟩:=H
   try dsimp only at H
   by_cases Ck:0≤As
   rotate_left
   ·rw[ig Ck]at H
    exact absurd H (by simp)
   rw[ip Ck]at H
   have Cl:=ode Ck
   clear Ck
   by_cases Cm:As<(Ab.length:Int)
   rotate_left
   ·rw[ig Cm]at H
    exact absurd H (by simp)
   rw[ip Cm]at H
   have Cn:=ode Cm
   clear Cm
   by_cases Co:0≤Aq
   rotate_left
   ·rw[ig Co]at H
    exact absurd H (by simp)
   rw[ip Co]at H
   have Cp:=ode Co
   clear Co
   by_cases Cq:Aq<(Ab.length:Int)
   rotate_left
   ·rw[ig Cq]at H
    exact absurd H (by simp)
   rw[ip Cq]at H
   have Cs:=ode Cq
   clear Cq
   obtain⟨Bs,hy⟩:∃y_:List Int,y_=(Ab.set (Aq:Int).toNat (wrap64 ((rd Ab As)+1))):=⟨_,rfl⟩
   replace H:(fN.l0 k1 Al Aa Bs (wrap64 (Ap+1)))=some r:=rh
   have Ct:=Az.mk hy
   clear hy
   have H':=Az.mk H
   clear H
   go_wp2_with (first|((with_reducible refine gtC (f:=66) rfl ?_);refine clz Try.func66 (some 31) #[.slice Ai Aa.length Aj, .int .i64 Ap] ?_;(with_reducible refine(fS.calls k1 _ _ Aa Ap Aq _ ?Af ?Ag Ef.out).mono ?_);(case Af=>exact kC (Kd.R_reads' Ak.out).2.2);(case Ag=>exact(Kd.R_reads' Ak.out).2.1);rintro e w' ⟨rfl,⟨nd,rfl⟩⟩;refine⟨_,rfl,?_⟩;(try(rw[drewN_self wr];generalize hq_:World.drewN wr _=wr;have n0_:Az (Kd.R (Kd.int .i64) 3 wr w.heap.size (fun k_=>some k_≠(.slice Ai Aa.length Aj:Value).ownBlock∧some k_≠(Ao:Value).ownBlock) Am Al):=⟨by rw[←hq_];exact(kR Ah.out)⟩;have n1_:Az (Kd.R (Kd.int .i64) 3 wr w.heap.size (fun k_=>some k_≠(Am:Value).ownBlock∧some k_≠(Ao:Value).ownBlock) (.slice Ai Aa.length Aj) Aa):=⟨by rw[←hq_];exact(kR Ak.out)⟩;have n2_:Az (Kd.R (Kd.int .i64) 3 wr w.heap.size (fun k_=>some k_≠(Am:Value).ownBlock∧some k_≠(.slice Ai Aa.length Aj:Value).ownBlock) Ao Ab):=⟨by rw[←hq_];exact(kR Ac.out)⟩;have n3_:Az (Below w.heap.size w wr):=⟨by rw[←hq_];exact bw_37⟩;clear Ah Ak Ac HB hq_;have Ah:=n0_;have Ak:=n1_;have Ac:=n2_;have HB:=n3_;clear n0_ n1_ n2_ n3_)))|((with_reducible refine gtC (f:=66) rfl ?_);refine clz Try.func66 (some 35) #[.slice Ai Aa.length Aj, .int .i64 Ap] ?_;(with_reducible refine(fS.calls k1 _ _ Aa Ap As _ ?Af ?Ag Eg.out).mono ?_);(case Af=>exact kC (Kd.R_reads' Ak.out).2.2);(case Ag=>exact(Kd.R_reads' Ak.out).2.1);rintro e w' ⟨rfl,⟨nd,rfl⟩⟩;refine⟨_,rfl,?_⟩;(try(rw[drewN_self wr];generalize hq_:World.drewN wr _=wr;have n0_:Az (Kd.R (Kd.int .i64) 3 wr w.heap.size (fun k_=>some k_≠(.slice Ai Aa.length Aj:Value).ownBlock∧some k_≠(Ao:Value).ownBlock) Am Al):=⟨by rw[←hq_];exact(kR Ah.out)⟩;have n1_:Az (Kd.R (Kd.int .i64) 3 wr w.heap.size (fun k_=>some k_≠(Am:Value).ownBlock∧some k_≠(Ao:Value).ownBlock) (.slice Ai Aa.length Aj) Aa):=⟨by rw[←hq_];exact(kR Ak.out)⟩;have n2_:Az (Kd.R (Kd.int .i64) 3 wr w.heap.size (fun k_=>some k_≠(Am:Value).ownBlock∧some k_≠(.slice Ai Aa.length Aj:Value).ownBlock) Ao Ab):=⟨by rw[←hq_];exact(kR Ac.out)⟩;have n3_:Az (Below w.heap.size w wr):=⟨by rw[←hq_];exact bw_37⟩;clear Ah Ak Ac HB hq_;have Ah:=n0_;have Ak:=n1_;have Ac:=n2_;have HB:=n3_;clear n0_ n1_ n2_ n3_));obtain⟨Eh,Bj,Dm⟩:=Kd.R_slice Ac.out;subst Dm;have Bl:0≤(As:Int):=od;have Bm:As<(Ab.length:Int):=od;obtain⟨Ec,Dn,Bf⟩:=Kd.at_int (Kd.R_reads' Ac.out).2.2 As Bl Bm;cases Dn;replace Bl:=ets Bl;replace Bm:=ets Bm;have Cu:0≤(Aq:Int):=od;have Cv:(Aq:Int)<((Ab.length:Int):Int):=od;obtain⟨Ba,Ei,Cw,Da,gl22,Ej,HG22⟩:=Kd.R_form Ac.out (by omega);(first|cases Cw|(injection Cw with ea_ en_ ec_;(first|subst ea_|(injection ea_ with ea_;subst ea_));subst ec_;clear en_));have Do:=Az.mk Da;have Ek:=Az.mk HG22;clear Da gl22 HG22;(first|simp only[add_plain]at Bf|skip);obtain⟨Bt,Dp⟩:=Kd.R_celln 0 Ac.out (Aq:Int) Cu Cv;replace Cu:=ets Cu;replace Cv:=ets Cv;obtain⟨hy24_,hz24_⟩:=Kd.R_celln 0 Ac.out (Aq:Int) (od) (od);have Bu:=Kd.R_putg Ac.out (Aq:Int) (wrap64 ((rd Ab As)+1)))|((with_reducible refine gate_store (t:=3) (p:=39) rfl ?_);refine store_event (t:=3) (p:=39) (v:=?vo_w25) (w1:=(wr.setCell ⟨Ba,(Aq:Int).toNat,none⟩ (.int .i64 (wrap64 ((rd Ab As)+1))))) ?hg ?ho ?hn ?hr ?_;(case ho=>rfl);(case hg=>rfl);(case hn=>rfl);(case hr=>first|(go_simp;done)|(go_simp;rfl));intro Dq hw;have hg:wr.grownBy Dq (some Ba):=(by rw[hw];exact Bu.2);have hp_:Kd.R (Kd.int .i64) 3 Dq w.heap.size (fun k_=>some k_≠(Am:Value).ownBlock∧some k_≠(.slice Ai Aa.length Aj:Value).ownBlock) (.slice (some ⟨Ba,0,none⟩) Ab.length Bj) Bs:=(by rw[hw,Ct.out];exact Bu.1);clear Bu;replace Ah:=Az.mk (Kd.R_after (v:=(.slice (some ⟨Ba,0,none⟩) Ab.length Bj)) (v1:=(.slice (some ⟨Ba,0,none⟩) Ab.length Bj)) (ok:=(fun k_=>some k_≠(.slice Ai Aa.length Aj:Value).ownBlock)) (kR Ah.out) hg (.inl rfl));replace Ak:=Az.mk (Kd.R_after (v:=(.slice (some ⟨Ba,0,none⟩) Ab.length Bj)) (v1:=(.slice (some ⟨Ba,0,none⟩) Ab.length Bj)) (ok:=(fun k_=>some k_≠(Am:Value).ownBlock)) (kR Ak.out) hg (.inl rfl));replace Ac:=Az.mk (hp_);replace HB:=Az.mk ((by rw[hw];exact bwS (HB.out) Do.out:Below w.heap.size w Dq));clear hg hw hp_))
   go_roundg k1
   case measure=>have:=HK1.out;omega
   case rel=>exact⟨(Bs),(wrap64 (Ap+1)),rq2,H',⟨by have:=HK1.out;omega⟩,⟨kR Ah.out⟩,⟨kR Ak.out⟩,⟨kR Ac.out⟩,⟨bw_37⟩⟩
  rw[ig Br]at H
  have Bp:=decide_eq_false Br
  clear Br
  have H':=Az.mk H
  clear H
  go_wp2
  go_loopg [5,9] k1 (fun kq v5 v9 w'=>∃(Ax:List Int) (Ad:Int),v9= .int .i64 Ad∧Az (fN.l1 kq Ax Ab Ad=some r)∧Az (kq≤k1)∧Az (Kd.R (Kd.int .i64) 3 w' w.heap.size (fun k_=>some k_≠(Ao:Value).ownBlock) v5 Ax)∧Az (Kd.R (Kd.int .i64) 3 w' w.heap.size (fun k_=>some k_≠(v5:Value).ownBlock) Ao Ab)∧Az (Below w.heap.size w w'))
  case atStart=>exact⟨(Al),(0),rq2,H',⟨Nat.le_refl _⟩,⟨by(with_reducible repeat(first|apply Kd.R_alloc|apply Kd.R_drewN|apply Kd.R_drew));exact Kd.R_mono Ah.out (fun _ hk=>hk.2)⟩,⟨by(with_reducible repeat(first|apply Kd.R_alloc|apply Kd.R_drewN|apply Kd.R_drew));exact Kd.R_mono Ac.out (fun _ hk=>hk.1)⟩,⟨bw_37⟩⟩
  clear H'
  try clear c1
  try clear c4
  try clear c6
  try clear Cd
  try clear Ce
  try clear c7
  try clear Cf
  try clear Cg
  try clear Br
  try clear Bp
  try clear Ck
  try clear Cl
  try clear Cm
  try clear Cn
  try clear Co
  try clear Cp
  try clear Cq
  try clear Cs
  try clear Cu
  try clear Cv
  try clear Bt
  try clear Bf
  try clear Cu
  try clear Bl
  try clear Cv
  try clear Bm
  obtain⟨Ax,Ad,rfl,HA,HK2,Ah,Ac,HB⟩:=hrel
  cases gk with
  |zero=>exact absurd HA.out (by simp[fN.l1])
  |succ k2=>
   have H:=HA.out
   clear HA
   simp only[fN.l1]at H
   by_cases Ca:Ad<(Ab.length:Int)
   rotate_left
   ·rw[ig Ca]at H
    have Db:=decide_eq_false Ca
    clear Ca
    obtain rfl:=Option.some.inj H
    obtain⟨El,Em,Dr⟩:=Kd.R_slice Ac.out
    subst Dr
    go_wp2
    go_ret
    exact⟨_,rq1,by(with_reducible repeat(first|apply Kd.R_alloc|apply Kd.R_drewN|apply Kd.R_drew));exact Kd.R_mono Ah.out (fun _ hk=>trivial),bw_37⟩
   rw[ip Ca]at H
   have Db:=ode Ca
   clear Ca
   by_cases Dg:0≤Ad
   rotate_left
   ·rw[ig Dg]at H
    exact absurd H (by simp)
   rw[ip Dg]at H
   have Ed:=ode Dg
   clear Dg
   by_cases Cc:(rd Ab Ad)>0
   rotate_left
   ·rw[ig Cc]at H
    have Dc:decide (0<(rd Ab Ad))=false:=decide_eq_false Cc
    clear Cc
    have H':=Az.mk H
    clear H
    obtain⟨Eo,Ep,Ds⟩:=Kd.R_slice Ac.out
    subst Ds
    have Bb:0≤(Ad:Int):=od
    have Bc:Ad<(Ab.length:Int):=od
    obtain⟨Bk,Bv,Bn⟩:=Kd.at_int (Kd.R_reads' Ac.out).2.2 Ad Bb Bc
    cases Bv
    replace Bb:=ets Bb
    replace Bc:=ets Bc
    go_wp2
    go_roundg k2
    case measure=>have:=HK1.out;have:=HK2.out;omega
    case rel=>exact⟨(Ax),(wrap64 (Ad+1)),rq2,H',⟨by have:=HK1.out;have:=HK2.out;omega⟩,⟨kR Ah.out⟩,⟨kR Ac.out⟩,⟨bw_37⟩⟩
   rw[ip Cc]at H
   have Dc:decide (0<(rd Ab Ad))=true:=ode Cc
   clear Cc
   replace H:=bez H
   obtain⟨Dd,Er,H⟩:=H
   try dsimp only at H
   have H':=Az.mk H
   clear H
   obtain⟨Es,Dt,Du⟩:=Kd.R_slice Ac.out
   subst Du
   have Bb:0≤(Ad:Int):=od
   have Bc:Ad<(Ab.length:Int):=od
   obtain⟨Bk,Bv,Bn⟩:=Kd.at_int (Kd.R_reads' Ac.out).2.2 Ad Bb Bc
   cases Bv
   replace Bb:=ets Bb
   replace Bc:=ets Bc
   have Bw:0≤(Ad:Int):=od
   have Bx:Ad<(Ab.length:Int):=od
   obtain⟨De,Dv,Dh⟩:=Kd.at_int (Kd.R_reads' Ac.out).2.2 Ad Bw Bx
   obtain rfl:Bk=De:=(by injection Dv)
   replace Bw:=ets Bw
   replace Bx:=ets Bx
   obtain⟨By,Bz,Dw⟩:=Kd.R_slice Ah.out
   subst Dw
   go_wp2_with (first|((with_reducible refine gtC (f:=67) rfl ?_);refine clz Try.func67 (some 56) #[.slice By Ax.length Bz, .int .i64 (rd Ab Ad)] ?_;(with_reducible refine(jB.calls k2 (fun k_=>some k_=(.slice By Ax.length Bz:Value).ownBlock) (.slice By Ax.length Bz) Ax (rd Ab Ad) Dd w _ ?Af ?Ag Er.out).mono ?_);(case Af=>exact bw_37);(case Ag=>exact Kd.R_tight rfl Ah.out);rintro e Ey ⟨Dx,rfl,Bq,hb,hkp⟩;refine⟨_,rfl,?_⟩;have n0_:=Az.mk (Kd.R_mono (ok':=fun k_=>some k_≠(Dx:Value).ownBlock) (Kd.R_keptB (Ac.out) hkp (fun k_ hk_ hs_=>(hk_) hs_)) (fun k_ hk_=>fun e_=>Or.elim (Bq.1 k_ e_.symm) (fun hs_=>hk_.2.1 hs_) (fun hn_=>Nat.not_le.2 hk_.2.2 hn_)));have n1_:=Az.mk (Kd.R_mono (ok':=fun k_=>some k_≠(.slice (some Bk) Ab.length Dt:Value).ownBlock) Bq (fun k_ hk_=>Or.elim hk_ (fun hs_=>fun e_=>(((Ac.out).1 k_ e_.symm)) hs_) (fun hn_=>(Kd.fresh' (Kd.R_lt (kR Ac.out)) k_ hn_))));have n2_:=Az.mk (hb);clear Ac;clear HB;clear Ah;have Ac:=n0_;have Df:=n1_;have HB:=n2_;clear n0_ n1_ n2_;(try clear hb);(try clear hkp);(try clear Bq)))
   go_roundg k2
   case measure=>have:=HK1.out;have:=HK2.out;omega
   case rel=>exact⟨(Dd),(wrap64 (Ad+1)),rq2,H',⟨by have:=HK1.out;have:=HK2.out;omega⟩,⟨kR Df.out⟩,⟨kR Ac.out⟩,⟨bw_37⟩⟩
theorem bw_38 {n:Nat}{v v':World} (h:Below n v v':=by repeat(first|(with_reducible first|exact HB.out|apply bwA|apply pbN|apply bwD)|exact HB.out)):Below n v v':=h
theorem ln_38 {P:Prop} (h:P:=by(try simp only[List.map_toArray,List.map_cons,List.map_nil]);first|done|rfl|(simp only[List.length_drop,List.length_take];rfl)):P:=h
def gO.l0:Nat→List (List Int)→List (List Int)→Int→Option (Bool)
 |0,_,_,_=>none
 |k+1,x0,x1,x5=>if x5<(x0.length:Int) then(if 0≤x5 then(if x5<(x1.length:Int) then((fZ.f k (rd_L1 x0 x5) (rd_L1 x1 x5)).bind fun t686=>(if t686=true then(gO.l0 k x0 x1 (wrap64 (x5+1))) else(some false))) else(none)) else(none)) else(some true)
def gO.f (k:Nat) (l0:List (List Int)) (l1:List (List Int)):Option (Bool):=if(l0.length:Int)=(l1.length:Int) then(gO.l0 k l0 l1 0) else(some false)
theorem gO.calls (k:Nat) (A0:Option Addr) (c0:Nat) (l0:List (List Int)) (A1:Option Addr) (c1:Nat) (l1:List (List Int)) (r:Bool) (w:World) (Bm:Kd.C (Kd.slice 3 (Kd.int .i64)) w A0 l0.length l0) (Bn:l0.length≤c0) (Bo:Kd.C (Kd.slice 3 (Kd.int .i64)) w A1 l1.length l1) (Bp:l1.length≤c1) (h:gO.f k l0 l1=some r):
  Calls Try.prog 23 #[.slice A0 l0.length c0, .slice A1 l1.length c1] w fun e w'=>e= .returned (.bool r)∧Drawn0 w w':=by
 have Bq:=Az.mk Bm
 have Bt:=Az.mk Bn
 clear Bm Bn
 have HR1:=Az.mk Bo
 have Bu:=Az.mk Bp
 clear Bo Bp
 have H:(if(l0.length:Int)=(l1.length:Int) then(gO.l0 k l0 l1 0) else(some false))=some r:=h
 clear h
 by_cases c3:(l0.length:Int)=(l1.length:Int)
 rotate_left
 ·rw[ig c3]at H
  have Bd:=beq_eq_false_iff_ne.mpr c3
  have Bf:=bne_iff_ne.mpr c3
  have Bh:(l0.length== l1.length)=false:=by first|simpa using c3|(simp at c3 ⊢;omega)
  obtain rfl:=Option.some.inj H
  go_enter Try.func23,Try.ntmps23
  go_wp2
  repeat(go_quiet (fail);try go_wp2)
  go_ret
  exact⟨rq2,kd⟩
 rw[ip c3]at H
 have Bd:=beq_iff_eq.mpr c3
 have Bf:=bne_eq_false_iff_eq.mpr c3
 have Bh:(l0.length== l1.length)=true:=by first|simpa using c3|(simp at c3 ⊢;omega)
 clear c3
 have H':=Az.mk H
 clear H
 go_enter Try.func23,Try.ntmps23
 go_wp2
 repeat(go_quiet (fail);try go_wp2)
 go_loopg [5] k (fun kq v5 w'=>∃(Aa:Int),v5= .int .i64 Aa∧Az (gO.l0 kq l0 l1 Aa=some r)∧Az (kq≤k)∧Drawn0 w w')
 case atStart=>exact⟨(0),rq2,H',⟨Nat.le_refl _⟩,kd⟩
 clear H'
 try clear c1
 try clear c3
 try clear Bd
 try clear Bf
 try clear Bh
 obtain⟨Aa,rfl,HA,HK1,⟨m1,rfl⟩⟩:=hrel
 cases gk with
 |zero=>exact absurd HA.out (by simp[gO.l0])
 |succ k1=>
  have H:=HA.out
  clear HA
  simp only[gO.l0]at H
  by_cases c4:Aa<(l0.length:Int)
  rotate_left
  ·rw[ig c4]at H
   have Bk:=decide_eq_false c4
   clear c4
   obtain rfl:=Option.some.inj H
   go_wp2
   repeat(go_quiet (fail);try go_wp2)
   go_ret
   exact⟨rq2,kd⟩
  rw[ip c4]at H
  have Bk:=ode c4
  clear c4
  by_cases c5:0≤Aa
  rotate_left
  ·rw[ig c5]at H
   exact absurd H (by simp)
  rw[ip c5]at H
  have Br:=ode c5
  clear c5
  by_cases c6:Aa<(l1.length:Int)
  rotate_left
  ·rw[ig c6]at H
   exact absurd H (by simp)
  rw[ip c6]at H
  have Bs:=ode c6
  clear c6
  replace H:=bez H
  obtain⟨Bl,A7,H⟩:=H
  try dsimp only at H
  by_cases c8:Bl=true
  rotate_left
  ·replace c8:=Bool.eq_false_iff.mpr c8
   subst c8
   rw[ig ff]at H
   obtain rfl:=Option.some.inj H
   have Ao:0≤(Aa:Int):=od
   have Ap:Aa<(l0.length:Int):=od
   obtain⟨Bi,Aw,Ax,Ay,Au,Aj,Ak⟩:=at_L1 Bq.out Aa Ao Ap
   cases Ay
   have Ab:=Az.mk Ak
   have Ac:=Az.mk Aj
   clear Ak Aj
   replace Ao:=ets Ao
   replace Ap:=ets Ap
   have Aq:0≤(Aa:Int):=od
   have As:Aa<(l1.length:Int):=od
   obtain⟨Bj,Ba,Bb,Bc,Av,Al,Am⟩:=at_L1 HR1.out Aa Aq As
   cases Bc
   have Ad:=Az.mk Am
   have Ae:=Az.mk Al
   clear Am Al
   replace Aq:=ets Aq
   replace As:=ets As
   go_wp2_with ((go_at_call 21;(with_reducible refine(fZ.calls k1 _ _ (rd_L1 l0 Aa) _ _ (rd_L1 l1 Aa) false _ ?Af ?Ag ?Ah ?Ai A7.out).mono ?_);(case Af=>exact kC Ab.out);(case Ag=>exact Ac.out);(case Ah=>exact kC Ad.out);(case Ai=>exact Ae.out);rintro e w' ⟨rfl,⟨nd,rfl⟩⟩;(try first|exact⟨rfl,_,World.drewN_drewN _ _ _⟩|exact⟨rfl,_,Eq.trans (World.drewN_drewN _ _ _) (congrArg (World.drewN _) (Nat.add_assoc _ _ _))⟩)))
   repeat(go_quiet ((go_at_call 21;(with_reducible refine(fZ.calls k1 _ _ (rd_L1 l0 Aa) _ _ (rd_L1 l1 Aa) false _ ?Af ?Ag ?Ah ?Ai A7.out).mono ?_);(case Af=>exact kC Ab.out);(case Ag=>exact Ac.out);(case Ah=>exact kC Ad.out);(case Ai=>exact Ae.out);rintro e w' ⟨rfl,⟨nd,rfl⟩⟩;(try first|exact⟨rfl,_,World.drewN_drewN _ _ _⟩|exact⟨rfl,_,Eq.trans (World.drewN_drewN _ _ _) (congrArg (World.drewN _) (Nat.add_assoc _ _ _))⟩)));try go_wp2_with ((go_at_call 21;(with_reducible refine(fZ.calls k1 _ _ (rd_L1 l0 Aa) _ _ (rd_L1 l1 Aa) false _ ?Af ?Ag ?Ah ?Ai A7.out).mono ?_);(case Af=>exact kC Ab.out);(case Ag=>exact Ac.out);(case Ah=>exact kC Ad.out);(case Ai=>exact Ae.out);rintro e w' ⟨rfl,⟨nd,rfl⟩⟩;(try first|exact⟨rfl,_,World.drewN_drewN _ _ _⟩|exact⟨rfl,_,Eq.trans (World.drewN_drewN _ _ _) (congrArg (World.drewN _) (Nat.add_assoc _ _ _))⟩))))
   go_ret
   exact⟨rq2,kd⟩
  subst c8
  rw[ip rfl]at H
  have H':=Az.mk H
  clear H
  have Ao:0≤(Aa:Int):=od
  have Ap:Aa<(l0.length:Int):=od
  obtain⟨Bi,Aw,Ax,Ay,Au,Aj,Ak⟩:=at_L1 Bq.out Aa Ao Ap
  cases Ay
  have Ab:=Az.mk Ak
  have Ac:=Az.mk Aj
  clear Ak Aj
  replace Ao:=ets Ao
  replace Ap:=ets Ap
  have Aq:0≤(Aa:Int):=od
  have As:Aa<(l1.length:Int):=od
  obtain⟨Bj,Ba,Bb,Bc,Av,Al,Am⟩:=at_L1 HR1.out Aa Aq As
  cases Bc
  have Ad:=Az.mk Am
  have Ae:=Az.mk Al
  clear Am Al
  replace Aq:=ets Aq
  replace As:=ets As
  go_wp2_with ((go_at_call 21;(with_reducible refine(fZ.calls k1 _ _ (rd_L1 l0 Aa) _ _ (rd_L1 l1 Aa) true _ ?Af ?Ag ?Ah ?Ai A7.out).mono ?_);(case Af=>exact kC Ab.out);(case Ag=>exact Ac.out);(case Ah=>exact kC Ad.out);(case Ai=>exact Ae.out);rintro e w' ⟨rfl,⟨nd,rfl⟩⟩;(try first|exact⟨rfl,_,World.drewN_drewN _ _ _⟩|exact⟨rfl,_,Eq.trans (World.drewN_drewN _ _ _) (congrArg (World.drewN _) (Nat.add_assoc _ _ _))⟩)))
  repeat(go_quiet ((go_at_call 21;(with_reducible refine(fZ.calls k1 _ _ (rd_L1 l0 Aa) _ _ (rd_L1 l1 Aa) true _ ?Af ?Ag ?Ah ?Ai A7.out).mono ?_);(case Af=>exact kC Ab.out);(case Ag=>exact Ac.out);(case Ah=>exact kC Ad.out);(case Ai=>exact Ae.out);rintro e w' ⟨rfl,⟨nd,rfl⟩⟩;(try first|exact⟨rfl,_,World.drewN_drewN _ _ _⟩|exact⟨rfl,_,Eq.trans (World.drewN_drewN _ _ _) (congrArg (World.drewN _) (Nat.add_assoc _ _ _))⟩)));try go_wp2_with ((go_at_call 21;(with_reducible refine(fZ.calls k1 _ _ (rd_L1 l0 Aa) _ _ (rd_L1 l1 Aa) true _ ?Af ?Ag ?Ah ?Ai A7.out).mono ?_);(case Af=>exact kC Ab.out);(case Ag=>exact Ac.out);(case Ah=>exact kC Ad.out);(case Ai=>exact Ae.out);rintro e w' ⟨rfl,⟨nd,rfl⟩⟩;(try first|exact⟨rfl,_,World.drewN_drewN _ _ _⟩|exact⟨rfl,_,Eq.trans (World.drewN_drewN _ _ _) (congrArg (World.drewN _) (Nat.add_assoc _ _ _))⟩))))
  go_roundg k1
  case measure=>have:=HK1.out;omega
  case rel=>exact⟨(wrap64 (Aa+1)),rq2,H',⟨by have:=HK1.out;omega⟩,kd⟩
def jW.f (k:Nat) (l0:List (List Int)) (l1:List Int) (a2:Int) (a3:Int):Option (Int):=(fH.f k l0 l1).bind fun t687=>(if t687=true then((fV.f a2 0 (wrap64 ((l0.length:Int) - 1))).bind fun t688=>(if t688=true then((fV.f a3 0 2).bind fun t689=>(if t689=true then((jG.f l0 l1 a2 a3).bind fun t690=>(some t690)) else(some (-1)))) else(some (-1)))) else(some (-1)))
theorem jW.calls (k:Nat) (A0:Option Addr) (c0:Nat) (l0:List (List Int)) (A1:Option Addr) (c1:Nat) (l1:List Int) (a2:Int) (a3:Int) (r:Int) (w:World) (Am:Kd.C (Kd.slice 3 (Kd.int .i64)) w A0 l0.length l0) (Ao:l0.length≤c0) (Ap:Kd.C (Kd.int .i64) w A1 l1.length l1) (Aq:l1.length≤c1) (h:jW.f k l0 l1 a2 a3=some r):
  Calls Try.prog 24 #[.slice A0 l0.length c0, .slice A1 l1.length c1, .int .i64 a2, .int .i64 a3] w fun e w'=>e= .returned (.int .i64 r)∧Below w.heap.size w w':=by
 have Ai:=Az.mk Am
 have Aj:=Az.mk Ao
 clear Am Ao
 have HR1:=Az.mk Ap
 have Ak:=Az.mk Aq
 clear Ap Aq
 have HB:=Az.mk (Below.refl w.heap.size w)
 have H:((fH.f k l0 l1).bind fun Af=>(if Af=true then((fV.f a2 0 (wrap64 ((l0.length:Int) - 1))).bind fun Ag=>(if Ag=true then((fV.f a3 0 2).bind fun Ah=>(if Ah=true then((jG.f l0 l1 a2 a3).bind fun Ae=>(some Ae)) else(some (-1)))) else(some (-1)))) else(some (-1))))=some r:=h
 clear h
 replace H:=bez H
 obtain⟨Af,A5,H⟩:=H
 try dsimp only at H
 by_cases c6:Af=true
 rotate_left
 ·replace c6:=Bool.eq_false_iff.mpr c6
  subst c6
  rw[ig ff]at H
  obtain rfl:=Option.some.inj H
  go_enter Try.func24,Try.ntmps24
  go_wp2_with (first|((with_reducible refine gtC (f:=26) rfl ?_);refine clz Try.func26 (some 11) #[.slice A0 l0.length c0, .slice A1 l1.length c1] ?_;(with_reducible refine(fH.calls k _ _ l0 _ _ l1 false _ ?Aa ?Ab ?Ac ?Ad A5.out).mono ?_);(case Aa=>exact kC Ai.out);(case Ab=>exact Aj.out);(case Ac=>exact kC HR1.out);(case Ad=>exact Ak.out);rintro e Au ⟨rfl,hb⟩;refine⟨_,rfl,?_⟩;replace HB:=Az.mk (bwT bw_38 hb);(try clear hb)))
  go_ret
  exact⟨rq1,bw_38⟩
 subst c6
 rw[ip rfl]at H
 replace H:=bez H
 obtain⟨Ag,A7,H⟩:=H
 try dsimp only at H
 by_cases c8:Ag=true
 rotate_left
 ·replace c8:=Bool.eq_false_iff.mpr c8
  subst c8
  rw[ig ff]at H
  obtain rfl:=Option.some.inj H
  go_enter Try.func24,Try.ntmps24
  go_wp2_with (first|((with_reducible refine gtC (f:=26) rfl ?_);refine clz Try.func26 (some 11) #[.slice A0 l0.length c0, .slice A1 l1.length c1] ?_;(with_reducible refine(fH.calls k _ _ l0 _ _ l1 true _ ?Aa ?Ab ?Ac ?Ad A5.out).mono ?_);(case Aa=>exact kC Ai.out);(case Ab=>exact Aj.out);(case Ac=>exact kC HR1.out);(case Ad=>exact Ak.out);rintro e Av ⟨rfl,hb⟩;refine⟨_,rfl,?_⟩;replace HB:=Az.mk (bwT bw_38 hb);(try clear hb))|(go_at_call 47;(with_reducible refine(fV.calls a2 0 (wrap64 ((l0.length:Int) - 1)) false _ A7.out).mono ?_);rintro e w' ⟨rfl,⟨nd,rfl⟩⟩))
  go_ret
  exact⟨rq1,bw_38⟩
 subst c8
 rw[ip rfl]at H
 replace H:=bez H
 obtain⟨Ah,A9,H⟩:=H
 try dsimp only at H
 by_cases Al:Ah=true
 rotate_left
 ·replace Al:=Bool.eq_false_iff.mpr Al
  subst Al
  rw[ig ff]at H
  obtain rfl:=Option.some.inj H
  go_enter Try.func24,Try.ntmps24
  go_wp2_with (first|((with_reducible refine gtC (f:=26) rfl ?_);refine clz Try.func26 (some 11) #[.slice A0 l0.length c0, .slice A1 l1.length c1] ?_;(with_reducible refine(fH.calls k _ _ l0 _ _ l1 true _ ?Aa ?Ab ?Ac ?Ad A5.out).mono ?_);(case Aa=>exact kC Ai.out);(case Ab=>exact Aj.out);(case Ac=>exact kC HR1.out);(case Ad=>exact Ak.out);rintro e Aw ⟨rfl,hb⟩;refine⟨_,rfl,?_⟩;replace HB:=Az.mk (bwT bw_38 hb);(try clear hb))|(go_at_call 47;(with_reducible refine(fV.calls a2 0 (wrap64 ((l0.length:Int) - 1)) true _ A7.out).mono ?_);rintro e w' ⟨rfl,⟨nd,rfl⟩⟩)|(go_at_call 47;(with_reducible refine(fV.calls a3 0 2 false _ A9.out).mono ?_);rintro e w' ⟨rfl,⟨nd,rfl⟩⟩))
  go_ret
  exact⟨rq1,bw_38⟩
 subst Al
 rw[ip rfl]at H
 replace H:=bez H
 obtain⟨Ae,As,H⟩:=H
 replace H:(some Ae)=some r:=H
 obtain rfl:=Option.some.inj H
 go_enter Try.func24,Try.ntmps24
 go_wp2_with (first|((with_reducible refine gtC (f:=26) rfl ?_);refine clz Try.func26 (some 11) #[.slice A0 l0.length c0, .slice A1 l1.length c1] ?_;(with_reducible refine(fH.calls k _ _ l0 _ _ l1 true _ ?Aa ?Ab ?Ac ?Ad A5.out).mono ?_);(case Aa=>exact kC Ai.out);(case Ab=>exact Aj.out);(case Ac=>exact kC HR1.out);(case Ad=>exact Ak.out);rintro e Ax ⟨rfl,hb⟩;refine⟨_,rfl,?_⟩;replace HB:=Az.mk (bwT bw_38 hb);(try clear hb))|(go_at_call 47;(with_reducible refine(fV.calls a2 0 (wrap64 ((l0.length:Int) - 1)) true _ A7.out).mono ?_);rintro e w' ⟨rfl,⟨nd,rfl⟩⟩)|(go_at_call 47;(with_reducible refine(fV.calls a3 0 2 true _ A9.out).mono ?_);rintro e w' ⟨rfl,⟨nd,rfl⟩⟩)|((with_reducible refine gtC (f:=68) rfl ?_);refine clz Try.func68 (some 30) #[.slice A0 l0.length c0, .slice A1 l1.length c1, .int .i64 a2, .int .i64 a3] ?_;(with_reducible refine(jG.calls _ _ l0 _ _ l1 a2 a3 Ae _ ?Aa ?Ab ?Ac ?Ad As.out).mono ?_);(case Aa=>exact kC (Kd.C_below Ai.out bw_38));(case Ab=>exact Aj.out);(case Ac=>exact kC (Kd.C_below HR1.out bw_38));(case Ad=>exact Ak.out);rintro e Ay ⟨rfl,hb⟩;refine⟨_,rfl,?_⟩;replace HB:=Az.mk (bwT bw_38 hb);(try clear hb)))
 go_ret
 exact⟨rq1,bw_38⟩
def jX.f (k:Nat) (l0:List (List Int)) (l1:List Int) (a2:Int) (a3:Int):Option (Int):=(fL.f k l0 l1).bind fun t691=>(if t691=true then((fW.f a2 0 (wrap64 ((l0.length:Int) - 1))).bind fun t692=>(if t692=true then((fW.f a3 0 2).bind fun t693=>(if t693=true then((gN.f l0 l1 a2 a3).bind fun t694=>(some (wrap64 (Int.tdiv t694 2)))) else(some (-1)))) else(some (-1)))) else(some (-1)))
theorem jX.calls (k:Nat) (A0:Option Addr) (c0:Nat) (l0:List (List Int)) (A1:Option Addr) (c1:Nat) (l1:List Int) (a2:Int) (a3:Int) (r:Int) (w:World) (Am:Kd.C (Kd.slice 3 (Kd.int .i64)) w A0 l0.length l0) (Ao:l0.length≤c0) (Ap:Kd.C (Kd.int .i64) w A1 l1.length l1) (Aq:l1.length≤c1) (h:jX.f k l0 l1 a2 a3=some r):
  Calls Try.prog 25 #[.slice A0 l0.length c0, .slice A1 l1.length c1, .int .i64 a2, .int .i64 a3] w fun e w'=>e= .returned (.int .i64 r)∧Below w.heap.size w w':=by
 have Ai:=Az.mk Am
 have Aj:=Az.mk Ao
 clear Am Ao
 have HR1:=Az.mk Ap
 have Ak:=Az.mk Aq
 clear Ap Aq
 have HB:=Az.mk (Below.refl w.heap.size w)
 have H:((fL.f k l0 l1).bind fun Ae=>(if Ae=true then((fW.f a2 0 (wrap64 ((l0.length:Int) - 1))).bind fun Af=>(if Af=true then((fW.f a3 0 2).bind fun Ag=>(if Ag=true then((gN.f l0 l1 a2 a3).bind fun Ah=>(some (wrap64 (Int.tdiv Ah 2)))) else(some (-1)))) else(some (-1)))) else(some (-1))))=some r:=h
 clear h
 replace H:=bez H
 obtain⟨Ae,A5,H⟩:=H
 try dsimp only at H
 by_cases c6:Ae=true
 rotate_left
 ·replace c6:=Bool.eq_false_iff.mpr c6
  subst c6
  rw[ig ff]at H
  obtain rfl:=Option.some.inj H
  go_enter Try.func25,Try.ntmps25
  go_wp2_with (first|((with_reducible refine gtC (f:=27) rfl ?_);refine clz Try.func27 (some 11) #[.slice A0 l0.length c0, .slice A1 l1.length c1] ?_;(with_reducible refine(fL.calls k _ _ l0 _ _ l1 false _ ?Aa ?Ab ?Ac ?Ad A5.out).mono ?_);(case Aa=>exact kC Ai.out);(case Ab=>exact Aj.out);(case Ac=>exact kC HR1.out);(case Ad=>exact Ak.out);rintro e Au ⟨rfl,hb⟩;refine⟨_,rfl,?_⟩;replace HB:=Az.mk (bwT bw_38 hb);(try clear hb)))
  go_ret
  exact⟨rq1,bw_38⟩
 subst c6
 rw[ip rfl]at H
 replace H:=bez H
 obtain⟨Af,A7,H⟩:=H
 try dsimp only at H
 by_cases c8:Af=true
 rotate_left
 ·replace c8:=Bool.eq_false_iff.mpr c8
  subst c8
  rw[ig ff]at H
  obtain rfl:=Option.some.inj H
  go_enter Try.func25,Try.ntmps25
  go_wp2_with (first|((with_reducible refine gtC (f:=27) rfl ?_);refine clz Try.func27 (some 11) #[.slice A0 l0.length c0, .slice A1 l1.length c1] ?_;(with_reducible refine(fL.calls k _ _ l0 _ _ l1 true _ ?Aa ?Ab ?Ac ?Ad A5.out).mono ?_);(case Aa=>exact kC Ai.out);(case Ab=>exact Aj.out);(case Ac=>exact kC HR1.out);(case Ad=>exact Ak.out);rintro e Av ⟨rfl,hb⟩;refine⟨_,rfl,?_⟩;replace HB:=Az.mk (bwT bw_38 hb);(try clear hb))|(go_at_call 49;(with_reducible refine(fW.calls a2 0 (wrap64 ((l0.length:Int) - 1)) false _ A7.out).mono ?_);rintro e w' ⟨rfl,⟨nd,rfl⟩⟩))
  go_ret
  exact⟨rq1,bw_38⟩
 subst c8
 rw[ip rfl]at H
 replace H:=bez H
 obtain⟨Ag,A9,H⟩:=H
 try dsimp only at H
 by_cases Al:Ag=true
 rotate_left
 ·replace Al:=Bool.eq_false_iff.mpr Al
  subst Al
  rw[ig ff]at H
  obtain rfl:=Option.some.inj H
  go_enter Try.func25,Try.ntmps25
  go_wp2_with (first|((with_reducible refine gtC (f:=27) rfl ?_);refine clz Try.func27 (some 11) #[.slice A0 l0.length c0, .slice A1 l1.length c1] ?_;(with_reducible refine(fL.calls k _ _ l0 _ _ l1 true _ ?Aa ?Ab ?Ac ?Ad A5.out).mono ?_);(case Aa=>exact kC Ai.out);(case Ab=>exact Aj.out);(case Ac=>exact kC HR1.out);(case Ad=>exact Ak.out);rintro e Aw ⟨rfl,hb⟩;refine⟨_,rfl,?_⟩;replace HB:=Az.mk (bwT bw_38 hb);(try clear hb))|(go_at_call 49;(with_reducible refine(fW.calls a2 0 (wrap64 ((l0.length:Int) - 1)) true _ A7.out).mono ?_);rintro e w' ⟨rfl,⟨nd,rfl⟩⟩)|(go_at_call 49;(with_reducible refine(fW.calls a3 0 2 false _ A9.out).mono ?_);rintro e w' ⟨rfl,⟨nd,rfl⟩⟩))
  go_ret
  exact⟨rq1,bw_38⟩
 subst Al
 rw[ip rfl]at H
 replace H:=bez H
 obtain⟨Ah,As,H⟩:=H
 try dsimp only at H
 obtain rfl:=Option.some.inj H
 go_enter Try.func25,Try.ntmps25
 go_wp2_with (first|((with_reducible refine gtC (f:=27) rfl ?_);refine clz Try.func27 (some 11) #[.slice A0 l0.length c0, .slice A1 l1.length c1] ?_;(with_reducible refine(fL.calls k _ _ l0 _ _ l1 true _ ?Aa ?Ab ?Ac ?Ad A5.out).mono ?_);(case Aa=>exact kC Ai.out);(case Ab=>exact Aj.out);(case Ac=>exact kC HR1.out);(case Ad=>exact Ak.out);rintro e Ax ⟨rfl,hb⟩;refine⟨_,rfl,?_⟩;replace HB:=Az.mk (bwT bw_38 hb);(try clear hb))|(go_at_call 49;(with_reducible refine(fW.calls a2 0 (wrap64 ((l0.length:Int) - 1)) true _ A7.out).mono ?_);rintro e w' ⟨rfl,⟨nd,rfl⟩⟩)|(go_at_call 49;(with_reducible refine(fW.calls a3 0 2 true _ A9.out).mono ?_);rintro e w' ⟨rfl,⟨nd,rfl⟩⟩)|((with_reducible refine gtC (f:=69) rfl ?_);refine clz Try.func69 (some 30) #[.slice A0 l0.length c0, .slice A1 l1.length c1, .int .i64 a2, .int .i64 a3] ?_;(with_reducible refine(gN.calls _ _ l0 _ _ l1 a2 a3 Ah _ ?Aa ?Ab ?Ac ?Ad As.out).mono ?_);(case Aa=>exact kC (Kd.C_below Ai.out bw_38));(case Ab=>exact Aj.out);(case Ac=>exact kC (Kd.C_below HR1.out bw_38));(case Ad=>exact Ak.out);rintro e w' ⟨rfl,⟨nd,rfl⟩⟩;refine⟨_,rfl,?_⟩))
 go_ret
 exact⟨rq1,bw_38⟩
def gC.f (k:Nat) (t:List (List Int)) (x:List Int):Option Int:=(fH.f k t x).bind fun b=>(if b=true then((fM.f k t x).bind fun up=>(joiner_count.l0 k up 0 0)) else(some (-1)))
theorem gC.calls (k:Nat) (A0:Option Addr) (c0:Nat) (l0:List (List Int)) (A1:Option Addr) (c1:Nat) (l1:List Int) (r:Int) (w:World) (Ae:Kd.C (Kd.slice 3 (Kd.int .i64)) w A0 l0.length l0) (Af:l0.length≤c0) (Ag:Kd.C (Kd.int .i64) w A1 l1.length l1) (Ah:l1.length≤c1) (h:gC.f k l0 l1=some r):
  Calls Try.prog 28 #[.slice A0 l0.length c0, .slice A1 l1.length c1] w fun e w'=>e= .returned (.int .i64 r)∧Below w.heap.size w w':=by
 have Aa:=Az.mk Ae
 have Ac:=Az.mk Af
 have HR1:=Az.mk Ag
 have Ad:=Az.mk Ah
 clear Ae Af Ag Ah
 have HB:=Az.mk (Below.refl w.heap.size w)
 unfold gC.f at h
 replace h:=be.mp h
 obtain⟨b,T0,h⟩:=h
 have T0:=Az.mk T0
 by_cases p1:b=true
 rotate_left
 ·rw[ig p1]at h
  replace p1:=Bool.eq_false_iff.mpr p1
  subst p1
  obtain rfl:=Option.some.inj h
  go_enter Try.func28,Try.ntmps28
  go_wp2_with (first
   |(go_at_call 26;refine(fH.calls k A0 c0 l0 A1 c1 l1 false _ (by first|exact Kd.C_drewN Aa.out _|exact Aa.out) Ac.out (by first|exact Kd.C_drewN HR1.out _|exact HR1.out) Ad.out T0.out).mono ?_;rintro e W0 ⟨rfl,hb⟩;have HB0:=Az.mk (bwT (by first|exact HB.out|exact pbN HB.out _) hb);clear hb T0))
  go_ret
  exact⟨rfl,by first|exact HB0.out|exact pbN HB0.out _⟩
 rw[ip p1]at h
 subst p1
 replace h:=be.mp h
 obtain⟨up,T1,h⟩:=h
 have T1:=Az.mk T1
 have T2:=Az.mk h
 clear h
 go_enter Try.func28,Try.ntmps28
 go_wp2_with (first
  |(go_at_call 26;refine(fH.calls k A0 c0 l0 A1 c1 l1 true _ (by first|exact Kd.C_drewN Aa.out _|exact Aa.out) Ac.out (by first|exact Kd.C_drewN HR1.out _|exact HR1.out) Ad.out T0.out).mono ?_;rintro e W0 ⟨rfl,hb⟩;have HB0:=Az.mk (bwT (by first|exact HB.out|exact pbN HB.out _) hb);clear hb T0)
  |(go_at_call 39;refine(fM.calls k A0 c0 l0 A1 c1 l1 up _ (by first|exact Kd.C_drewN (Kd.C_below Aa.out HB0.out) _|exact Kd.C_below Aa.out HB0.out) Ac.out (by first|exact Kd.C_drewN (Kd.C_below HR1.out HB0.out) _|exact Kd.C_below HR1.out HB0.out) Ad.out T1.out).mono ?_;rintro e W1 ⟨p,AJ,cJ,rfl,hj,hb⟩;have Ab:=Az.mk hj;have HB1:=Az.mk (bwT (by first|exact HB0.out|exact pbN HB0.out _) hb);clear hj hb T1)
  |(go_at_call 56;refine(joiner_count.calls k ⟨p,0,none⟩ AJ cJ up r _ (by first|exact(Ab.out.drewN _).cell|exact Ab.out.cell) (by first|exact(Ab.out.drewN _).C|exact Ab.out.C) T2.out).mono ?_;rintro e w' ⟨rfl,⟨nd1,rfl⟩⟩;clear T2))
 go_ret
 exact⟨rfl,by first|exact HB1.out|exact pbN HB1.out _|exact pbN (pbN HB1.out _) _⟩
def gZ.f (k:Nat) (l0:List (List Int)) (l1:List Int):Option (Int):=(fL.f k l0 l1).bind fun t695=>(if t695=true then((fN.f k l0 l1).bind fun t696=>(some (t696.length:Int))) else(some (-1)))
theorem gZ.calls (k:Nat) (A0:Option Addr) (c0:Nat) (l0:List (List Int)) (A1:Option Addr) (c1:Nat) (l1:List Int) (r:Int) (w:World) (Ak:Kd.C (Kd.slice 3 (Kd.int .i64)) w A0 l0.length l0) (Al:l0.length≤c0) (Am:Kd.C (Kd.int .i64) w A1 l1.length l1) (Ao:l1.length≤c1) (h:gZ.f k l0 l1=some r):
  Calls Try.prog 29 #[.slice A0 l0.length c0, .slice A1 l1.length c1] w fun e w'=>e= .returned (.int .i64 r)∧Below w.heap.size w w':=by
 have Ah:=Az.mk Ak
 have Ai:=Az.mk Al
 clear Ak Al
 have HR1:=Az.mk Am
 have Aj:=Az.mk Ao
 clear Am Ao
 have HB:=Az.mk (Below.refl w.heap.size w)
 have H:((fL.f k l0 l1).bind fun Ae=>(if Ae=true then((fN.f k l0 l1).bind fun Af=>(some (Af.length:Int))) else(some (-1))))=some r:=h
 clear h
 replace H:=bez H
 obtain⟨Ae,A3,H⟩:=H
 try dsimp only at H
 by_cases c4:Ae=true
 rotate_left
 ·replace c4:=Bool.eq_false_iff.mpr c4
  subst c4
  rw[ig ff]at H
  obtain rfl:=Option.some.inj H
  go_enter Try.func29,Try.ntmps29
  go_wp2_with (first|((with_reducible refine gtC (f:=27) rfl ?_);refine clz Try.func27 (some 7) #[.slice A0 l0.length c0, .slice A1 l1.length c1] ?_;(with_reducible refine(fL.calls k _ _ l0 _ _ l1 false _ ?Aa ?Ab ?Ac ?Ad A3.out).mono ?_);(case Aa=>exact kC Ah.out);(case Ab=>exact Ai.out);(case Ac=>exact kC HR1.out);(case Ad=>exact Aj.out);rintro e w9 ⟨rfl,hb⟩;refine⟨_,rfl,?_⟩;replace HB:=Az.mk (bwT bw_38 hb);(try clear hb)))
  go_ret
  exact⟨rq1,bw_38⟩
 subst c4
 rw[ip rfl]at H
 replace H:=bez H
 obtain⟨Af,A5,H⟩:=H
 try dsimp only at H
 obtain rfl:=Option.some.inj H
 go_enter Try.func29,Try.ntmps29
 go_wp2_with (first|((with_reducible refine gtC (f:=27) rfl ?_);refine clz Try.func27 (some 7) #[.slice A0 l0.length c0, .slice A1 l1.length c1] ?_;(with_reducible refine(fL.calls k _ _ l0 _ _ l1 true _ ?Aa ?Ab ?Ac ?Ad A3.out).mono ?_);(case Aa=>exact kC Ah.out);(case Ab=>exact Ai.out);(case Ac=>exact kC HR1.out);(case Ad=>exact Aj.out);rintro e w6 ⟨rfl,hb⟩;refine⟨_,rfl,?_⟩;replace HB:=Az.mk (bwT bw_38 hb);(try clear hb))|((with_reducible refine gtC (f:=22) rfl ?_);refine clz Try.func22 (some 11) #[.slice A0 l0.length c0, .slice A1 l1.length c1] ?_;(with_reducible refine(fN.calls k _ _ l0 _ _ l1 Af _ ?Aa ?Ab ?Ac ?Ad A5.out).mono ?_);(case Aa=>exact kC (Kd.C_below Ah.out HB.out));(case Ab=>exact Ai.out);(case Ac=>exact kC (Kd.C_below HR1.out HB.out));(case Ad=>exact Aj.out);rintro e w7 ⟨Aq,rfl,Ap,hb⟩;refine⟨_,rfl,?_⟩;have Ag:=Az.mk (Kd.R_lower Ap (bwZ bw_38));replace HB:=Az.mk (bwT bw_38 hb);(try clear hb);(try clear Ap);obtain⟨Au,Av,As⟩:=Kd.R_slice Ag.out;subst As))
 go_ret
 exact⟨rq1,bw_38⟩
theorem bw_39 {n:Nat}{v v':World} (h:Below n v v':=by repeat(first|(with_reducible first|exact HB.out|apply bwA|apply pbN|apply bwD)|exact HB.out)):Below n v v':=h
theorem ln_39 {P:Prop} (h:P:=by(try simp only[List.map_toArray,List.map_cons,List.map_nil]);first|done|rfl|(simp only[List.length_drop,List.length_take];rfl)):P:=h
def jQ.f (a0:Int):Option (ByteArray):=if a0>0 then(some (strOfNums (([(wrap64 ((wrap64 (97+a0)) - 1)) % 256]:List Int)))) else(some (strOfNums (([(wrap64 ((wrap64 (65 - a0)) - 1)) % 256]:List Int))))
theorem jQ.calls (a0:Int) (r:ByteArray) (w:World) (h:jQ.f a0=some r):
  Calls Try.prog 71 #[.int .i64 a0] w fun e w'=>e= .returned (.string r)∧Below w.heap.size w w':=by
 have HB:=Az.mk (Below.refl w.heap.size w)
 have H:(if a0>0 then(some (strOfNums (([(wrap64 ((wrap64 (97+a0)) - 1)) % 256]:List Int)))) else(some (strOfNums (([(wrap64 ((wrap64 (65 - a0)) - 1)) % 256]:List Int)))))=some r:=h
 clear h
 by_cases c2:a0>0
 ·rw[ip c2]at H
  have Ag:decide (0<a0)=true:=ode c2
  clear c2
  obtain⟨Ah,hy⟩:∃y_:List Int,y_=(([(wrap64 ((wrap64 (97+a0)) - 1)) % 256]:List Int)):=⟨_,rfl⟩
  replace H:(some (strOfNums Ah))=some r:=rh
  have Aa:=Az.mk hy
  clear hy
  obtain rfl:=Option.some.inj H
  go_enter Try.func71,Try.ntmps71
  go_wp2_with (first|((with_reducible refine gtD (N:=9) rfl ?_);refine Kd.R_lit (Kd.int .u8) _ 5 ?hg (N:=9) ?hd (xs:=([(wrap64 ((wrap64 (97+a0)) - 1)) % 256]:List Int)) (inner:=[.int .u8 ((wrap64 ((wrap64 (97+a0)) - 1)) % 256)]) (ok:=fun _=>True) (okp:=fun _=>True) ?hr ?hp (fun _ hk=>hk) trivial (Below.refl _ _) (Nat.le_refl _) (by simp) ?_;(case hd=>rfl);(case hg=>rfl);(case hr=>first|(go_simp;done)|(go_simp;rfl));(case hp=>exact(Reps.one (show Kd.M (Kd.int .u8) _ _ _ ((wrap64 ((wrap64 (97+a0)) - 1)) % 256) [.int .u8 ((wrap64 ((wrap64 (97+a0)) - 1)) % 256)]from rfl) (Reps.none _ _)));intro Aj w3 Ac hb hg_ hnew_;clear hg_ hnew_;(first|rw[←Aa.out]at Ac|(simp only[Int.reduceToNat]at Ac;rw[←Aa.out]at Ac));have Ad:=Az.mk (Kd.R_lower Ac (bwZ bw_39));replace HB:=Az.mk (bwT bw_39 hb);clear hb Ac;have hcv5:=own_string (P:=Try.prog) Try.underlying22 Try.underlying5 Try.underlying9 (Kd.own_of_R Ad.out)))
  go_ret
  exact⟨rq1,bw_39⟩
 rw[ig c2]at H
 have Ag:decide (0<a0)=false:=decide_eq_false c2
 clear c2
 obtain⟨Ai,hy⟩:∃y_:List Int,y_=(([(wrap64 ((wrap64 (65 - a0)) - 1)) % 256]:List Int)):=⟨_,rfl⟩
 replace H:(some (strOfNums Ai))=some r:=rh
 have Ab:=Az.mk hy
 clear hy
 obtain rfl:=Option.some.inj H
 go_enter Try.func71,Try.ntmps71
 go_wp2_with (first|((with_reducible refine gtD (N:=15) rfl ?_);refine Kd.R_lit (Kd.int .u8) _ 5 ?hg (N:=15) ?hd (xs:=([(wrap64 ((wrap64 (65 - a0)) - 1)) % 256]:List Int)) (inner:=[.int .u8 ((wrap64 ((wrap64 (65 - a0)) - 1)) % 256)]) (ok:=fun _=>True) (okp:=fun _=>True) ?hr ?hp (fun _ hk=>hk) trivial (Below.refl _ _) (Nat.le_refl _) (by simp) ?_;(case hd=>rfl);(case hg=>rfl);(case hr=>first|(go_simp;done)|(go_simp;rfl));(case hp=>exact(Reps.one (show Kd.M (Kd.int .u8) _ _ _ ((wrap64 ((wrap64 (65 - a0)) - 1)) % 256) [.int .u8 ((wrap64 ((wrap64 (65 - a0)) - 1)) % 256)]from rfl) (Reps.none _ _)));intro Ak w6 Ae hb hg_ hnew_;clear hg_ hnew_;(first|rw[←Ab.out]at Ae|(simp only[Int.reduceToNat]at Ae;rw[←Ab.out]at Ae));have Af:=Az.mk (Kd.R_lower Ae (bwZ bw_39));replace HB:=Az.mk (bwT bw_39 hb);clear hb Ae;have hcv8:=own_string (P:=Try.prog) Try.underlying22 Try.underlying5 Try.underlying9 (Kd.own_of_R Af.out)))
 go_ret
 exact⟨rq1,bw_39⟩
-- NOT PRINTED: function 93 (abi_NoEscape)
-- NOT PRINTED: function 91 (strings_Builder_copyCheck)
-- NOT PRINTED: function 94 (bytealg_MakeNoZero)
-- NOT PRINTED: function 92 (strings_Builder_grow)
-- NOT PRINTED: function 88 (strings_Builder_Grow)
-- NOT PRINTED: function 89 (strings_Builder_WriteString)
-- NOT PRINTED: function 90 (strings_Builder_String)
-- NOT PRINTED: function 85 (strings_Join)
open Go.Shelf
def jnRen:Go.Shelf.Ren:=⟨fun|156=>85|165=>88|166=>89|169=>90|240=>91|241=>92|276=>93|277=>94|n=>n,fun|31=>67|9=>9|3=>3|4=>4|0=>0|20=>20|72=>103|76=>107|70=>101|37=>22|75=>106|127=>111|164=>112|5=>5|80=>109|n=>n,fun|n=>n⟩
theorem jnLays:Go.Proofs.Lays.n156 Try.prog jnRen:={
 mixed:=by kernel_rfl
 f156:=Try.func85.trans (congrArg some (by kernel_rfl))
 f165:=Try.func88.trans (congrArg some (by kernel_rfl))
 f166:=Try.func89.trans (congrArg some (by kernel_rfl))
 f169:=Try.func90.trans (congrArg some (by kernel_rfl))
 f240:=Try.func91.trans (congrArg some (by kernel_rfl))
 f241:=Try.func92.trans (congrArg some (by kernel_rfl))
 f276:=Try.func93.trans (congrArg some (by kernel_rfl))
 f277:=Try.func94.trans (congrArg some (by kernel_rfl))
 t0:=Try.underlying0
 a0:=Try.isAgg0
 z0:=Try.sizeOf0
 v0:=Try.zeroValue0
 t3:=Try.underlying3
 a3:=Try.isAgg3
 z3:=Try.sizeOf3
 v3:=Try.zeroValue3
 t4:=Try.underlying4
 a4:=Try.isAgg4
 z4:=Try.sizeOf4
 v4:=Try.zeroValue4
 t9:=Try.underlying9
 a9:=Try.isAgg9
 z9:=Try.sizeOf9
 v9:=Try.zeroValue9
 t20:=Try.underlying20
 a20:=Try.isAgg20
 z20:=Try.sizeOf20
 v20:=Try.zeroValue20
 t31:=Try.underlying67
 a31:=Try.isAgg67
 z31:=Try.sizeOf67
 v31:=Try.zeroValue67
 t37:=Try.underlying22
 a37:=Try.isAgg22
 z37:=Try.sizeOf22
 v37:=Try.zeroValue22
 t70:=Try.underlying101
 a70:=Try.isAgg101
 z70:=Try.sizeOf101
 v70:=Try.zeroValue101
 t72:=Try.underlying103
 a72:=Try.isAgg103
 z72:=Try.sizeOf103
 v72:=Try.zeroValue103
 t75:=Try.underlying106
 a75:=Try.isAgg106
 z75:=Try.sizeOf106
 v75:=Try.zeroValue106
 t76:=Try.underlying107
 a76:=Try.isAgg107
 z76:=Try.sizeOf107
 v76:=Try.zeroValue107
 t127:=Try.underlying111
 a127:=Try.isAgg111
 z127:=Try.sizeOf111
 v127:=Try.zeroValue111
 t164:=Try.underlying112
 a164:=Try.isAgg112
 z164:=Try.sizeOf112
 v164:=Try.zeroValue112 }
theorem jnExtra:Builder.Extra Try.prog jnRen:={
 sizeBuilder:=by kernel_rfl
 liesBuilder:=by kernel_rfl
 t5:=Try.underlying5
 a5:=Try.isAgg5
 z5:=Try.sizeOf5
 v5:=Try.zeroValue5
 infoByte:=by kernel_rfl
 cellsByte:=by kernel_rfl
 sizeByte:=by kernel_rfl
 neB5:=by decide }
open Go.RowKit in
theorem jnNone (a:Option Addr) (c:Nat) (sep:ByteArray) (w:World):
  Calls Try.prog 85 #[.slice a 0 c, .string sep] w fun e w'=>e= .returned (.string ⟨#[]⟩)∧w'=w:=Any.strings_Join_none jnLays jnExtra a c sep w
open Go.RowKit in
theorem jnJoin (bk o c:Nat) (xs:List ByteArray) (sep:ByteArray) (w:World) (hcells:∀(j:Nat) x,xs[j]?= some x→w.cell? ⟨bk,o+j,none⟩=some (.string x)) (hbk:bk<w.heap.size) (hN:xs.length≤140737488355328) (hcap:xs.length≤c) (hlen:(Lib.join (xs.map (·.data.toList)) sep.data.toList).length≤140737488355328):
  Calls Try.prog 85 #[.slice (some ⟨bk,o,none⟩) xs.length c, .string sep] w fun e w'=>e= .returned (.string ⟨(Lib.join (xs.map (·.data.toList)) sep.data.toList).toArray⟩)∧Below w.heap.size w w':=Any.strings_Join jnLays jnExtra bk o c xs sep w hcells hbk hN hcap hlen
def mD.f (l0:List ByteArray) (a1:ByteArray):Option ByteArray:=if l0.length≤140737488355328 then(if(Lib.join (l0.map (·.data.toList)) a1.data.toList).length≤140737488355328 then some (⟨(Lib.join (l0.map (·.data.toList)) a1.data.toList).toArray⟩:ByteArray)else none)else none
theorem spot_none {w:World}{ad:Addr}{v:Value} (h:w.cell? ad=some v):ad.spot=none:=by
 unfold World.cell? at h
 split at h
 ·by_cases hs:ad.spot.isSome=true
  ·rw[ip hs]at h;exact absurd h (by simp)
  cases e:ad.spot with
  |none=>rfl
  |some q=>rw[e]at hs;exact absurd rfl hs
 exact absurd h (by simp)
theorem mD.calls (A0:Option Addr) (c0:Nat) (l0:List ByteArray) (a1:ByteArray) (r:ByteArray) (w:World) (Aa:Kd.C Kd.string w A0 l0.length l0) (Ab:l0.length≤c0) (h:mD.f l0 a1=some r):
  Calls Try.prog 72 #[.slice A0 l0.length c0, .string a1] w fun e w'=>e= .returned (.string r)∧Below w.heap.size w w':=by
 have Ac:=Az.mk Aa
 have Ad:=Az.mk Ab
 clear Aa Ab
 have HB:=Az.mk (Below.refl w.heap.size w)
 unfold mD.f at h
 by_cases b1:l0.length≤140737488355328
 rotate_left
 ·rw[ig b1]at h
  exact absurd h (by simp)
 rw[ip b1]at h
 by_cases b2:(Lib.join (l0.map (·.data.toList)) a1.data.toList).length≤140737488355328
 rotate_left
 ·rw[ig b2]at h
  exact absurd h (by simp)
 rw[ip b2]at h
 obtain hr:=Option.some.inj h
 have K:∀W,Drawn0 w W→Calls Try.prog 85 #[.slice A0 l0.length c0, .string a1] W fun e w'=>e= .returned (.string r)∧Below W.heap.size W w':=by
  rintro W ⟨n,rfl⟩
  have hk:=Kd.C_drewN Ac.out n
  rw[←hr]
  rcases Nat.eq_zero_or_pos l0.length with h0|h0
  ·obtain rfl:l0=[]:=List.eq_nil_of_length_eq_zero h0
   exact(jnNone A0 c0 a1 _).mono fun e w' he=>⟨he.1,by rw[he.2];exact Below.refl _ _⟩
  obtain⟨ad,rfl,hc⟩:=hk.2.2 h0
  have cell:∀(j:Nat) x,l0[j]?= some x→(w.drewN n).cell? (ad.add j)=some (.string x):=by
   intro j x hx
   obtain⟨c,_,hR,hcell⟩:=hc j x hx
   have hR':c=[Value.string x]:=hR
   subst hR'
   have:=hcell 0 _ rfl
   rwa [show j*Kd.string.sz+0=j from by show j*1+0=j;omega]at this
  have c0':=cell 0 l0[0] (List.getElem?_eq_getElem h0)
  have hs:=spot_none c0'
  have ha:ad.add 0=ad:=ip rfl
  rw[ha]at hs c0'
  obtain⟨bk,o,sp⟩:=ad
  dsimp only at hs
  subst hs
  have hadd:∀j:Nat,(⟨bk,o,none⟩:Addr).add j=⟨bk,o+j,none⟩:=by
   intro j
   unfold Addr.add
   by_cases e:j=0
   ·rw[ip e,e,Nat.add_zero]
   rw[ig e]
  exact jnJoin bk o c0 l0 a1 _ (fun j x hx=>by rw[←hadd j];exact cell j x hx) (World.block_lt_of_cell? _ _ c0') b1 Ad.out b2
 clear h b1 b2 hr
 go_enter Try.func72,Try.ntmps72
 go_wp2_with (first
  |(go_at_call 85;refine(K _ (by repeat(first|exact Drawn0.refl _|apply Drawn0.step))).mono ?_;rintro e W1 ⟨rfl,hb⟩;have HB1:=Az.mk (bwT (by first|exact HB.out|exact pbN HB.out _) hb);clear hb K))
 go_ret
 exact⟨rfl,by first|exact HB1.out|exact pbN HB1.out _⟩
mutual
def gJ.l0:Nat→List ByteArray→List (List Int)→Int→Int→Option (ByteArray)
 |0,_,_,_,_=>none
 |k+1,x3,x13,x14,x15=>if x15<x14 then(if 0≤x15 then(if x15<(x13.length:Int) then(gJ.l1 k x3 (⟨#[]⟩:ByteArray) x13 x14 x15 (rd_L1 x13 x15) ((rd_L1 x13 x15).length:Int) 0) else(none)) else(none)) else((mD.f x3 (⟨#[32]⟩:ByteArray)).bind fun t710=>(some t710))
def gJ.l1:Nat→List ByteArray→ByteArray→List (List Int)→Int→Int→List Int→Int→Int→Option (ByteArray)
 |0,_,_,_,_,_,_,_,_=>none
 |k+1,x3,x6,x13,x14,x15,x19,x20,x21=>if x21<x20 then(if 0≤x21 then(if x21<(x19.length:Int) then((jQ.f (rd x19 x21)).bind fun t713=>(if x6.size+t713.size≤9223372036854775807 then(gJ.l1 k x3 (x6 ++ t713) x13 x14 x15 x19 x20 (wrap64 (x21+1))) else(none))) else(none)) else(none)) else(if x3.length<8796093022208 then(gJ.l0 k (x3 ++ [x6]) x13 x14 (wrap64 (x15+1))) else(none))
end
def gJ.f (k:Nat) (l0:List (List Int)):Option (ByteArray):=(fB.f k l0).bind fun t706=>(if t706=true then(gJ.l0 k (([]:List ByteArray)) l0 (l0.length:Int) 0) else(some (⟨#[]⟩:ByteArray)))
theorem gJ.calls (k:Nat) (A0:Option Addr) (c0:Nat) (l0:List (List Int)) (r:ByteArray) (w:World) (By:Kd.C (Kd.slice 3 (Kd.int .i64)) w A0 l0.length l0) (Bz:l0.length≤c0) (h:gJ.f k l0=some r):
  Calls Try.prog 32 #[.slice A0 l0.length c0] w fun e w'=>e= .returned (.string r)∧Below w.heap.size w w':=by
 have Bo:=Az.mk By
 have Ca:=Az.mk Bz
 clear By Bz
 have HB:=Az.mk (Below.refl w.heap.size w)
 have H:((fB.f k l0).bind fun As=>(if As=true then(gJ.l0 k (([]:List ByteArray)) l0 (l0.length:Int) 0) else(some (⟨#[]⟩:ByteArray))))=some r:=h
 clear h
 replace H:=bez H
 obtain⟨As,A2,H⟩:=H
 try dsimp only at H
 by_cases c3:As=true
 rotate_left
 ·replace c3:=Bool.eq_false_iff.mpr c3
  subst c3
  rw[ig ff]at H
  obtain rfl:=Option.some.inj H
  go_enter Try.func32,Try.ntmps32
  go_wp2_with (first|((with_reducible refine gtC (f:=30) rfl ?_);refine clz Try.func30 (some 10) #[.slice A0 l0.length c0] ?_;(with_reducible refine(fB.calls k _ _ l0 false _ ?Ag ?Ah A2.out).mono ?_);(case Ag=>exact kC Bo.out);(case Ah=>exact Ca.out);rintro e Cp ⟨rfl,hb⟩;refine⟨_,rfl,?_⟩;replace HB:=Az.mk (bwT bw_39 hb);(try clear hb)))
  go_ret
  exact⟨rq1,bw_39⟩
 subst c3
 rw[ip rfl]at H
 obtain⟨Ax,hy⟩:∃y_:List ByteArray,y_=(([]:List ByteArray)):=⟨_,rfl⟩
 replace H:(gJ.l0 k Ax l0 (l0.length:Int) 0)=some r:=rh
 have Aq:=Az.mk hy
 clear hy
 have H':=Az.mk H
 clear H
 go_enter Try.func32,Try.ntmps32
 go_wp2_with (first|((with_reducible refine gtC (f:=30) rfl ?_);refine clz Try.func30 (some 10) #[.slice A0 l0.length c0] ?_;(with_reducible refine(fB.calls k _ _ l0 true _ ?Ag ?Ah A2.out).mono ?_);(case Ag=>exact kC Bo.out);(case Ah=>exact Ca.out);rintro e w4 ⟨rfl,hb⟩;refine⟨_,rfl,?_⟩;replace HB:=Az.mk (bwT bw_39 hb);(try clear hb))|((with_reducible refine gtD (N:=12) rfl ?_);refine Kd.R_lit Kd.string _ 9 ?hg (N:=12) ?hd (xs:=([]:List ByteArray)) (inner:=[]) (ok:=fun _=>True) (okp:=fun _=>True) ?hr ?hp (fun _ hk=>hk) trivial (Below.refl _ _) (Nat.le_refl _) (by simp) ?_;(case hd=>rfl);(case hg=>rfl);(case hr=>first|(go_simp;done)|(go_simp;rfl));(case hp=>exact(Reps.none _ _));intro Cj w5 Ay hb hg_ hnew_;clear hg_ hnew_;(first|rw[←Aq.out]at Ay|(simp only[Int.reduceToNat]at Ay;rw[←Aq.out]at Ay));have Ba:=Az.mk (Kd.R_lower Ay (bwZ bw_39));replace HB:=Az.mk (bwT bw_39 hb);clear hb Ay))
 go_loopg [3,15] k (fun kq v3 Ck w'=>∃(Ad:List ByteArray) (Aa:Int),Ck= .int .i64 Aa∧Az (gJ.l0 kq Ad l0 (l0.length:Int) Aa=some r)∧Az (kq≤k)∧Az (Kd.R Kd.string 9 w' w.heap.size (fun _=>True) v3 Ad)∧Az (Below w.heap.size w w'))
 case atStart=>exact⟨(Ax),(0),rq2,H',⟨Nat.le_refl _⟩,⟨kR Ba.out⟩,⟨bw_39⟩⟩
 clear H'
 try clear c3
 obtain⟨Ad,Aa,rfl,HA,HK1,Ac,HB⟩:=hrel
 cases gk with
 |zero=>exact absurd HA.out (by simp[gJ.l0])
 |succ k1=>
  have H:=HA.out
  clear HA
  simp only[gJ.l0]at H
  by_cases c7:Aa<(l0.length:Int)
  rotate_left
  ·rw[ig c7]at H
   have Bb:=decide_eq_false c7
   clear c7
   replace H:=bez H
   obtain⟨Bc,Cl,H⟩:=H
   replace H:(some Bc)=some r:=H
   obtain rfl:=Option.some.inj H
   obtain⟨Bp,Bq,Br⟩:=Kd.R_slice Ac.out
   subst Br
   go_wp2_with (first|((with_reducible refine gtC (f:=72) rfl ?_);refine clz Try.func72 (some 36) #[.slice Bp Ad.length Bq, .string (⟨#[32]⟩:ByteArray)] ?_;(with_reducible refine(mD.calls _ _ Ad (⟨#[32]⟩:ByteArray) Bc _ ?Ag ?Ah Cl.out).mono ?_);(case Ag=>exact kC (Kd.R_reads' Ac.out).2.2);(case Ah=>exact(Kd.R_reads' Ac.out).2.1);rintro e Cq ⟨rfl,hb⟩;refine⟨_,rfl,?_⟩;replace Ac:=Az.mk (Kd.R_below (kR Ac.out) hb);replace HB:=Az.mk (bwT bw_39 hb);(try clear hb)))
   go_ret
   exact⟨rq1,bw_39⟩
  rw[ip c7]at H
  have Bb:=ode c7
  clear c7
  by_cases c8:0≤Aa
  rotate_left
  ·rw[ig c8]at H
   exact absurd H (by simp)
  rw[ip c8]at H
  have Bs:=ode c8
  clear c8
  by_cases c9:Aa<(l0.length:Int)
  rotate_left
  ·rw[ig c9]at H
   exact absurd H (by simp)
  rw[ip c9]at H
  have Bt:=ode c9
  clear c9
  have H':=Az.mk H
  clear H
  have Al:0≤(Aa:Int):=od
  have Am:Aa<(l0.length:Int):=od
  obtain⟨Cc,Bu,Bv,Bw,Ae,Ai,Aj⟩:=at_L1 Bo.out Aa Al Am
  cases Bw
  replace Ae:=kc HB Ae
  have Ao:=Az.mk Aj
  have Bk:=Az.mk Ai
  clear Aj Ai
  replace Al:=ets Al
  replace Am:=ets Am
  go_wp2
  go_loopg [6,21] k1 (fun kq v6 Cm w'=>∃(Af:ByteArray) (Ab:Int),v6= .string Af∧Cm= .int .i64 Ab∧Az (gJ.l1 kq Ad Af l0 (l0.length:Int) Aa (rd_L1 l0 Aa) ((rd_L1 l0 Aa).length:Int) Ab=some r)∧Az (kq≤k1)∧Az (Kd.R Kd.string 9 w' w.heap.size (fun _=>True) u3 Ad)∧Az (Below w.heap.size w w'))
  case atStart=>exact⟨((⟨#[]⟩:ByteArray)),(0),rq2,rq2,H',⟨Nat.le_refl _⟩,⟨kR Ac.out⟩,⟨bw_39⟩⟩
  clear H'
  try clear c3
  try clear c7
  try clear Bb
  try clear c8
  try clear Bs
  try clear c9
  try clear Bt
  try clear Ae
  try clear Al
  try clear Am
  obtain⟨Af,Ab,rfl,rfl,HA,HK2,Ac,HB⟩:=hrel
  cases gk with
  |zero=>exact absurd HA.out (by simp[gJ.l1])
  |succ k2=>
   have H:=HA.out
   clear HA
   simp only[gJ.l1]at H
   by_cases Aw:Ab<((rd_L1 l0 Aa).length:Int)
   rotate_left
   ·rw[ig Aw]at H
    have Bd:=decide_eq_false Aw
    clear Aw
    by_cases Bl:Ad.length<8796093022208
    rotate_left
    ·rw[ig Bl]at H
     exact absurd H (by simp)
    rw[ip Bl]at H
    have LMc16:=Az.mk Bl
    clear Bl
    obtain⟨Bf,hy⟩:∃y_:List ByteArray,y_=(Ad ++ [Af]):=⟨_,rfl⟩
    replace H:(gJ.l0 k2 Bf l0 (l0.length:Int) (wrap64 (Aa+1)))=some r:=rh
    have Bh:=Az.mk hy
    clear hy
    have H':=Az.mk H
    clear H
    go_wp2_with (first|((with_reducible refine gate_builtin (b:= .append) (xs:= #[.tmp 30, .tmp 32]) rfl ?_);at_builtin;refine Kd.R_append Kd.string (w0:=w) w.heap.size rfl (.tmp 30) (.tmp 32) 67 9 (.string ⟨#[]⟩) 16 rfl Try.underlying67 info9 rfl (by decide) (by omega) u3 Ad Af [.string Af] (fun _=>True) (fun _=>False) rfl rfl ?aP (fun _ hk=>hk.elim) ?aF ?aO ?aB ?aS ?aL ?_;(case aP=>exact rfl);(case aB=>exact bw_39);(case aF=>exact(fun _ _=>trivial));(case aO=>exact(kR Ac.out));(case aS=>exact(bwZ bw_39));(case aL=>have:=LMc16.out;omega);intro Cn Cs ho hb hg hat;rw[←Bh.out]at ho;have n0_:=Az.mk (hb);have n1_:=Az.mk (ho);clear HB;clear Ac;have HB:=n0_;have Bi:=n1_;clear n0_ n1_;clear ho hb hg hat))
    go_roundg k2
    case measure=>have:=HK1.out;have:=HK2.out;omega
    case rel=>exact⟨(Bf),(wrap64 (Aa+1)),rq2,H',⟨by have:=HK1.out;have:=HK2.out;omega⟩,⟨kR Bi.out⟩,⟨bw_39⟩⟩
   rw[ip Aw]at H
   have Bd:=ode Aw
   clear Aw
   by_cases Bm:0≤Ab
   rotate_left
   ·rw[ig Bm]at H
    exact absurd H (by simp)
   rw[ip Bm]at H
   have Cd:=ode Bm
   clear Bm
   by_cases Bn:Ab<((rd_L1 l0 Aa).length:Int)
   rotate_left
   ·rw[ig Bn]at H
    exact absurd H (by simp)
   rw[ip Bn]at H
   have Ce:=ode Bn
   clear Bn
   replace H:=bez H
   obtain⟨Ap,Co,H⟩:=H
   try dsimp only at H
   by_cases Bj:Af.size+Ap.size≤9223372036854775807
   rotate_left
   ·rw[ig Bj]at H
    exact absurd H (by simp)
   rw[ip Bj]at H
   have Cf:=ets Bj
   have Cg:=ode Bj
   try have Ch:(9223372036854775807<Af.size+Ap.size)=False:=eq_false (Nat.not_lt.2 Bj)
   have H':=Az.mk H
   clear H
   have Au:0≤(Ab:Int):=od
   have Av:Ab<((rd_L1 l0 Aa).length:Int):=od
   obtain⟨Ci,Bx,Ak⟩:=Kd.at_int Ao.out Ab Au Av
   cases Bx
   replace Ak:=kc HB Ak
   replace Au:=ets Au
   replace Av:=ets Av
   go_wp2_with (first|((with_reducible refine gtC (f:=71) rfl ?_);refine clz Try.func71 (some 27) #[.int .i64 (rd (rd_L1 l0 Aa) Ab)] ?_;(with_reducible refine(jQ.calls (rd (rd_L1 l0 Aa) Ab) Ap _ Co.out).mono ?_);rintro e Ct ⟨rfl,hb⟩;refine⟨_,rfl,?_⟩;replace Ac:=Az.mk (Kd.R_below (kR Ac.out) hb);replace HB:=Az.mk (bwT bw_39 hb);(try clear hb)))
   go_roundg k2
   case measure=>have:=HK1.out;have:=HK2.out;omega
   case rel=>exact⟨(Af ++ Ap),(wrap64 (Ab+1)),rq2,rq2,H',⟨by have:=HK1.out;have:=HK2.out;omega⟩,⟨kR Ac.out⟩,⟨bw_39⟩⟩
end Go.Proofs.Ytflbpjijgnmklaa.P

-- The walks, cut and laid together by this session's tools (prune.py, sq2.py, min.py: shorter names, no needless spaces). Not trusted: Lean checks it.
import Derived.Test.YtemeiocmgbgikaaKWZip
import Derived.Test.YtemeiocmgbgikaaKPx21
namespace Go.Proofs.Ytemeiocmgbgikaa.P
open Go.RowKit Go.Proofs.YtemeiocmgbgikaaW.PrintWords Go.Proofs.YtemeiocmgbgikaaW.PrintLast Go.Proofs.YtemeiocmgbgikaaW.PrintMore
attribute [local go_sem] max2_int min2_int max_two min_two max_three min_three max_four min_four   -- for this text's walks alone
set_option linter.unusedVariables false
set_option linter.unusedSimpArgs false
set_option maxHeartbeats 8000000
set_option maxRecDepth 100000
open Option renaming bind_eq_some_iff → be
section
open Bool renaming true → T, false → F
theorem z23_0 {p:Prop} (h:p:=by kernel_rfl):p:=h
theorem bw_23 {n:Nat}{v v':World} (h:Below n v v':=by repeat(first|(with_reducible first|exact HB.out|apply bwA|apply pbN|apply bwD|refine bwS ?_ GB54.out)|exact HB.out)):Below n v v':=h
theorem ln_23 {P:Prop} (h:P:=by(try simp only[List.map_toArray,List.map_cons,List.map_nil]);first|done|rfl|(simp only[List.length_drop,List.length_take];rfl)):P:=h
def fG.j0:Nat→List (List Int)→List Int→Int→Bool→Option (List Int × Bool)
 |0,_,_,_,_=>none
 |k+1,x0,x1,x2,x24=>if x24=true then(some ((([]:List Int)),false)) else((fY.f k x0 x2).bind fun bt487=>((fY.f k x0 (wrap64 (-x2))).bind fun bt489=>(if 0≤bt487.1 then(if bt487.1<(x0.length:Int) then(if 0≤(Int.tmod (wrap64 (bt487.2+1)) 3) then(if(Int.tmod (wrap64 (bt487.2+1)) 3)<((rd_L1 x0 bt487.1).length:Int) then((fZ.f (rd (rd_L1 x0 bt487.1) (Int.tmod (wrap64 (bt487.2+1)) 3))).bind fun t493=>(if 0≤(wrap64 (t493 - 1)) then(if(wrap64 (t493 - 1))<(x1.length:Int) then(if 0≤bt489.1 then(if bt489.1<(x0.length:Int) then(if 0≤(Int.tmod (wrap64 (bt489.2+1)) 3) then(if(Int.tmod (wrap64 (bt489.2+1)) 3)<((rd_L1 x0 bt489.1).length:Int) then((fZ.f (rd (rd_L1 x0 bt489.1) (Int.tmod (wrap64 (bt489.2+1)) 3))).bind fun t497=>(if 0≤(wrap64 (t497 - 1)) then(if(wrap64 (t497 - 1))<(x1.length:Int) then(if 0≤(Int.tmod (wrap64 (bt487.2+2)) 3) then(if(Int.tmod (wrap64 (bt487.2+2)) 3)<((rd_L1 x0 bt487.1).length:Int) then((fZ.f (rd (rd_L1 x0 bt487.1) (Int.tmod (wrap64 (bt487.2+2)) 3))).bind fun t501=>(if 0≤(wrap64 (t501 - 1)) then(if(wrap64 (t501 - 1))<(x1.length:Int) then(if 0≤(Int.tmod (wrap64 (bt489.2+2)) 3) then(if(Int.tmod (wrap64 (bt489.2+2)) 3)<((rd_L1 x0 bt489.1).length:Int) then((fZ.f (rd (rd_L1 x0 bt489.1) (Int.tmod (wrap64 (bt489.2+2)) 3))).bind fun t505=>(if 0≤(wrap64 (t505 - 1)) then(if(wrap64 (t505 - 1))<(x1.length:Int) then((some (([]:List Int):List Int)).bind fun y507=>(if y507.length+x1.length<17592186044416 then((some (y507 ++ x1:List Int)).bind fun y510=>((jQ.f (wrap64 ((rd x1 (wrap64 (t493 - 1)))+(rd x1 (wrap64 (t497 - 1))))) (wrap64 ((rd x1 (wrap64 (t501 - 1)))+(rd x1 (wrap64 (t505 - 1)))))).bind fun t513=>(if 0≤(wrap64 (x2 - 1)) then(if(wrap64 (x2 - 1))<(x1.length:Int) then(if(wrap64 (x2 - 1))<(y510.length:Int) then(if(wrap64 (t513 - (rd x1 (wrap64 (x2 - 1)))))>200 then(some ((([]:List Int)),false)) else(some ((y510.set ((wrap64 (x2 - 1)):Int).toNat (wrap64 (t513 - (rd x1 (wrap64 (x2 - 1)))))),true))) else(none)) else(none)) else(none)))) else(none))) else(none)) else(none))) else(none)) else(none)) else(none)) else(none))) else(none)) else(none)) else(none)) else(none))) else(none)) else(none)) else(none)) else(none)) else(none)) else(none))) else(none)) else(none)) else(none)) else(none))))
def fG.f (k:Nat) (l0:List (List Int)) (l1:List Int) (a2:Int):Option (List Int × Bool):=(jM.f k l0 a2).bind fun t482=>(if t482=true then((fI.f k l0 l1).bind fun t483=>(fG.j0 k l0 l1 a2 (!t483))) else(fG.j0 k l0 l1 a2 true))
def fG.T5:Bool × List (List Nat × List Nat):=(true,[([],[]),([],[]),([],[]),([1,2],[1,2]),([3],[3]),([],[]),([5],[5]),([6],[6]),([4,7],[4,7]),([8],[8]),([9],[9]),([10],[10]),([0,11],[0,11]),([12],[12]),([],[]),([],[]),([],[]),([15,16],[15,16]),([17],[17]),([],[]),([19],[19]),([20],[20]),([18,21],[18,21]),([22],[22]),([23,10],[23]),([24],[24]),([14,25],[14,25]),([26],[26]),([13,27],[13,27]),([28,24,0,1,2,3,4,5,6,7,8,9,10,11,12,13,14,15,16,17,18,19,20,21,22,23,24,25,26,27,28],[28])])
def fG.B5:List Nat:=[0,0,0,6,14,0,32,96,254,510,1022,2046,4095,8191,0,0,0,98304,229376,0,524288,1572864,4161536,8355840,16746494,33523710,67094526,134203390,268435455,536870911]
theorem fG.tab5:rtab .any (opsOf Try.f9 5)=fG.T5:=by kernel_rfl
theorem fG.bits5:waitsOk fG.T5.2 fG.B5=true:=by kernel_rfl
def fG.T6:Bool × List (List Nat × List Nat):=(true,[([],[]),([],[]),([],[]),([1,2],[1,2]),([3],[3]),([],[]),([5],[5]),([6],[6]),([4,7],[4,7]),([8],[8]),([9],[9]),([10],[10]),([0,11],[0,11]),([12],[12]),([],[]),([],[]),([],[]),([15,16],[15,16]),([17],[17]),([],[]),([19],[19]),([20],[20]),([18,21],[18,21]),([22],[22]),([23,10],[23]),([24],[24]),([14,25],[14,25]),([26],[26]),([13,27],[13,27]),([28,24,0,1,2,3,4,5,6,7,8,9,10,11,12,13,14,15,16,17,18,19,20,21,22,23,24,25,26,27,28],[28])])
def fG.B6:List Nat:=[0,0,0,6,14,0,32,96,254,510,1022,2046,4095,8191,0,0,0,98304,229376,0,524288,1572864,4161536,8355840,16746494,33523710,67094526,134203390,268435455,536870911]
theorem fG.tab6:rtab .any (opsOf Try.f9 6)=fG.T6:=by kernel_rfl
theorem fG.bits6:waitsOk fG.T6.2 fG.B6=true:=by kernel_rfl
def fG.T8:Bool × List (List Nat × List Nat):=(true,[([],[]),([],[]),([1],[1]),([],[]),([],[]),([3,4],[3,4]),([],[]),([],[]),([7],[7]),([6,8],[6,8]),([9],[9]),([5,10],[5,10]),([0,2,0,1,2,3,4,5,6,7,8,9,10,11],[0,2]),([12,11,5,0,1,2,3,4,5,6,7,8,9,10,11],[11,12])])
def fG.B8:List Nat:=[0,0,2,0,0,24,0,0,128,448,960,2040,4095,8191]
theorem fG.tab8:rtab .any (opsOf Try.f9 8)=fG.T8:=by kernel_rfl
theorem fG.bits8:waitsOk fG.T8.2 fG.B8=true:=by kernel_rfl
theorem fG.calls (k:Nat) (A0:Option Addr) (c0:Nat) (l0:List (List Int)) (A1:Option Addr) (c1:Nat) (l1:List Int) (a2:Int) (r1:List Int) (r2:Bool) (w:World) (Jt:Kd.C (Kd.slice 3 (Kd.int .i64)) w A0 l0.length l0) (Ju:l0.length≤c0) (Jv:Kd.C (Kd.int .i64) w A1 l1.length l1) (Jw:l1.length≤c1) (h:fG.f k l0 l1 a2=some (r1,r2)):
  Calls Try.prog 9 #[.slice A0 l0.length c0, .slice A1 l1.length c1, .int .i64 a2] w fun e w'=>∃v0_:Value,e= .returned (.tuple #[v0_, .bool r2])∧Kd.R (Kd.int .i64) 3 w' w.heap.size (fun _=>True) v0_ r1∧Below w.heap.size w w':=by
 have Db:=Az.mk Jt
 have Gs:=Az.mk Ju
 clear Jt Ju
 have Ei:=Az.mk Jv
 have Kx:=Az.mk Jw
 clear Jv Jw
 have HB:=Az.mk (Below.refl w.heap.size w)
 have H:=h
 unfold fG.f at H
 clear h
 have Jh:=Az.mk H
 clear H
 go_enter Try.func9,Try.ntmps9
 go_upto_region 1 with (fail)
 go_cut [24] (fun Ky wc=>∃(kq:Nat) (Eg:Bool),Ky= .bool Eg∧Az (fG.j0 kq l0 l1 a2 Eg=some (r1,r2))∧Az (kq≤k)∧Az (Below w.heap.size w wc))
 case first=>
  have H:=Jh.out
  clear Jh
  replace H:=bez H
  obtain⟨Ji,A5,H⟩:=H
  try dsimp only at H
  by_cases c6:Ji=true
  rotate_left
  ·replace c6:=Bool.eq_false_iff.mpr c6
   subst c6
   rw[ig ff]at H
   have H':=Az.mk H
   clear H
   go_wp2_with (first|((with_reducible refine gtC (f:=36) rfl ?_);refine clz Try.func36 (some 17) #[.slice A0 l0.length c0, .int .i64 a2] ?_;(with_reducible refine(jM.calls k _ _ l0 a2 false _ ?Ay ?Ba A5.out).mono ?_);(case Ay=>exact kC (Kd.C_below Db.out HB.out));(case Ba=>exact Gs.out);rintro e Ld ⟨rfl,hb⟩;refine⟨_,rfl,?_⟩;replace HB:=Az.mk (bwT bw_23 hb);(try clear hb)))
   go_meet
   case rel=>exact⟨_,(true),rq2,H',⟨by first|omega|exact Nat.le_refl _⟩,⟨bw_23⟩⟩
  subst c6
  rw[ip rfl]at H
  replace H:=bez H
  obtain⟨Ht,A7,H⟩:=H
  try dsimp only at H
  have H':=Az.mk H
  clear H
  go_wp2_with (first|((with_reducible refine gtC (f:=36) rfl ?_);refine clz Try.func36 (some 17) #[.slice A0 l0.length c0, .int .i64 a2] ?_;(with_reducible refine(jM.calls k _ _ l0 a2 true _ ?Ay ?Ba A5.out).mono ?_);(case Ay=>exact kC (Kd.C_below Db.out HB.out));(case Ba=>exact Gs.out);rintro e w8 ⟨rfl,hb⟩;refine⟨_,rfl,?_⟩;replace HB:=Az.mk (bwT bw_23 hb);(try clear hb))|(go_at_call 29;(with_reducible refine(fI.calls k _ _ l0 _ _ l1 Ht _ ?Ay ?Ba ?Hu ?Hv A7.out).mono ?_);(case Ay=>exact kC (Kd.C_below Db.out HB.out));(case Ba=>exact Gs.out);(case Hu=>exact kC (Kd.C_below Ei.out HB.out));(case Hv=>exact Kx.out);rintro e w9 ⟨rfl,hb⟩;replace HB:=Az.mk (bwT bw_23 hb);(try clear hb)))
  go_meet
  case rel=>exact⟨_,(!Ht),rq2,H',⟨by first|omega|exact Nat.le_refl _⟩,⟨bw_23⟩⟩
 clear Jh
 try clear c1
 try clear c6
 obtain⟨kq,Eg,rfl,HA,Le,HB⟩:=hcut
 cases kq with
 |zero=>exact absurd HA.out (by simp[fG.j0])
 |succ Ie=>
  have H:=HA.out
  clear HA
  simp only[fG.j0]at H
  by_cases Ig:Eg=true
  ·subst Ig
   rw[ip rfl]at H
   obtain⟨Jj,hy⟩:∃y_:List Int,y_=(([]:List Int)):=⟨_,rfl⟩
   replace H:(some (Jj,false))=some (r1,r2):=rh
   have Gm:=Az.mk hy
   clear hy
   simp only[Option.some.injEq,Prod.mk.injEq]at H
   obtain⟨rfl,rfl⟩:=H
   go_wp2_with (first|((with_reducible refine gtD (N:=25) rfl ?_);refine Kd.R_lit (Kd.int .i64) _ 3 ?hg (N:=25) ?hd (xs:=([]:List Int)) (inner:=[]) (ok:=fun _=>True) (okp:=fun _=>True) ?hr ?hp (fun _ hk=>hk) trivial (Below.refl _ _) (Nat.le_refl _) (by simp) ?_;(case hd=>rfl);(case hg=>rfl);(case hr=>first|(go_simp;done)|(go_simp;rfl));(case hp=>exact(Reps.none _ _));intro Kz w12 El hb hg_ hnew_;clear hg_ hnew_;(first|rw[←Gm.out]at El|(simp only[Int.reduceToNat]at El;rw[←Gm.out]at El));have Hw:=Az.mk (Kd.R_lower El (bwZ bw_23));replace HB:=Az.mk (bwT bw_23 hb);clear hb El))
   go_ret2
   exact⟨_,rq1,kR Hw.out,bw_23⟩
  replace Ig:=Bool.eq_false_iff.mpr Ig
  subst Ig
  rw[ig ff]at H
  replace H:=bez H
  obtain⟨⟨Aa,Gc⟩,Em,H⟩:=H
  try dsimp only at H
  replace H:=bez H
  obtain⟨⟨Ab,Gd⟩,Eo,H⟩:=H
  try dsimp only at H
  by_cases Ih:0≤Aa
  rotate_left
  ·rw[ig Ih]at H
   exact absurd H (by simp)
  rw[ip Ih]at H
  have Jx:=ode Ih
  clear Ih
  by_cases Ii:Aa<(l0.length:Int)
  rotate_left
  ·rw[ig Ii]at H
   exact absurd H (by simp)
  rw[ip Ii]at H
  have Jy:=ode Ii
  clear Ii
  obtain⟨By,Ct⟩:∃j_:Int,(Int.tmod (wrap64 (Gc+1)) 3)=j_:=⟨_,rfl⟩
  first|rw[Ct]at H|simp only[Ct]at H
  (try rw[Ct]at Em)
  (try rw[Ct]at Eo)
  by_cases Ij:0≤(By)
  rotate_left
  ·rw[ig Ij]at H
   exact absurd H (by simp)
  rw[ip Ij]at H
  have Jz:=ode Ij
  clear Ij
  by_cases Ik:(By)<((rd_L1 l0 Aa).length:Int)
  rotate_left
  ·rw[ig Ik]at H
   exact absurd H (by simp)
  rw[ip Ik]at H
  have Ka:=ode Ik
  clear Ik
  replace H:=bez H
  obtain⟨Ge,Gb,H⟩:=H
  try dsimp only at H
  obtain⟨Bc,Cc⟩:∃j_:Int,(wrap64 (Ge - 1))=j_:=⟨_,rfl⟩
  first|rw[Cc]at H|simp only[Cc]at H
  (try rw[Cc]at Em)
  (try rw[Cc]at Eo)
  (try rw[Cc]at Gb)
  have hji22w:(IntKind.i64.wrap (Ge - 1))=Bc:=(i64_w _).trans Cc
  by_cases Il:0≤(Bc)
  rotate_left
  ·rw[ig Il]at H
   exact absurd H (by simp)
  rw[ip Il]at H
  have Kb:=ode Il
  clear Il
  by_cases Im:(Bc)<(l1.length:Int)
  rotate_left
  ·rw[ig Im]at H
   exact absurd H (by simp)
  rw[ip Im]at H
  have Ke:=ode Im
  clear Im
  by_cases In:0≤Ab
  rotate_left
  ·rw[ig In]at H
   exact absurd H (by simp)
  rw[ip In]at H
  have Kf:=ode In
  clear In
  by_cases Io:Ab<(l0.length:Int)
  rotate_left
  ·rw[ig Io]at H
   exact absurd H (by simp)
  rw[ip Io]at H
  have Kg:=ode Io
  clear Io
  obtain⟨Bz,Cf⟩:∃j_:Int,(Int.tmod (wrap64 (Gd+1)) 3)=j_:=⟨_,rfl⟩
  first|rw[Cf]at H|simp only[Cf]at H
  (try rw[Cf]at Em)
  (try rw[Cf]at Eo)
  (try rw[Cf]at Gb)
  by_cases Ip:0≤(Bz)
  rotate_left
  ·rw[ig Ip]at H
   exact absurd H (by simp)
  rw[ip Ip]at H
  have Kh:=ode Ip
  clear Ip
  by_cases Iq:(Bz)<((rd_L1 l0 Ab).length:Int)
  rotate_left
  ·rw[ig Iq]at H
   exact absurd H (by simp)
  rw[ip Iq]at H
  have Ki:=ode Iq
  clear Iq
  replace H:=bez H
  obtain⟨Gf,Gn,H⟩:=H
  try dsimp only at H
  obtain⟨Bd,Bw⟩:∃j_:Int,(wrap64 (Gf - 1))=j_:=⟨_,rfl⟩
  first|rw[Bw]at H|simp only[Bw]at H
  (try rw[Bw]at Em)
  (try rw[Bw]at Eo)
  (try rw[Bw]at Gb)
  (try rw[Bw]at Gn)
  have hji31w:(IntKind.i64.wrap (Gf - 1))=Bd:=(i64_w _).trans Bw
  by_cases Ir:0≤(Bd)
  rotate_left
  ·rw[ig Ir]at H
   exact absurd H (by simp)
  rw[ip Ir]at H
  have Kj:=ode Ir
  clear Ir
  by_cases It:(Bd)<(l1.length:Int)
  rotate_left
  ·rw[ig It]at H
   exact absurd H (by simp)
  rw[ip It]at H
  have Kk:=ode It
  clear It
  obtain⟨Ca,Cd⟩:∃j_:Int,(Int.tmod (wrap64 (Gc+2)) 3)=j_:=⟨_,rfl⟩
  first|rw[Cd]at H|simp only[Cd]at H
  (try rw[Cd]at Em)
  (try rw[Cd]at Eo)
  (try rw[Cd]at Gb)
  (try rw[Cd]at Gn)
  by_cases Iu:0≤(Ca)
  rotate_left
  ·rw[ig Iu]at H
   exact absurd H (by simp)
  rw[ip Iu]at H
  have Kl:=ode Iu
  clear Iu
  by_cases Iv:(Ca)<((rd_L1 l0 Aa).length:Int)
  rotate_left
  ·rw[ig Iv]at H
   exact absurd H (by simp)
  rw[ip Iv]at H
  have Km:=ode Iv
  clear Iv
  replace H:=bez H
  obtain⟨Gg,Hr,H⟩:=H
  try dsimp only at H
  obtain⟨Bf,Bu⟩:∃j_:Int,(wrap64 (Gg - 1))=j_:=⟨_,rfl⟩
  first|rw[Bu]at H|simp only[Bu]at H
  (try rw[Bu]at Em)
  (try rw[Bu]at Eo)
  (try rw[Bu]at Gb)
  (try rw[Bu]at Gn)
  (try rw[Bu]at Hr)
  have hji38w:(IntKind.i64.wrap (Gg - 1))=Bf:=(i64_w _).trans Bu
  by_cases Iw:0≤(Bf)
  rotate_left
  ·rw[ig Iw]at H
   exact absurd H (by simp)
  rw[ip Iw]at H
  have Kn:=ode Iw
  clear Iw
  by_cases Ix:(Bf)<(l1.length:Int)
  rotate_left
  ·rw[ig Ix]at H
   exact absurd H (by simp)
  rw[ip Ix]at H
  have Ko:=ode Ix
  clear Ix
  obtain⟨Cb,Bx⟩:∃j_:Int,(Int.tmod (wrap64 (Gd+2)) 3)=j_:=⟨_,rfl⟩
  first|rw[Bx]at H|simp only[Bx]at H
  (try rw[Bx]at Em)
  (try rw[Bx]at Eo)
  (try rw[Bx]at Gb)
  (try rw[Bx]at Gn)
  (try rw[Bx]at Hr)
  by_cases Iy:0≤(Cb)
  rotate_left
  ·rw[ig Iy]at H
   exact absurd H (by simp)
  rw[ip Iy]at H
  have Kp:=ode Iy
  clear Iy
  by_cases Iz:(Cb)<((rd_L1 l0 Ab).length:Int)
  rotate_left
  ·rw[ig Iz]at H
   exact absurd H (by simp)
  rw[ip Iz]at H
  have Kq:=ode Iz
  clear Iz
  replace H:=bez H
  obtain⟨Gh,Ja,H⟩:=H
  try dsimp only at H
  obtain⟨Bh,Bb⟩:∃j_:Int,(wrap64 (Gh - 1))=j_:=⟨_,rfl⟩
  first|rw[Bb]at H|simp only[Bb]at H
  (try rw[Bb]at Em)
  (try rw[Bb]at Eo)
  (try rw[Bb]at Gb)
  (try rw[Bb]at Gn)
  (try rw[Bb]at Hr)
  (try rw[Bb]at Ja)
  have hji45w:(IntKind.i64.wrap (Gh - 1))=Bh:=(i64_w _).trans Bb
  by_cases Jb:0≤(Bh)
  rotate_left
  ·rw[ig Jb]at H
   exact absurd H (by simp)
  rw[ip Jb]at H
  have Kr:=ode Jb
  clear Jb
  by_cases Jc:(Bh)<(l1.length:Int)
  rotate_left
  ·rw[ig Jc]at H
   exact absurd H (by simp)
  rw[ip Jc]at H
  have Ks:=ode Jc
  clear Jc
  obtain⟨Ej,hy⟩:∃y_:List Int,y_=(([]:List Int)):=⟨_,rfl⟩
  replace H:(if Ej.length+l1.length<17592186044416 then((some (Ej ++ l1:List Int)).bind fun Cu=>((jQ.f (wrap64 ((rd l1 (Bc))+(rd l1 (Bd)))) (wrap64 ((rd l1 (Bf))+(rd l1 (Bh))))).bind fun Ce=>(if 0≤(wrap64 (a2 - 1)) then(if(wrap64 (a2 - 1))<(l1.length:Int) then(if(wrap64 (a2 - 1))<(Cu.length:Int) then(if(wrap64 (Ce - (rd l1 (wrap64 (a2 - 1)))))>200 then(some ((([]:List Int)),false)) else(some ((Cu.set ((wrap64 (a2 - 1)):Int).toNat (wrap64 (Ce - (rd l1 (wrap64 (a2 - 1)))))),true))) else(none)) else(none)) else(none)))) else(none))=some (r1,r2):=rh
  have Eh:=Az.mk hy
  clear hy
  by_cases Jd:Ej.length+l1.length<17592186044416
  rotate_left
  ·rw[ig Jd]at H
   exact absurd H (by simp)
  rw[ip Jd]at H
  have LMc48:=Az.mk Jd
  clear Jd
  obtain⟨Cu,hy⟩:∃y_:List Int,y_=(Ej ++ l1):=⟨_,rfl⟩
  replace H:((jQ.f (wrap64 ((rd l1 (Bc))+(rd l1 (Bd)))) (wrap64 ((rd l1 (Bf))+(rd l1 (Bh))))).bind fun Ce=>(if 0≤(wrap64 (a2 - 1)) then(if(wrap64 (a2 - 1))<(l1.length:Int) then(if(wrap64 (a2 - 1))<(Cu.length:Int) then(if(wrap64 (Ce - (rd l1 (wrap64 (a2 - 1)))))>200 then(some ((([]:List Int)),false)) else(some ((Cu.set ((wrap64 (a2 - 1)):Int).toNat (wrap64 (Ce - (rd l1 (wrap64 (a2 - 1)))))),true))) else(none)) else(none)) else(none)))=some (r1,r2):=rh
  have Gp:=Az.mk hy
  clear hy
  replace H:=bez H
  obtain⟨Ce,Jk,H⟩:=H
  try dsimp only at H
  obtain⟨Ac,Bv⟩:∃j_:Int,(wrap64 (a2 - 1))=j_:=⟨_,rfl⟩
  first|rw[Bv]at H|simp only[Bv]at H
  (try rw[Bv]at Em)
  (try rw[Bv]at Eo)
  (try rw[Bv]at Gb)
  (try rw[Bv]at Gn)
  (try rw[Bv]at Hr)
  (try rw[Bv]at Ja)
  (try rw[Bv]at Jk)
  have hji50w:(IntKind.i64.wrap (a2 - 1))=Ac:=(i64_w _).trans Bv
  by_cases Je:0≤(Ac)
  rotate_left
  ·rw[ig Je]at H
   exact absurd H (by simp)
  rw[ip Je]at H
  have Ku:=ode Je
  clear Je
  by_cases Jf:(Ac)<(l1.length:Int)
  rotate_left
  ·rw[ig Jf]at H
   exact absurd H (by simp)
  rw[ip Jf]at H
  have Kv:=ode Jf
  clear Jf
  by_cases Jg:(Ac)<(Cu.length:Int)
  rotate_left
  ·rw[ig Jg]at H
   exact absurd H (by simp)
  rw[ip Jg]at H
  have Kw:=ode Jg
  clear Jg
  obtain⟨Jl,hy⟩:∃y_:List Int,y_=(Cu.set ((Ac):Int).toNat (wrap64 (Ce - (rd l1 (Ac))))):=⟨_,rfl⟩
  replace H:(if(wrap64 (Ce - (rd l1 (Ac))))>200 then(some ((([]:List Int)),false)) else(some (Jl,true)))=some (r1,r2):=rh
  have Gq:=Az.mk hy
  clear hy
  by_cases Hs:(wrap64 (Ce - (rd l1 (Ac))))>200
  rotate_left
  ·rw[ig Hs]at H
   have Hx:decide (200<(wrap64 (Ce - (rd l1 (Ac)))))=false:=decide_eq_false Hs
   clear Hs
   simp only[Option.some.injEq,Prod.mk.injEq]at H
   obtain⟨rfl,rfl⟩:=H
   try go_wp2_with (first|((with_reducible refine gtC (f:=37) rfl ?_);refine clz Try.func37 (some 29) #[.slice A0 l0.length c0, .int .i64 a2] ?_;(with_reducible refine(fY.calls Ie _ _ l0 a2 Aa Gc _ ?Ay ?Ba Em.out).mono ?_);(case Ay=>exact kC (Kd.C_below Db.out HB.out));(case Ba=>exact Gs.out);rintro e w' ⟨rfl,⟨nd,rfl⟩⟩;refine⟨_,rfl,?_⟩;(try(rw[drewN_self wc];generalize hq_:World.drewN wc _=wc;have n0_:Az (Below w.heap.size w wc):=⟨by rw[←hq_];exact bw_23⟩;clear HB hq_;have HB:=n0_;clear n0_)))|((with_reducible refine gtC (f:=37) rfl ?_);refine clz Try.func37 (some 36) #[.slice A0 l0.length c0, .int .i64 (wrap64 (-a2))] ?_;(with_reducible refine(fY.calls Ie _ _ l0 (wrap64 (-a2)) Ab Gd _ ?Ay ?Ba Eo.out).mono ?_);(case Ay=>exact kC (Kd.C_below Db.out HB.out));(case Ba=>exact Gs.out);rintro e w' ⟨rfl,⟨nd,rfl⟩⟩;refine⟨_,rfl,?_⟩;(try(rw[drewN_self wc];generalize hq_:World.drewN wc _=wc;have n0_:Az (Below w.heap.size w wc):=⟨by rw[←hq_];exact bw_23⟩;clear HB hq_;have HB:=n0_;clear n0_))))
   replace HB:=Az.mk (bwD HB.out)
   have Dc:0≤(Aa:Int):=od
   have Dd:Aa<(l0.length:Int):=od
   obtain⟨Av,Gt,De,Gu,Ae,Cg,Ch⟩:=at_L1 Db.out Aa Dc Dd
   have Bi:=Ae
   cases Gu
   replace Ae:=kc HB Ae
   have Ci:=Az.mk Ch
   have Gi:=Az.mk Cg
   clear Ch Cg
   replace Dc:=ets Dc
   replace Dd:=ets Dd
   have Df:0≤((By):Int):=od
   have Dg:(By)<((rd_L1 l0 Aa).length:Int):=od
   obtain⟨Cv,Gv,Af⟩:=Kd.at_int Ci.out (By) Df Dg
   have Bj:=Af
   cases Gv
   replace Af:=kc HB Af
   replace Df:=ets Df
   replace Dg:=ets Dg
   have Dh:0≤(Ab:Int):=od
   have Di:Ab<(l0.length:Int):=od
   obtain⟨Ep,Gw,Dj,Gx,Ag,Cj,Ck⟩:=at_L1 Db.out Ab Dh Di
   have Bk:=Ag
   obtain rfl:Av=Ep:=(by injection Gx)
   replace Ag:=kc HB Ag
   have Cl:=Az.mk Ck
   have Gj:=Az.mk Cj
   clear Ck Cj
   replace Dh:=ets Dh
   replace Di:=ets Di
   have Dk:0≤((Bz):Int):=od
   have Dl:(Bz)<((rd_L1 l0 Ab).length:Int):=od
   obtain⟨Cw,Gy,Ah⟩:=Kd.at_int Cl.out (Bz) Dk Dl
   have Bl:=Ah
   cases Gy
   replace Ah:=kc HB Ah
   replace Dk:=ets Dk
   replace Dl:=ets Dl
   have Dm:0≤((Bc):Int):=od
   have Dn:(Bc)<(l1.length:Int):=od
   obtain⟨Ad,Gz,Ai⟩:=Kd.at_int Ei.out (Bc) Dm Dn
   have Bm:=Ai
   cases Gz
   replace Ai:=kc HB Ai
   replace Dm:=ets Dm
   replace Dn:=ets Dn
   have Do:0≤((Bd):Int):=od
   have Dp:(Bd)<(l1.length:Int):=od
   obtain⟨Er,Ha,Aj⟩:=Kd.at_int Ei.out (Bd) Do Dp
   have Bn:=Aj
   obtain rfl:Ad=Er:=(by injection Ha)
   replace Aj:=kc HB Aj
   replace Do:=ets Do
   replace Dp:=ets Dp
   refine start_ (n:=30) (S:=fun w'=>w'.cell? (Av.add (Aa).toNat)=some (.slice (some Cv) (rd_L1 l0 Aa).length De)∧w'.cell? (Cv.add ((By)).toNat)=some (.int .i64 (rd (rd_L1 l0 Aa) (By)))∧w'.cell? (Av.add (Ab).toNat)=some (.slice (some Cw) (rd_L1 l0 Ab).length Dj)∧w'.cell? (Cw.add ((Bz)).toNat)=some (.int .i64 (rd (rd_L1 l0 Ab) (Bz)))∧w'.cell? (Ad.add ((Bc)).toNat)=some (.int .i64 (rd l1 (Bc)))∧w'.cell? (Ad.add ((Bd)).toNat)=some (.int .i64 (rd l1 (Bd)))) (ds:=[]) #[F,F,F,F,F,F,F,F,F,F,F,F,F,F,F,F,F,F,F,F,F,F,F,F,F,F,F,F,F,F] z23_0 rfl rfl ⟨(kc HB Bi),(kc HB Bj),(kc HB Bk),(kc HB Bl),(kc HB Bm),(kc HB Bn)⟩ (fun hHeld=>?_);refine with_tabW fG.tab5 fG.bits5 (fun HT_ HW_=>?_)
   generalize wc.drew=Hy at HB Ci Cl Ae Af Ai Ag Ah Aj hHeld ⊢
   refine pu (i:=0) (N:=some 39) #[T,F,F,F,F,F,F,F,F,F,F,F,F,F,F,F,F,F,F,F,F,F,F,F,F,F,F,F,F,F] (any_of HT_.out z23_0) ?_
   refine pu (i:=1) (N:=some 40) #[T,T,F,F,F,F,F,F,F,F,F,F,F,F,F,F,F,F,F,F,F,F,F,F,F,F,F,F,F,F] (any_of HT_.out z23_0) ?_
   refine pu (i:=2) (N:=some 41) #[T,T,T,F,F,F,F,F,F,F,F,F,F,F,F,F,F,F,F,F,F,F,F,F,F,F,F,F,F,F] (any_of HT_.out z23_0) ?_
   refine pu (i:=3) (N:=some 42) #[T,T,T,T,F,F,F,F,F,F,F,F,F,F,F,F,F,F,F,F,F,F,F,F,F,F,F,F,F,F] (any_of HT_.out z23_0) ?_
   refine pu (i:=5) (N:=some 44) #[T,T,T,T,F,T,F,F,F,F,F,F,F,F,F,F,F,F,F,F,F,F,F,F,F,F,F,F,F,F] (any_of HT_.out z23_0) ?_
   refine pu (i:=6) (N:=some 45) #[T,T,T,T,F,T,T,F,F,F,F,F,F,F,F,F,F,F,F,F,F,F,F,F,F,F,F,F,F,F] (any_of HT_.out z23_0) ?_
   refine pu (i:=7) (N:=some 46) #[T,T,T,T,F,T,T,T,F,F,F,F,F,F,F,F,F,F,F,F,F,F,F,F,F,F,F,F,F,F] (any_of HT_.out z23_0) ?_
   refine pu (i:=14) (N:=some 53) #[T,T,T,T,F,T,T,T,F,F,F,F,F,F,T,F,F,F,F,F,F,F,F,F,F,F,F,F,F,F] (any_of HT_.out z23_0) ?_
   refine pu (i:=15) (N:=some 54) #[T,T,T,T,F,T,T,T,F,F,F,F,F,F,T,T,F,F,F,F,F,F,F,F,F,F,F,F,F,F] (any_of HT_.out z23_0) ?_
   refine pu (i:=16) (N:=some 55) #[T,T,T,T,F,T,T,T,F,F,F,F,F,F,T,T,T,F,F,F,F,F,F,F,F,F,F,F,F,F] (any_of HT_.out z23_0) ?_
   refine pu (i:=17) (N:=some 56) #[T,T,T,T,F,T,T,T,F,F,F,F,F,F,T,T,T,T,F,F,F,F,F,F,F,F,F,F,F,F] (any_of HT_.out z23_0) ?_
   refine pu (i:=19) (N:=some 58) #[T,T,T,T,F,T,T,T,F,F,F,F,F,F,T,T,T,T,F,T,F,F,F,F,F,F,F,F,F,F] (any_of HT_.out z23_0) ?_
   refine pu (i:=20) (N:=some 59) #[T,T,T,T,F,T,T,T,F,F,F,F,F,F,T,T,T,T,F,T,T,F,F,F,F,F,F,F,F,F] (any_of HT_.out z23_0) ?_
   refine pu (i:=21) (N:=some 60) #[T,T,T,T,F,T,T,T,F,F,F,F,F,F,T,T,T,T,F,T,T,T,F,F,F,F,F,F,F,F] (any_of HT_.out z23_0) ?_
   refine take_ (i:=4) (N:=some 43) (v:=?_) (a':=?_) #[T,T,T,T,T,T,T,T,F,F,F,F,F,F,T,T,T,T,F,T,T,T,F,F,F,F,F,F,F,F] rfl rfl (take_ofW HT_.out HW_.out z23_0) (fun _ _ _ h=>h) (Or.inl ⟨by rfl,?_⟩) hHeld ?_ ?_
   rotate_left
   ·rintro w' ⟨s0,s1,s2,s3,s4,s5⟩
    go_simp
    with_reducible rfl
   rotate_left
   ·exact acq
   refine pu (i:=8) (N:=some 47) #[T,T,T,T,T,T,T,T,T,F,F,F,F,F,T,T,T,T,F,T,T,T,F,F,F,F,F,F,F,F] (any_of HT_.out z23_0) ?_
   refine take_ (i:=9) (N:=some 48) (v:=?_) (a':=?_) #[T,T,T,T,T,T,T,T,T,T,F,F,F,F,T,T,T,T,F,T,T,T,F,F,F,F,F,F,F,F] rfl rfl (take_ofW HT_.out HW_.out z23_0) (fun _ _ _ h=>h) (Or.inl ⟨by rfl,?_⟩) hHeld ?_ ?_
   rotate_left
   ·rintro w' ⟨s0,s1,s2,s3,s4,s5⟩
    go_simp
    with_reducible rfl
   rotate_left
   ·exact acq
   refine take_ (i:=18) (N:=some 57) (v:=?_) (a':=?_) #[T,T,T,T,T,T,T,T,T,T,F,F,F,F,T,T,T,T,T,T,T,T,F,F,F,F,F,F,F,F] rfl rfl (take_ofW HT_.out HW_.out z23_0) (fun _ _ _ h=>h) (Or.inl ⟨by rfl,?_⟩) hHeld ?_ ?_
   rotate_left
   ·rintro w' ⟨s0,s1,s2,s3,s4,s5⟩
    go_simp
    with_reducible rfl
   rotate_left
   ·exact acq
   refine pu (i:=22) (N:=some 61) #[T,T,T,T,T,T,T,T,T,T,F,F,F,F,T,T,T,T,T,T,T,T,T,F,F,F,F,F,F,F] (any_of HT_.out z23_0) ?_
   refine take_ (i:=23) (N:=some 62) (v:=?_) (a':=?_) #[T,T,T,T,T,T,T,T,T,T,F,F,F,F,T,T,T,T,T,T,T,T,T,T,F,F,F,F,F,F] rfl rfl (take_ofW HT_.out HW_.out z23_0) (fun _ _ _ h=>h) (Or.inl ⟨by rfl,?_⟩) hHeld ?_ ?_
   rotate_left
   ·rintro w' ⟨s0,s1,s2,s3,s4,s5⟩
    go_simp
    with_reducible rfl
   rotate_left
   ·exact acq
   refine one_ (i:=10) (N:=some 49) #[T,T,T,T,T,T,T,T,T,T,T,F,F,F,T,T,T,T,T,T,T,T,T,T,F,F,F,F,F,F] rfl rfl (one_of HT_.out z23_0) (by decide) (fun K hK=>?_)
   refine goes_ Try.func43 z23_0 rfl #[.int .i64 (rd (rd_L1 l0 Aa) (By))] (by rfl) rfl rfl (by(try simp only[List.map_toArray,List.map_cons,List.map_nil]);first|done|(simp only[Ct];rfl)|rfl|(simp only[List.length_drop,List.length_take];rfl)) ?_
   with_reducible refine(fZ.calls (rd (rd_L1 l0 Aa) (By)) Ge _ Gb.out).mono ?_
   rintro e w' ⟨rfl,⟨nd,rfl⟩⟩
   refine⟨_,rfl,?_⟩
   refine hK.out _ _ ⟨(kc HB Bi),(kc HB Bj),(kc HB Bk),(kc HB Bl),(kc HB Bm),(kc HB Bn)⟩ (fun hHeld=>?_)
   clear hK K
   refine norm_ (a':=?_) ?_ ?_
   rotate_left
   ·show Act.put _ (some 49) _=_
    exact acq
   refine pu (i:=11) (N:=some 50) #[T,T,T,T,T,T,T,T,T,T,T,T,F,F,T,T,T,T,T,T,T,T,T,T,F,F,F,F,F,F] (any_of HT_.out z23_0) ?_
   refine pu (i:=12) (N:=some 51) #[T,T,T,T,T,T,T,T,T,T,T,T,T,F,T,T,T,T,T,T,T,T,T,T,F,F,F,F,F,F] (any_of HT_.out z23_0) ?_
   refine take_ (i:=13) (N:=some 52) (v:=?_) (a':=?_) #[T,T,T,T,T,T,T,T,T,T,T,T,T,T,T,T,T,T,T,T,T,T,T,T,F,F,F,F,F,F] rfl rfl (take_ofW HT_.out HW_.out z23_0) (fun _ _ _ h=>h) (Or.inl ⟨by rfl,?_⟩) hHeld ?_ ?_
   rotate_left
   ·rintro w' ⟨s0,s1,s2,s3,s4,s5⟩
    go_simp
    with_reducible rfl
   rotate_left
   ·exact acq
   refine one_ (i:=24) (N:=some 63) #[T,T,T,T,T,T,T,T,T,T,T,T,T,T,T,T,T,T,T,T,T,T,T,T,T,F,F,F,F,F] rfl rfl (one_of HT_.out z23_0) (by decide) (fun K hK=>?_)
   refine goes_ Try.func43 z23_0 rfl #[.int .i64 (rd (rd_L1 l0 Ab) (Bz))] (by rfl) rfl rfl (by(try simp only[List.map_toArray,List.map_cons,List.map_nil]);first|done|(simp only[Cf];rfl)|rfl|(simp only[List.length_drop,List.length_take];rfl)) ?_
   with_reducible refine(fZ.calls (rd (rd_L1 l0 Ab) (Bz)) Gf _ Gn.out).mono ?_
   rintro e w' ⟨rfl,⟨nd,rfl⟩⟩
   refine⟨_,rfl,?_⟩
   refine hK.out _ _ ⟨(kc HB Bi),(kc HB Bj),(kc HB Bk),(kc HB Bl),(kc HB Bm),(kc HB Bn)⟩ (fun hHeld=>?_)
   clear hK K
   refine norm_ (a':=?_) ?_ ?_
   rotate_left
   ·show Act.put _ (some 63) _=_
    exact acq
   refine pu (i:=25) (N:=some 64) #[T,T,T,T,T,T,T,T,T,T,T,T,T,T,T,T,T,T,T,T,T,T,T,T,T,T,F,F,F,F] (any_of HT_.out z23_0) ?_
   refine pu (i:=26) (N:=some 65) #[T,T,T,T,T,T,T,T,T,T,T,T,T,T,T,T,T,T,T,T,T,T,T,T,T,T,T,F,F,F] (any_of HT_.out z23_0) ?_
   refine take_ (i:=27) (N:=some 66) (v:=?_) (a':=?_) #[T,T,T,T,T,T,T,T,T,T,T,T,T,T,T,T,T,T,T,T,T,T,T,T,T,T,T,T,F,F] rfl rfl (take_ofW HT_.out HW_.out z23_0) (fun _ _ _ h=>h) (Or.inl ⟨by rfl,?_⟩) hHeld ?_ ?_
   rotate_left
   ·rintro w' ⟨s0,s1,s2,s3,s4,s5⟩
    go_simp
    with_reducible rfl
   rotate_left
   ·exact acq
   refine pu (i:=28) (N:=some 67) #[T,T,T,T,T,T,T,T,T,T,T,T,T,T,T,T,T,T,T,T,T,T,T,T,T,T,T,T,T,F] (any_of HT_.out z23_0) ?_
   refine pu (i:=29) (N:=some 12) #[T,T,T,T,T,T,T,T,T,T,T,T,T,T,T,T,T,T,T,T,T,T,T,T,T,T,T,T,T,T] (any_of HT_.out z23_0) ?_
   refine done_ (done_of HT_.out z23_0) ?_
   try go_wp2
   (try(rw[drewN_self Hy];generalize hq_:World.drewN Hy _=Hy;have n0_:Az (Below w.heap.size w Hy):=⟨by rw[←hq_];exact bw_23⟩;clear HB hq_;have HB:=n0_;clear n0_))
   replace HB:=Az.mk (bwD HB.out)
   have Dq:0≤(Aa:Int):=od
   have Dr:Aa<(l0.length:Int):=od
   obtain⟨Es,Hb,Ds,Hc,Ak,Cm,Cn⟩:=at_L1 Db.out Aa Dq Dr
   have Bo:=Ak
   obtain rfl:Av=Es:=(by injection Hc)
   replace Ak:=kc HB Ak
   have Co:=Az.mk Cn
   have Gk:=Az.mk Cm
   clear Cn Cm
   replace Dq:=ets Dq
   replace Dr:=ets Dr
   have Dt:0≤((Ca):Int):=od
   have Du:(Ca)<((rd_L1 l0 Aa).length:Int):=od
   obtain⟨Cy,Hd,Al⟩:=Kd.at_int Co.out (Ca) Dt Du
   have Bp:=Al
   cases Hd
   replace Al:=kc HB Al
   replace Dt:=ets Dt
   replace Du:=ets Du
   have Dv:0≤(Ab:Int):=od
   have Dw:Ab<(l0.length:Int):=od
   obtain⟨Et,He,Dx,Hf,Am,Cp,Cq⟩:=at_L1 Db.out Ab Dv Dw
   have Bq:=Am
   obtain rfl:Av=Et:=(by injection Hf)
   replace Am:=kc HB Am
   have Cr:=Az.mk Cq
   have Gl:=Az.mk Cp
   clear Cq Cp
   replace Dv:=ets Dv
   replace Dw:=ets Dw
   have Dy:0≤((Cb):Int):=od
   have Dz:(Cb)<((rd_L1 l0 Ab).length:Int):=od
   obtain⟨Cz,Hg,Ap⟩:=Kd.at_int Cr.out (Cb) Dy Dz
   have Br:=Ap
   cases Hg
   replace Ap:=kc HB Ap
   replace Dy:=ets Dy
   replace Dz:=ets Dz
   have Ea:0≤((Bf):Int):=od
   have Eb:(Bf)<(l1.length:Int):=od
   obtain⟨Eu,Hh,Aq⟩:=Kd.at_int Ei.out (Bf) Ea Eb
   have Bs:=Aq
   obtain rfl:Ad=Eu:=(by injection Hh)
   replace Aq:=kc HB Aq
   replace Ea:=ets Ea
   replace Eb:=ets Eb
   have Ec:0≤((Bh):Int):=od
   have Ed:(Bh)<(l1.length:Int):=od
   obtain⟨Ev,Hi,As⟩:=Kd.at_int Ei.out (Bh) Ec Ed
   have Bt:=As
   obtain rfl:Ad=Ev:=(by injection Hi)
   replace As:=kc HB As
   replace Ec:=ets Ec
   replace Ed:=ets Ed
   refine start_ (n:=30) (S:=fun w'=>w'.cell? (Av.add (Aa).toNat)=some (.slice (some Cy) (rd_L1 l0 Aa).length Ds)∧w'.cell? (Cy.add ((Ca)).toNat)=some (.int .i64 (rd (rd_L1 l0 Aa) (Ca)))∧w'.cell? (Av.add (Ab).toNat)=some (.slice (some Cz) (rd_L1 l0 Ab).length Dx)∧w'.cell? (Cz.add ((Cb)).toNat)=some (.int .i64 (rd (rd_L1 l0 Ab) (Cb)))∧w'.cell? (Ad.add ((Bf)).toNat)=some (.int .i64 (rd l1 (Bf)))∧w'.cell? (Ad.add ((Bh)).toNat)=some (.int .i64 (rd l1 (Bh)))) (ds:=[]) #[F,F,F,F,F,F,F,F,F,F,F,F,F,F,F,F,F,F,F,F,F,F,F,F,F,F,F,F,F,F] z23_0 rfl rfl ⟨(kc HB Bo),(kc HB Bp),(kc HB Bq),(kc HB Br),(kc HB Bs),(kc HB Bt)⟩ (fun hHeld=>?_);refine with_tabW fG.tab6 fG.bits6 (fun HT_ HW_=>?_)
   generalize Hy.drew=Lf at HB Co Cr Ak Al Aq Am Ap As hHeld ⊢
   refine pu (i:=0) (N:=some 68) #[T,F,F,F,F,F,F,F,F,F,F,F,F,F,F,F,F,F,F,F,F,F,F,F,F,F,F,F,F,F] (any_of HT_.out z23_0) ?_
   refine pu (i:=1) (N:=some 69) #[T,T,F,F,F,F,F,F,F,F,F,F,F,F,F,F,F,F,F,F,F,F,F,F,F,F,F,F,F,F] (any_of HT_.out z23_0) ?_
   refine pu (i:=2) (N:=some 70) #[T,T,T,F,F,F,F,F,F,F,F,F,F,F,F,F,F,F,F,F,F,F,F,F,F,F,F,F,F,F] (any_of HT_.out z23_0) ?_
   refine pu (i:=3) (N:=some 71) #[T,T,T,T,F,F,F,F,F,F,F,F,F,F,F,F,F,F,F,F,F,F,F,F,F,F,F,F,F,F] (any_of HT_.out z23_0) ?_
   refine pu (i:=5) (N:=some 73) #[T,T,T,T,F,T,F,F,F,F,F,F,F,F,F,F,F,F,F,F,F,F,F,F,F,F,F,F,F,F] (any_of HT_.out z23_0) ?_
   refine pu (i:=6) (N:=some 74) #[T,T,T,T,F,T,T,F,F,F,F,F,F,F,F,F,F,F,F,F,F,F,F,F,F,F,F,F,F,F] (any_of HT_.out z23_0) ?_
   refine pu (i:=7) (N:=some 75) #[T,T,T,T,F,T,T,T,F,F,F,F,F,F,F,F,F,F,F,F,F,F,F,F,F,F,F,F,F,F] (any_of HT_.out z23_0) ?_
   refine pu (i:=14) (N:=some 82) #[T,T,T,T,F,T,T,T,F,F,F,F,F,F,T,F,F,F,F,F,F,F,F,F,F,F,F,F,F,F] (any_of HT_.out z23_0) ?_
   refine pu (i:=15) (N:=some 83) #[T,T,T,T,F,T,T,T,F,F,F,F,F,F,T,T,F,F,F,F,F,F,F,F,F,F,F,F,F,F] (any_of HT_.out z23_0) ?_
   refine pu (i:=16) (N:=some 84) #[T,T,T,T,F,T,T,T,F,F,F,F,F,F,T,T,T,F,F,F,F,F,F,F,F,F,F,F,F,F] (any_of HT_.out z23_0) ?_
   refine pu (i:=17) (N:=some 85) #[T,T,T,T,F,T,T,T,F,F,F,F,F,F,T,T,T,T,F,F,F,F,F,F,F,F,F,F,F,F] (any_of HT_.out z23_0) ?_
   refine pu (i:=19) (N:=some 87) #[T,T,T,T,F,T,T,T,F,F,F,F,F,F,T,T,T,T,F,T,F,F,F,F,F,F,F,F,F,F] (any_of HT_.out z23_0) ?_
   refine pu (i:=20) (N:=some 88) #[T,T,T,T,F,T,T,T,F,F,F,F,F,F,T,T,T,T,F,T,T,F,F,F,F,F,F,F,F,F] (any_of HT_.out z23_0) ?_
   refine pu (i:=21) (N:=some 89) #[T,T,T,T,F,T,T,T,F,F,F,F,F,F,T,T,T,T,F,T,T,T,F,F,F,F,F,F,F,F] (any_of HT_.out z23_0) ?_
   refine take_ (i:=4) (N:=some 72) (v:=?_) (a':=?_) #[T,T,T,T,T,T,T,T,F,F,F,F,F,F,T,T,T,T,F,T,T,T,F,F,F,F,F,F,F,F] rfl rfl (take_ofW HT_.out HW_.out z23_0) (fun _ _ _ h=>h) (Or.inl ⟨by rfl,?_⟩) hHeld ?_ ?_
   rotate_left
   ·rintro w' ⟨s0,s1,s2,s3,s4,s5⟩
    go_simp
    with_reducible rfl
   rotate_left
   ·exact acq
   refine pu (i:=8) (N:=some 76) #[T,T,T,T,T,T,T,T,T,F,F,F,F,F,T,T,T,T,F,T,T,T,F,F,F,F,F,F,F,F] (any_of HT_.out z23_0) ?_
   refine take_ (i:=9) (N:=some 77) (v:=?_) (a':=?_) #[T,T,T,T,T,T,T,T,T,T,F,F,F,F,T,T,T,T,F,T,T,T,F,F,F,F,F,F,F,F] rfl rfl (take_ofW HT_.out HW_.out z23_0) (fun _ _ _ h=>h) (Or.inl ⟨by rfl,?_⟩) hHeld ?_ ?_
   rotate_left
   ·rintro w' ⟨s0,s1,s2,s3,s4,s5⟩
    go_simp
    with_reducible rfl
   rotate_left
   ·exact acq
   refine take_ (i:=18) (N:=some 86) (v:=?_) (a':=?_) #[T,T,T,T,T,T,T,T,T,T,F,F,F,F,T,T,T,T,T,T,T,T,F,F,F,F,F,F,F,F] rfl rfl (take_ofW HT_.out HW_.out z23_0) (fun _ _ _ h=>h) (Or.inl ⟨by rfl,?_⟩) hHeld ?_ ?_
   rotate_left
   ·rintro w' ⟨s0,s1,s2,s3,s4,s5⟩
    go_simp
    with_reducible rfl
   rotate_left
   ·exact acq
   refine pu (i:=22) (N:=some 90) #[T,T,T,T,T,T,T,T,T,T,F,F,F,F,T,T,T,T,T,T,T,T,T,F,F,F,F,F,F,F] (any_of HT_.out z23_0) ?_
   refine take_ (i:=23) (N:=some 91) (v:=?_) (a':=?_) #[T,T,T,T,T,T,T,T,T,T,F,F,F,F,T,T,T,T,T,T,T,T,T,T,F,F,F,F,F,F] rfl rfl (take_ofW HT_.out HW_.out z23_0) (fun _ _ _ h=>h) (Or.inl ⟨by rfl,?_⟩) hHeld ?_ ?_
   rotate_left
   ·rintro w' ⟨s0,s1,s2,s3,s4,s5⟩
    go_simp
    with_reducible rfl
   rotate_left
   ·exact acq
   refine one_ (i:=10) (N:=some 78) #[T,T,T,T,T,T,T,T,T,T,T,F,F,F,T,T,T,T,T,T,T,T,T,T,F,F,F,F,F,F] rfl rfl (one_of HT_.out z23_0) (by decide) (fun K hK=>?_)
   refine goes_ Try.func43 z23_0 rfl #[.int .i64 (rd (rd_L1 l0 Aa) (Ca))] (by rfl) rfl rfl (by(try simp only[List.map_toArray,List.map_cons,List.map_nil]);first|done|(simp only[Cd];rfl)|rfl|(simp only[List.length_drop,List.length_take];rfl)) ?_
   with_reducible refine(fZ.calls (rd (rd_L1 l0 Aa) (Ca)) Gg _ Hr.out).mono ?_
   rintro e w' ⟨rfl,⟨nd,rfl⟩⟩
   refine⟨_,rfl,?_⟩
   refine hK.out _ _ ⟨(kc HB Bo),(kc HB Bp),(kc HB Bq),(kc HB Br),(kc HB Bs),(kc HB Bt)⟩ (fun hHeld=>?_)
   clear hK K
   refine norm_ (a':=?_) ?_ ?_
   rotate_left
   ·show Act.put _ (some 78) _=_
    exact acq
   refine pu (i:=11) (N:=some 79) #[T,T,T,T,T,T,T,T,T,T,T,T,F,F,T,T,T,T,T,T,T,T,T,T,F,F,F,F,F,F] (any_of HT_.out z23_0) ?_
   refine pu (i:=12) (N:=some 80) #[T,T,T,T,T,T,T,T,T,T,T,T,T,F,T,T,T,T,T,T,T,T,T,T,F,F,F,F,F,F] (any_of HT_.out z23_0) ?_
   refine take_ (i:=13) (N:=some 81) (v:=?_) (a':=?_) #[T,T,T,T,T,T,T,T,T,T,T,T,T,T,T,T,T,T,T,T,T,T,T,T,F,F,F,F,F,F] rfl rfl (take_ofW HT_.out HW_.out z23_0) (fun _ _ _ h=>h) (Or.inl ⟨by rfl,?_⟩) hHeld ?_ ?_
   rotate_left
   ·rintro w' ⟨s0,s1,s2,s3,s4,s5⟩
    go_simp
    with_reducible rfl
   rotate_left
   ·exact acq
   refine one_ (i:=24) (N:=some 92) #[T,T,T,T,T,T,T,T,T,T,T,T,T,T,T,T,T,T,T,T,T,T,T,T,T,F,F,F,F,F] rfl rfl (one_of HT_.out z23_0) (by decide) (fun K hK=>?_)
   refine goes_ Try.func43 z23_0 rfl #[.int .i64 (rd (rd_L1 l0 Ab) (Cb))] (by rfl) rfl rfl (by(try simp only[List.map_toArray,List.map_cons,List.map_nil]);first|done|(simp only[Bx];rfl)|rfl|(simp only[List.length_drop,List.length_take];rfl)) ?_
   with_reducible refine(fZ.calls (rd (rd_L1 l0 Ab) (Cb)) Gh _ Ja.out).mono ?_
   rintro e w' ⟨rfl,⟨nd,rfl⟩⟩
   refine⟨_,rfl,?_⟩
   refine hK.out _ _ ⟨(kc HB Bo),(kc HB Bp),(kc HB Bq),(kc HB Br),(kc HB Bs),(kc HB Bt)⟩ (fun hHeld=>?_)
   clear hK K
   refine norm_ (a':=?_) ?_ ?_
   rotate_left
   ·show Act.put _ (some 92) _=_
    exact acq
   refine pu (i:=25) (N:=some 93) #[T,T,T,T,T,T,T,T,T,T,T,T,T,T,T,T,T,T,T,T,T,T,T,T,T,T,F,F,F,F] (any_of HT_.out z23_0) ?_
   refine pu (i:=26) (N:=some 94) #[T,T,T,T,T,T,T,T,T,T,T,T,T,T,T,T,T,T,T,T,T,T,T,T,T,T,T,F,F,F] (any_of HT_.out z23_0) ?_
   refine take_ (i:=27) (N:=some 95) (v:=?_) (a':=?_) #[T,T,T,T,T,T,T,T,T,T,T,T,T,T,T,T,T,T,T,T,T,T,T,T,T,T,T,T,F,F] rfl rfl (take_ofW HT_.out HW_.out z23_0) (fun _ _ _ h=>h) (Or.inl ⟨by rfl,?_⟩) hHeld ?_ ?_
   rotate_left
   ·rintro w' ⟨s0,s1,s2,s3,s4,s5⟩
    go_simp
    with_reducible rfl
   rotate_left
   ·exact acq
   refine pu (i:=28) (N:=some 96) #[T,T,T,T,T,T,T,T,T,T,T,T,T,T,T,T,T,T,T,T,T,T,T,T,T,T,T,T,T,F] (any_of HT_.out z23_0) ?_
   refine pu (i:=29) (N:=some 13) #[T,T,T,T,T,T,T,T,T,T,T,T,T,T,T,T,T,T,T,T,T,T,T,T,T,T,T,T,T,T] (any_of HT_.out z23_0) ?_
   refine done_ (done_of HT_.out z23_0) ?_
   try go_wp2_with (first|((with_reducible refine gtD (N:=97) rfl ?_);refine Kd.R_lit (Kd.int .i64) _ 3 ?hg (N:=97) ?hd (xs:=([]:List Int)) (inner:=[]) (ok:=fun _=>True) (okp:=fun _=>True) ?hr ?hp (fun _ hk=>hk) trivial (Below.refl _ _) (Nat.le_refl _) (by simp) ?_;(case hd=>rfl);(case hg=>rfl);(case hr=>first|(go_simp;done)|(go_simp;rfl));(case hp=>exact(Reps.none _ _));intro Hj Lg Ew hb hg_ hnew_;clear hg_ hnew_;(first|rw[←Eh.out]at Ew|(simp only[Int.reduceToNat]at Ew;rw[←Eh.out]at Ew));have Da:=Az.mk (Kd.R_lower Ew (bwZ bw_23));replace HB:=Az.mk (bwT bw_23 hb);clear hb Ew)|((with_reducible refine gate_builtin (b:= .append) (xs:= #[.tmp 97, .tmp 98]) rfl ?_);at_builtin;refine Kd.R_append_rows (Kd.int .i64) (w0:=w) w.heap.size rfl (.tmp 97) (.tmp 98) 25 3 (.int .i64 0) 8 rfl Try.underlying25 info3 rfl (by decide) (by omega) Hj Ej l1 _ _ _ (fun _=>True) (fun _=>False) rfl rfl ?aO ?aR (fun _ _ h=>h) (fun _ h=>h.elim) ?aF ?aB ?aS ?aL ?_;(case aR=>exact kC (Kd.C_below Ei.out HB.out));(case aB=>exact bw_23);(case aF=>exact(fun _ _=>trivial));(case aO=>exact(kR Da.out));(case aS=>exact(bwZ bw_23));(case aL=>have:=LMc48.out;omega);intro Jm La ho hb hg hat;rw[←Gp.out]at ho;have n0_:=Az.mk (hb);have n1_:=Az.mk (ho);clear HB;clear Da;have HB:=n0_;have Ax:=n1_;clear n0_ n1_;clear ho hb hg hat))
   replace Ax:=Az.mk (Kd.R_drew Ax.out);replace HB:=Az.mk (bwD HB.out)
   have Ee:0≤((Ac):Int):=od
   have Ef:(Ac)<(l1.length:Int):=od
   obtain⟨Ex,Hk,Au⟩:=Kd.at_int Ei.out (Ac) Ee Ef
   have Cs:=Au
   obtain rfl:Ad=Ex:=(by injection Hk)
   replace Au:=kc HB Au
   replace Ee:=ets Ee
   replace Ef:=ets Ef
   refine start_ (n:=14) (S:=fun w'=>w'.cell? (Ad.add ((Ac)).toNat)=some (.int .i64 (rd l1 (Ac)))) (ds:=[13]) #[F,F,F,F,F,F,F,F,F,F,F,F,F,F] z23_0 rfl rfl ((kc HB Cs)) (fun hHeld=>?_);refine with_tabW fG.tab8 fG.bits8 (fun HT_ HW_=>?_)
   generalize La.drew=Lh at Ax HB Au hHeld ⊢
   refine pu (i:=0) (N:=some 100) #[T,F,F,F,F,F,F,F,F,F,F,F,F,F] (any_of HT_.out z23_0) ?_
   refine pu (i:=1) (N:=some 101) #[T,T,F,F,F,F,F,F,F,F,F,F,F,F] (any_of HT_.out z23_0) ?_
   refine pu (i:=2) (N:=some 102) #[T,T,T,F,F,F,F,F,F,F,F,F,F,F] (any_of HT_.out z23_0) ?_
   refine pu (i:=3) (N:=some 103) #[T,T,T,T,F,F,F,F,F,F,F,F,F,F] (any_of HT_.out z23_0) ?_
   refine pu (i:=4) (N:=some 104) #[T,T,T,T,T,F,F,F,F,F,F,F,F,F] (any_of HT_.out z23_0) ?_
   refine pu (i:=6) (N:=some 106) #[T,T,T,T,T,F,T,F,F,F,F,F,F,F] (any_of HT_.out z23_0) ?_
   refine pu (i:=7) (N:=some 107) #[T,T,T,T,T,F,T,T,F,F,F,F,F,F] (any_of HT_.out z23_0) ?_
   refine pu (i:=8) (N:=some 108) #[T,T,T,T,T,F,T,T,T,F,F,F,F,F] (any_of HT_.out z23_0) ?_
   refine pu (i:=9) (N:=some 109) #[T,T,T,T,T,F,T,T,T,T,F,F,F,F] (any_of HT_.out z23_0) ?_
   refine take_ (i:=10) (N:=some 110) (v:=?_) (a':=?_) #[T,T,T,T,T,F,T,T,T,T,T,F,F,F] rfl rfl (take_ofW HT_.out HW_.out z23_0) (fun _ _ _ h=>h) (Or.inl ⟨by rfl,?_⟩) hHeld ?_ ?_
   rotate_left
   ·intro w' s0
    go_simp
    with_reducible rfl
   rotate_left
   ·exact acq
   refine one_ (i:=5) (N:=some 105) #[T,T,T,T,T,T,T,T,T,T,T,F,F,F] rfl rfl (one_of HT_.out z23_0) (by decide) (fun K hK=>?_)
   refine goes_ Try.func44 z23_0 rfl #[.int .i64 (wrap64 ((rd l1 (Bc))+(rd l1 (Bd)))), .int .i64 (wrap64 ((rd l1 (Bf))+(rd l1 (Bh))))] (by rfl) rfl rfl (by(try simp only[List.map_toArray,List.map_cons,List.map_nil]);first|done|(simp only[Cc,Bw,Bu,Bb];rfl)|rfl|(simp only[List.length_drop,List.length_take];rfl)) ?_
   with_reducible refine(jQ.calls (wrap64 ((rd l1 (Bc))+(rd l1 (Bd)))) (wrap64 ((rd l1 (Bf))+(rd l1 (Bh)))) Ce _ Jk.out).mono ?_
   rintro e w' ⟨rfl,⟨nd,rfl⟩⟩
   refine⟨_,rfl,?_⟩
   have Hl:0≤((Ac):Int):=od
   have Hm:((Ac):Int)<((Cu.length:Int):Int):=od
   obtain⟨Jn,Jo,Ey,Ez,gl54,Jp,HG54⟩:=Kd.R_form Ax.out (by omega)
   (first|cases Ey|(injection Ey with ea_ en_ ec_;(first|subst ea_|(injection ea_ with ea_;subst ea_));subst ec_;clear en_))
   have GB54:=Az.mk Ez
   have Jq:=Az.mk HG54
   clear Ez gl54 HG54
   obtain⟨Hn,Ho⟩:=Kd.R_celln 0 Ax.out ((Ac):Int) Hl Hm
   replace Hl:=ets Hl
   replace Hm:=ets Hm
   have Hp:=Kd.R_putn Ax.out ((Ac):Int) (wrap64 (Ce - (rd l1 (Ac))))
   rw[←Gq.out]at Hp
   have Jr:=Az.mk Hp
   clear Hp
   refine hK.out _ _ ((kc HB Cs)) (fun hHeld=>?_)
   clear hK K
   refine norm_ (a':=?_) ?_ ?_
   rotate_left
   ·show Act.put _ (some 105) _=_
    exact acq
   refine pu (i:=11) (N:=some 111) #[T,T,T,T,T,T,T,T,T,T,T,T,F,F] (any_of HT_.out z23_0) ?_
   refine pu (i:=12) (N:=some 112) #[T,T,T,T,T,T,T,T,T,T,T,T,T,F] (any_of HT_.out z23_0) ?_
   refine last_ (i:=13) (N:=none) #[T,T,T,T,T,T,T,T,T,T,T,T,T,T] rfl rfl (one_of HT_.out z23_0) (by decide) (fun K hK=>?_)
   refine skip_ (w1:=?_) (by rfl) rfl ?_ ?_
   rotate_left
   ·go_simp
    rfl
   refine hK.out _ _ ?_
   clear hK K
   refine done_ (done_of HT_.out z23_0) ?_
   have Hz:0≤((Ac):Int):=od
   have Ia:((Ac):Int)<((Cu.length:Int):Int):=od
   replace Hz:=ets Hz
   replace Ia:=ets Ia
   try go_wp2
   go_ret2
   exact⟨_,by first|rfl|(simp[eWn,eWs] <;> rfl)|(simp only[←Ct, ←Cc, ←Cf, ←Bw, ←Cd, ←Bu, ←Bx, ←Bb, ←Bv];first|rfl|(simp[eWn,eWs] <;> rfl))|(simp[*,eWn,eWs] <;> rfl),kR Jr.out,bw_23⟩
  rw[ip Hs]at H
  have Hx:decide (200<(wrap64 (Ce - (rd l1 (Ac)))))=true:=ode Hs
  clear Hs
  obtain⟨Js,hy⟩:∃y_:List Int,y_=(([]:List Int)):=⟨_,rfl⟩
  replace H:(some (Js,false))=some (r1,r2):=rh
  have Gr:=Az.mk hy
  clear hy
  simp only[Option.some.injEq,Prod.mk.injEq]at H
  obtain⟨rfl,rfl⟩:=H
  try go_wp2_with (first|((with_reducible refine gtC (f:=37) rfl ?_);refine clz Try.func37 (some 29) #[.slice A0 l0.length c0, .int .i64 a2] ?_;(with_reducible refine(fY.calls Ie _ _ l0 a2 Aa Gc _ ?Ay ?Ba Em.out).mono ?_);(case Ay=>exact kC (Kd.C_below Db.out HB.out));(case Ba=>exact Gs.out);rintro e w' ⟨rfl,⟨nd,rfl⟩⟩;refine⟨_,rfl,?_⟩;(try(rw[drewN_self wc];generalize hq_:World.drewN wc _=wc;have n0_:Az (Below w.heap.size w wc):=⟨by rw[←hq_];exact bw_23⟩;clear HB hq_;have HB:=n0_;clear n0_)))|((with_reducible refine gtC (f:=37) rfl ?_);refine clz Try.func37 (some 36) #[.slice A0 l0.length c0, .int .i64 (wrap64 (-a2))] ?_;(with_reducible refine(fY.calls Ie _ _ l0 (wrap64 (-a2)) Ab Gd _ ?Ay ?Ba Eo.out).mono ?_);(case Ay=>exact kC (Kd.C_below Db.out HB.out));(case Ba=>exact Gs.out);rintro e w' ⟨rfl,⟨nd,rfl⟩⟩;refine⟨_,rfl,?_⟩;(try(rw[drewN_self wc];generalize hq_:World.drewN wc _=wc;have n0_:Az (Below w.heap.size w wc):=⟨by rw[←hq_];exact bw_23⟩;clear HB hq_;have HB:=n0_;clear n0_))))
  replace HB:=Az.mk (bwD HB.out)
  have Dc:0≤(Aa:Int):=od
  have Dd:Aa<(l0.length:Int):=od
  obtain⟨Av,Gt,De,Gu,Ae,Cg,Ch⟩:=at_L1 Db.out Aa Dc Dd
  have Bi:=Ae
  cases Gu
  replace Ae:=kc HB Ae
  have Ci:=Az.mk Ch
  have Gi:=Az.mk Cg
  clear Ch Cg
  replace Dc:=ets Dc
  replace Dd:=ets Dd
  have Df:0≤((By):Int):=od
  have Dg:(By)<((rd_L1 l0 Aa).length:Int):=od
  obtain⟨Cv,Gv,Af⟩:=Kd.at_int Ci.out (By) Df Dg
  have Bj:=Af
  cases Gv
  replace Af:=kc HB Af
  replace Df:=ets Df
  replace Dg:=ets Dg
  have Dh:0≤(Ab:Int):=od
  have Di:Ab<(l0.length:Int):=od
  obtain⟨Ep,Gw,Dj,Gx,Ag,Cj,Ck⟩:=at_L1 Db.out Ab Dh Di
  have Bk:=Ag
  obtain rfl:Av=Ep:=(by injection Gx)
  replace Ag:=kc HB Ag
  have Cl:=Az.mk Ck
  have Gj:=Az.mk Cj
  clear Ck Cj
  replace Dh:=ets Dh
  replace Di:=ets Di
  have Dk:0≤((Bz):Int):=od
  have Dl:(Bz)<((rd_L1 l0 Ab).length:Int):=od
  obtain⟨Cw,Gy,Ah⟩:=Kd.at_int Cl.out (Bz) Dk Dl
  have Bl:=Ah
  cases Gy
  replace Ah:=kc HB Ah
  replace Dk:=ets Dk
  replace Dl:=ets Dl
  have Dm:0≤((Bc):Int):=od
  have Dn:(Bc)<(l1.length:Int):=od
  obtain⟨Ad,Gz,Ai⟩:=Kd.at_int Ei.out (Bc) Dm Dn
  have Bm:=Ai
  cases Gz
  replace Ai:=kc HB Ai
  replace Dm:=ets Dm
  replace Dn:=ets Dn
  have Do:0≤((Bd):Int):=od
  have Dp:(Bd)<(l1.length:Int):=od
  obtain⟨Er,Ha,Aj⟩:=Kd.at_int Ei.out (Bd) Do Dp
  have Bn:=Aj
  obtain rfl:Ad=Er:=(by injection Ha)
  replace Aj:=kc HB Aj
  replace Do:=ets Do
  replace Dp:=ets Dp
  refine start_ (n:=30) (S:=fun w'=>w'.cell? (Av.add (Aa).toNat)=some (.slice (some Cv) (rd_L1 l0 Aa).length De)∧w'.cell? (Cv.add ((By)).toNat)=some (.int .i64 (rd (rd_L1 l0 Aa) (By)))∧w'.cell? (Av.add (Ab).toNat)=some (.slice (some Cw) (rd_L1 l0 Ab).length Dj)∧w'.cell? (Cw.add ((Bz)).toNat)=some (.int .i64 (rd (rd_L1 l0 Ab) (Bz)))∧w'.cell? (Ad.add ((Bc)).toNat)=some (.int .i64 (rd l1 (Bc)))∧w'.cell? (Ad.add ((Bd)).toNat)=some (.int .i64 (rd l1 (Bd)))) (ds:=[]) #[F,F,F,F,F,F,F,F,F,F,F,F,F,F,F,F,F,F,F,F,F,F,F,F,F,F,F,F,F,F] z23_0 rfl rfl ⟨(kc HB Bi),(kc HB Bj),(kc HB Bk),(kc HB Bl),(kc HB Bm),(kc HB Bn)⟩ (fun hHeld=>?_);refine with_tabW fG.tab5 fG.bits5 (fun HT_ HW_=>?_)
  generalize wc.drew=Ib at HB Ci Cl Ae Af Ai Ag Ah Aj hHeld ⊢
  refine pu (i:=0) (N:=some 39) #[T,F,F,F,F,F,F,F,F,F,F,F,F,F,F,F,F,F,F,F,F,F,F,F,F,F,F,F,F,F] (any_of HT_.out z23_0) ?_
  refine pu (i:=1) (N:=some 40) #[T,T,F,F,F,F,F,F,F,F,F,F,F,F,F,F,F,F,F,F,F,F,F,F,F,F,F,F,F,F] (any_of HT_.out z23_0) ?_
  refine pu (i:=2) (N:=some 41) #[T,T,T,F,F,F,F,F,F,F,F,F,F,F,F,F,F,F,F,F,F,F,F,F,F,F,F,F,F,F] (any_of HT_.out z23_0) ?_
  refine pu (i:=3) (N:=some 42) #[T,T,T,T,F,F,F,F,F,F,F,F,F,F,F,F,F,F,F,F,F,F,F,F,F,F,F,F,F,F] (any_of HT_.out z23_0) ?_
  refine pu (i:=5) (N:=some 44) #[T,T,T,T,F,T,F,F,F,F,F,F,F,F,F,F,F,F,F,F,F,F,F,F,F,F,F,F,F,F] (any_of HT_.out z23_0) ?_
  refine pu (i:=6) (N:=some 45) #[T,T,T,T,F,T,T,F,F,F,F,F,F,F,F,F,F,F,F,F,F,F,F,F,F,F,F,F,F,F] (any_of HT_.out z23_0) ?_
  refine pu (i:=7) (N:=some 46) #[T,T,T,T,F,T,T,T,F,F,F,F,F,F,F,F,F,F,F,F,F,F,F,F,F,F,F,F,F,F] (any_of HT_.out z23_0) ?_
  refine pu (i:=14) (N:=some 53) #[T,T,T,T,F,T,T,T,F,F,F,F,F,F,T,F,F,F,F,F,F,F,F,F,F,F,F,F,F,F] (any_of HT_.out z23_0) ?_
  refine pu (i:=15) (N:=some 54) #[T,T,T,T,F,T,T,T,F,F,F,F,F,F,T,T,F,F,F,F,F,F,F,F,F,F,F,F,F,F] (any_of HT_.out z23_0) ?_
  refine pu (i:=16) (N:=some 55) #[T,T,T,T,F,T,T,T,F,F,F,F,F,F,T,T,T,F,F,F,F,F,F,F,F,F,F,F,F,F] (any_of HT_.out z23_0) ?_
  refine pu (i:=17) (N:=some 56) #[T,T,T,T,F,T,T,T,F,F,F,F,F,F,T,T,T,T,F,F,F,F,F,F,F,F,F,F,F,F] (any_of HT_.out z23_0) ?_
  refine pu (i:=19) (N:=some 58) #[T,T,T,T,F,T,T,T,F,F,F,F,F,F,T,T,T,T,F,T,F,F,F,F,F,F,F,F,F,F] (any_of HT_.out z23_0) ?_
  refine pu (i:=20) (N:=some 59) #[T,T,T,T,F,T,T,T,F,F,F,F,F,F,T,T,T,T,F,T,T,F,F,F,F,F,F,F,F,F] (any_of HT_.out z23_0) ?_
  refine pu (i:=21) (N:=some 60) #[T,T,T,T,F,T,T,T,F,F,F,F,F,F,T,T,T,T,F,T,T,T,F,F,F,F,F,F,F,F] (any_of HT_.out z23_0) ?_
  refine take_ (i:=4) (N:=some 43) (v:=?_) (a':=?_) #[T,T,T,T,T,T,T,T,F,F,F,F,F,F,T,T,T,T,F,T,T,T,F,F,F,F,F,F,F,F] rfl rfl (take_ofW HT_.out HW_.out z23_0) (fun _ _ _ h=>h) (Or.inl ⟨by rfl,?_⟩) hHeld ?_ ?_
  rotate_left
  ·rintro w' ⟨s0,s1,s2,s3,s4,s5⟩
   go_simp
   with_reducible rfl
  rotate_left
  ·exact acq
  refine pu (i:=8) (N:=some 47) #[T,T,T,T,T,T,T,T,T,F,F,F,F,F,T,T,T,T,F,T,T,T,F,F,F,F,F,F,F,F] (any_of HT_.out z23_0) ?_
  refine take_ (i:=9) (N:=some 48) (v:=?_) (a':=?_) #[T,T,T,T,T,T,T,T,T,T,F,F,F,F,T,T,T,T,F,T,T,T,F,F,F,F,F,F,F,F] rfl rfl (take_ofW HT_.out HW_.out z23_0) (fun _ _ _ h=>h) (Or.inl ⟨by rfl,?_⟩) hHeld ?_ ?_
  rotate_left
  ·rintro w' ⟨s0,s1,s2,s3,s4,s5⟩
   go_simp
   with_reducible rfl
  rotate_left
  ·exact acq
  refine take_ (i:=18) (N:=some 57) (v:=?_) (a':=?_) #[T,T,T,T,T,T,T,T,T,T,F,F,F,F,T,T,T,T,T,T,T,T,F,F,F,F,F,F,F,F] rfl rfl (take_ofW HT_.out HW_.out z23_0) (fun _ _ _ h=>h) (Or.inl ⟨by rfl,?_⟩) hHeld ?_ ?_
  rotate_left
  ·rintro w' ⟨s0,s1,s2,s3,s4,s5⟩
   go_simp
   with_reducible rfl
  rotate_left
  ·exact acq
  refine pu (i:=22) (N:=some 61) #[T,T,T,T,T,T,T,T,T,T,F,F,F,F,T,T,T,T,T,T,T,T,T,F,F,F,F,F,F,F] (any_of HT_.out z23_0) ?_
  refine take_ (i:=23) (N:=some 62) (v:=?_) (a':=?_) #[T,T,T,T,T,T,T,T,T,T,F,F,F,F,T,T,T,T,T,T,T,T,T,T,F,F,F,F,F,F] rfl rfl (take_ofW HT_.out HW_.out z23_0) (fun _ _ _ h=>h) (Or.inl ⟨by rfl,?_⟩) hHeld ?_ ?_
  rotate_left
  ·rintro w' ⟨s0,s1,s2,s3,s4,s5⟩
   go_simp
   with_reducible rfl
  rotate_left
  ·exact acq
  refine one_ (i:=10) (N:=some 49) #[T,T,T,T,T,T,T,T,T,T,T,F,F,F,T,T,T,T,T,T,T,T,T,T,F,F,F,F,F,F] rfl rfl (one_of HT_.out z23_0) (by decide) (fun K hK=>?_)
  refine goes_ Try.func43 z23_0 rfl #[.int .i64 (rd (rd_L1 l0 Aa) (By))] (by rfl) rfl rfl (by(try simp only[List.map_toArray,List.map_cons,List.map_nil]);first|done|(simp only[Ct];rfl)|rfl|(simp only[List.length_drop,List.length_take];rfl)) ?_
  with_reducible refine(fZ.calls (rd (rd_L1 l0 Aa) (By)) Ge _ Gb.out).mono ?_
  rintro e w' ⟨rfl,⟨nd,rfl⟩⟩
  refine⟨_,rfl,?_⟩
  refine hK.out _ _ ⟨(kc HB Bi),(kc HB Bj),(kc HB Bk),(kc HB Bl),(kc HB Bm),(kc HB Bn)⟩ (fun hHeld=>?_)
  clear hK K
  refine norm_ (a':=?_) ?_ ?_
  rotate_left
  ·show Act.put _ (some 49) _=_
   exact acq
  refine pu (i:=11) (N:=some 50) #[T,T,T,T,T,T,T,T,T,T,T,T,F,F,T,T,T,T,T,T,T,T,T,T,F,F,F,F,F,F] (any_of HT_.out z23_0) ?_
  refine pu (i:=12) (N:=some 51) #[T,T,T,T,T,T,T,T,T,T,T,T,T,F,T,T,T,T,T,T,T,T,T,T,F,F,F,F,F,F] (any_of HT_.out z23_0) ?_
  refine take_ (i:=13) (N:=some 52) (v:=?_) (a':=?_) #[T,T,T,T,T,T,T,T,T,T,T,T,T,T,T,T,T,T,T,T,T,T,T,T,F,F,F,F,F,F] rfl rfl (take_ofW HT_.out HW_.out z23_0) (fun _ _ _ h=>h) (Or.inl ⟨by rfl,?_⟩) hHeld ?_ ?_
  rotate_left
  ·rintro w' ⟨s0,s1,s2,s3,s4,s5⟩
   go_simp
   with_reducible rfl
  rotate_left
  ·exact acq
  refine one_ (i:=24) (N:=some 63) #[T,T,T,T,T,T,T,T,T,T,T,T,T,T,T,T,T,T,T,T,T,T,T,T,T,F,F,F,F,F] rfl rfl (one_of HT_.out z23_0) (by decide) (fun K hK=>?_)
  refine goes_ Try.func43 z23_0 rfl #[.int .i64 (rd (rd_L1 l0 Ab) (Bz))] (by rfl) rfl rfl (by(try simp only[List.map_toArray,List.map_cons,List.map_nil]);first|done|(simp only[Cf];rfl)|rfl|(simp only[List.length_drop,List.length_take];rfl)) ?_
  with_reducible refine(fZ.calls (rd (rd_L1 l0 Ab) (Bz)) Gf _ Gn.out).mono ?_
  rintro e w' ⟨rfl,⟨nd,rfl⟩⟩
  refine⟨_,rfl,?_⟩
  refine hK.out _ _ ⟨(kc HB Bi),(kc HB Bj),(kc HB Bk),(kc HB Bl),(kc HB Bm),(kc HB Bn)⟩ (fun hHeld=>?_)
  clear hK K
  refine norm_ (a':=?_) ?_ ?_
  rotate_left
  ·show Act.put _ (some 63) _=_
   exact acq
  refine pu (i:=25) (N:=some 64) #[T,T,T,T,T,T,T,T,T,T,T,T,T,T,T,T,T,T,T,T,T,T,T,T,T,T,F,F,F,F] (any_of HT_.out z23_0) ?_
  refine pu (i:=26) (N:=some 65) #[T,T,T,T,T,T,T,T,T,T,T,T,T,T,T,T,T,T,T,T,T,T,T,T,T,T,T,F,F,F] (any_of HT_.out z23_0) ?_
  refine take_ (i:=27) (N:=some 66) (v:=?_) (a':=?_) #[T,T,T,T,T,T,T,T,T,T,T,T,T,T,T,T,T,T,T,T,T,T,T,T,T,T,T,T,F,F] rfl rfl (take_ofW HT_.out HW_.out z23_0) (fun _ _ _ h=>h) (Or.inl ⟨by rfl,?_⟩) hHeld ?_ ?_
  rotate_left
  ·rintro w' ⟨s0,s1,s2,s3,s4,s5⟩
   go_simp
   with_reducible rfl
  rotate_left
  ·exact acq
  refine pu (i:=28) (N:=some 67) #[T,T,T,T,T,T,T,T,T,T,T,T,T,T,T,T,T,T,T,T,T,T,T,T,T,T,T,T,T,F] (any_of HT_.out z23_0) ?_
  refine pu (i:=29) (N:=some 12) #[T,T,T,T,T,T,T,T,T,T,T,T,T,T,T,T,T,T,T,T,T,T,T,T,T,T,T,T,T,T] (any_of HT_.out z23_0) ?_
  refine done_ (done_of HT_.out z23_0) ?_
  try go_wp2
  (try(rw[drewN_self Ib];generalize hq_:World.drewN Ib _=Ib;have n0_:Az (Below w.heap.size w Ib):=⟨by rw[←hq_];exact bw_23⟩;clear HB hq_;have HB:=n0_;clear n0_))
  replace HB:=Az.mk (bwD HB.out)
  have Dq:0≤(Aa:Int):=od
  have Dr:Aa<(l0.length:Int):=od
  obtain⟨Es,Hb,Ds,Hc,Ak,Cm,Cn⟩:=at_L1 Db.out Aa Dq Dr
  have Bo:=Ak
  obtain rfl:Av=Es:=(by injection Hc)
  replace Ak:=kc HB Ak
  have Co:=Az.mk Cn
  have Gk:=Az.mk Cm
  clear Cn Cm
  replace Dq:=ets Dq
  replace Dr:=ets Dr
  have Dt:0≤((Ca):Int):=od
  have Du:(Ca)<((rd_L1 l0 Aa).length:Int):=od
  obtain⟨Cy,Hd,Al⟩:=Kd.at_int Co.out (Ca) Dt Du
  have Bp:=Al
  cases Hd
  replace Al:=kc HB Al
  replace Dt:=ets Dt
  replace Du:=ets Du
  have Dv:0≤(Ab:Int):=od
  have Dw:Ab<(l0.length:Int):=od
  obtain⟨Et,He,Dx,Hf,Am,Cp,Cq⟩:=at_L1 Db.out Ab Dv Dw
  have Bq:=Am
  obtain rfl:Av=Et:=(by injection Hf)
  replace Am:=kc HB Am
  have Cr:=Az.mk Cq
  have Gl:=Az.mk Cp
  clear Cq Cp
  replace Dv:=ets Dv
  replace Dw:=ets Dw
  have Dy:0≤((Cb):Int):=od
  have Dz:(Cb)<((rd_L1 l0 Ab).length:Int):=od
  obtain⟨Cz,Hg,Ap⟩:=Kd.at_int Cr.out (Cb) Dy Dz
  have Br:=Ap
  cases Hg
  replace Ap:=kc HB Ap
  replace Dy:=ets Dy
  replace Dz:=ets Dz
  have Ea:0≤((Bf):Int):=od
  have Eb:(Bf)<(l1.length:Int):=od
  obtain⟨Eu,Hh,Aq⟩:=Kd.at_int Ei.out (Bf) Ea Eb
  have Bs:=Aq
  obtain rfl:Ad=Eu:=(by injection Hh)
  replace Aq:=kc HB Aq
  replace Ea:=ets Ea
  replace Eb:=ets Eb
  have Ec:0≤((Bh):Int):=od
  have Ed:(Bh)<(l1.length:Int):=od
  obtain⟨Ev,Hi,As⟩:=Kd.at_int Ei.out (Bh) Ec Ed
  have Bt:=As
  obtain rfl:Ad=Ev:=(by injection Hi)
  replace As:=kc HB As
  replace Ec:=ets Ec
  replace Ed:=ets Ed
  refine start_ (n:=30) (S:=fun w'=>w'.cell? (Av.add (Aa).toNat)=some (.slice (some Cy) (rd_L1 l0 Aa).length Ds)∧w'.cell? (Cy.add ((Ca)).toNat)=some (.int .i64 (rd (rd_L1 l0 Aa) (Ca)))∧w'.cell? (Av.add (Ab).toNat)=some (.slice (some Cz) (rd_L1 l0 Ab).length Dx)∧w'.cell? (Cz.add ((Cb)).toNat)=some (.int .i64 (rd (rd_L1 l0 Ab) (Cb)))∧w'.cell? (Ad.add ((Bf)).toNat)=some (.int .i64 (rd l1 (Bf)))∧w'.cell? (Ad.add ((Bh)).toNat)=some (.int .i64 (rd l1 (Bh)))) (ds:=[]) #[F,F,F,F,F,F,F,F,F,F,F,F,F,F,F,F,F,F,F,F,F,F,F,F,F,F,F,F,F,F] z23_0 rfl rfl ⟨(kc HB Bo),(kc HB Bp),(kc HB Bq),(kc HB Br),(kc HB Bs),(kc HB Bt)⟩ (fun hHeld=>?_);refine with_tabW fG.tab6 fG.bits6 (fun HT_ HW_=>?_)
  generalize Ib.drew=Li at HB Co Cr Ak Al Aq Am Ap As hHeld ⊢
  refine pu (i:=0) (N:=some 68) #[T,F,F,F,F,F,F,F,F,F,F,F,F,F,F,F,F,F,F,F,F,F,F,F,F,F,F,F,F,F] (any_of HT_.out z23_0) ?_
  refine pu (i:=1) (N:=some 69) #[T,T,F,F,F,F,F,F,F,F,F,F,F,F,F,F,F,F,F,F,F,F,F,F,F,F,F,F,F,F] (any_of HT_.out z23_0) ?_
  refine pu (i:=2) (N:=some 70) #[T,T,T,F,F,F,F,F,F,F,F,F,F,F,F,F,F,F,F,F,F,F,F,F,F,F,F,F,F,F] (any_of HT_.out z23_0) ?_
  refine pu (i:=3) (N:=some 71) #[T,T,T,T,F,F,F,F,F,F,F,F,F,F,F,F,F,F,F,F,F,F,F,F,F,F,F,F,F,F] (any_of HT_.out z23_0) ?_
  refine pu (i:=5) (N:=some 73) #[T,T,T,T,F,T,F,F,F,F,F,F,F,F,F,F,F,F,F,F,F,F,F,F,F,F,F,F,F,F] (any_of HT_.out z23_0) ?_
  refine pu (i:=6) (N:=some 74) #[T,T,T,T,F,T,T,F,F,F,F,F,F,F,F,F,F,F,F,F,F,F,F,F,F,F,F,F,F,F] (any_of HT_.out z23_0) ?_
  refine pu (i:=7) (N:=some 75) #[T,T,T,T,F,T,T,T,F,F,F,F,F,F,F,F,F,F,F,F,F,F,F,F,F,F,F,F,F,F] (any_of HT_.out z23_0) ?_
  refine pu (i:=14) (N:=some 82) #[T,T,T,T,F,T,T,T,F,F,F,F,F,F,T,F,F,F,F,F,F,F,F,F,F,F,F,F,F,F] (any_of HT_.out z23_0) ?_
  refine pu (i:=15) (N:=some 83) #[T,T,T,T,F,T,T,T,F,F,F,F,F,F,T,T,F,F,F,F,F,F,F,F,F,F,F,F,F,F] (any_of HT_.out z23_0) ?_
  refine pu (i:=16) (N:=some 84) #[T,T,T,T,F,T,T,T,F,F,F,F,F,F,T,T,T,F,F,F,F,F,F,F,F,F,F,F,F,F] (any_of HT_.out z23_0) ?_
  refine pu (i:=17) (N:=some 85) #[T,T,T,T,F,T,T,T,F,F,F,F,F,F,T,T,T,T,F,F,F,F,F,F,F,F,F,F,F,F] (any_of HT_.out z23_0) ?_
  refine pu (i:=19) (N:=some 87) #[T,T,T,T,F,T,T,T,F,F,F,F,F,F,T,T,T,T,F,T,F,F,F,F,F,F,F,F,F,F] (any_of HT_.out z23_0) ?_
  refine pu (i:=20) (N:=some 88) #[T,T,T,T,F,T,T,T,F,F,F,F,F,F,T,T,T,T,F,T,T,F,F,F,F,F,F,F,F,F] (any_of HT_.out z23_0) ?_
  refine pu (i:=21) (N:=some 89) #[T,T,T,T,F,T,T,T,F,F,F,F,F,F,T,T,T,T,F,T,T,T,F,F,F,F,F,F,F,F] (any_of HT_.out z23_0) ?_
  refine take_ (i:=4) (N:=some 72) (v:=?_) (a':=?_) #[T,T,T,T,T,T,T,T,F,F,F,F,F,F,T,T,T,T,F,T,T,T,F,F,F,F,F,F,F,F] rfl rfl (take_ofW HT_.out HW_.out z23_0) (fun _ _ _ h=>h) (Or.inl ⟨by rfl,?_⟩) hHeld ?_ ?_
  rotate_left
  ·rintro w' ⟨s0,s1,s2,s3,s4,s5⟩
   go_simp
   with_reducible rfl
  rotate_left
  ·exact acq
  refine pu (i:=8) (N:=some 76) #[T,T,T,T,T,T,T,T,T,F,F,F,F,F,T,T,T,T,F,T,T,T,F,F,F,F,F,F,F,F] (any_of HT_.out z23_0) ?_
  refine take_ (i:=9) (N:=some 77) (v:=?_) (a':=?_) #[T,T,T,T,T,T,T,T,T,T,F,F,F,F,T,T,T,T,F,T,T,T,F,F,F,F,F,F,F,F] rfl rfl (take_ofW HT_.out HW_.out z23_0) (fun _ _ _ h=>h) (Or.inl ⟨by rfl,?_⟩) hHeld ?_ ?_
  rotate_left
  ·rintro w' ⟨s0,s1,s2,s3,s4,s5⟩
   go_simp
   with_reducible rfl
  rotate_left
  ·exact acq
  refine take_ (i:=18) (N:=some 86) (v:=?_) (a':=?_) #[T,T,T,T,T,T,T,T,T,T,F,F,F,F,T,T,T,T,T,T,T,T,F,F,F,F,F,F,F,F] rfl rfl (take_ofW HT_.out HW_.out z23_0) (fun _ _ _ h=>h) (Or.inl ⟨by rfl,?_⟩) hHeld ?_ ?_
  rotate_left
  ·rintro w' ⟨s0,s1,s2,s3,s4,s5⟩
   go_simp
   with_reducible rfl
  rotate_left
  ·exact acq
  refine pu (i:=22) (N:=some 90) #[T,T,T,T,T,T,T,T,T,T,F,F,F,F,T,T,T,T,T,T,T,T,T,F,F,F,F,F,F,F] (any_of HT_.out z23_0) ?_
  refine take_ (i:=23) (N:=some 91) (v:=?_) (a':=?_) #[T,T,T,T,T,T,T,T,T,T,F,F,F,F,T,T,T,T,T,T,T,T,T,T,F,F,F,F,F,F] rfl rfl (take_ofW HT_.out HW_.out z23_0) (fun _ _ _ h=>h) (Or.inl ⟨by rfl,?_⟩) hHeld ?_ ?_
  rotate_left
  ·rintro w' ⟨s0,s1,s2,s3,s4,s5⟩
   go_simp
   with_reducible rfl
  rotate_left
  ·exact acq
  refine one_ (i:=10) (N:=some 78) #[T,T,T,T,T,T,T,T,T,T,T,F,F,F,T,T,T,T,T,T,T,T,T,T,F,F,F,F,F,F] rfl rfl (one_of HT_.out z23_0) (by decide) (fun K hK=>?_)
  refine goes_ Try.func43 z23_0 rfl #[.int .i64 (rd (rd_L1 l0 Aa) (Ca))] (by rfl) rfl rfl (by(try simp only[List.map_toArray,List.map_cons,List.map_nil]);first|done|(simp only[Cd];rfl)|rfl|(simp only[List.length_drop,List.length_take];rfl)) ?_
  with_reducible refine(fZ.calls (rd (rd_L1 l0 Aa) (Ca)) Gg _ Hr.out).mono ?_
  rintro e w' ⟨rfl,⟨nd,rfl⟩⟩
  refine⟨_,rfl,?_⟩
  refine hK.out _ _ ⟨(kc HB Bo),(kc HB Bp),(kc HB Bq),(kc HB Br),(kc HB Bs),(kc HB Bt)⟩ (fun hHeld=>?_)
  clear hK K
  refine norm_ (a':=?_) ?_ ?_
  rotate_left
  ·show Act.put _ (some 78) _=_
   exact acq
  refine pu (i:=11) (N:=some 79) #[T,T,T,T,T,T,T,T,T,T,T,T,F,F,T,T,T,T,T,T,T,T,T,T,F,F,F,F,F,F] (any_of HT_.out z23_0) ?_
  refine pu (i:=12) (N:=some 80) #[T,T,T,T,T,T,T,T,T,T,T,T,T,F,T,T,T,T,T,T,T,T,T,T,F,F,F,F,F,F] (any_of HT_.out z23_0) ?_
  refine take_ (i:=13) (N:=some 81) (v:=?_) (a':=?_) #[T,T,T,T,T,T,T,T,T,T,T,T,T,T,T,T,T,T,T,T,T,T,T,T,F,F,F,F,F,F] rfl rfl (take_ofW HT_.out HW_.out z23_0) (fun _ _ _ h=>h) (Or.inl ⟨by rfl,?_⟩) hHeld ?_ ?_
  rotate_left
  ·rintro w' ⟨s0,s1,s2,s3,s4,s5⟩
   go_simp
   with_reducible rfl
  rotate_left
  ·exact acq
  refine one_ (i:=24) (N:=some 92) #[T,T,T,T,T,T,T,T,T,T,T,T,T,T,T,T,T,T,T,T,T,T,T,T,T,F,F,F,F,F] rfl rfl (one_of HT_.out z23_0) (by decide) (fun K hK=>?_)
  refine goes_ Try.func43 z23_0 rfl #[.int .i64 (rd (rd_L1 l0 Ab) (Cb))] (by rfl) rfl rfl (by(try simp only[List.map_toArray,List.map_cons,List.map_nil]);first|done|(simp only[Bx];rfl)|rfl|(simp only[List.length_drop,List.length_take];rfl)) ?_
  with_reducible refine(fZ.calls (rd (rd_L1 l0 Ab) (Cb)) Gh _ Ja.out).mono ?_
  rintro e w' ⟨rfl,⟨nd,rfl⟩⟩
  refine⟨_,rfl,?_⟩
  refine hK.out _ _ ⟨(kc HB Bo),(kc HB Bp),(kc HB Bq),(kc HB Br),(kc HB Bs),(kc HB Bt)⟩ (fun hHeld=>?_)
  clear hK K
  refine norm_ (a':=?_) ?_ ?_
  rotate_left
  ·show Act.put _ (some 92) _=_
   exact acq
  refine pu (i:=25) (N:=some 93) #[T,T,T,T,T,T,T,T,T,T,T,T,T,T,T,T,T,T,T,T,T,T,T,T,T,T,F,F,F,F] (any_of HT_.out z23_0) ?_
  refine pu (i:=26) (N:=some 94) #[T,T,T,T,T,T,T,T,T,T,T,T,T,T,T,T,T,T,T,T,T,T,T,T,T,T,T,F,F,F] (any_of HT_.out z23_0) ?_
  refine take_ (i:=27) (N:=some 95) (v:=?_) (a':=?_) #[T,T,T,T,T,T,T,T,T,T,T,T,T,T,T,T,T,T,T,T,T,T,T,T,T,T,T,T,F,F] rfl rfl (take_ofW HT_.out HW_.out z23_0) (fun _ _ _ h=>h) (Or.inl ⟨by rfl,?_⟩) hHeld ?_ ?_
  rotate_left
  ·rintro w' ⟨s0,s1,s2,s3,s4,s5⟩
   go_simp
   with_reducible rfl
  rotate_left
  ·exact acq
  refine pu (i:=28) (N:=some 96) #[T,T,T,T,T,T,T,T,T,T,T,T,T,T,T,T,T,T,T,T,T,T,T,T,T,T,T,T,T,F] (any_of HT_.out z23_0) ?_
  refine pu (i:=29) (N:=some 13) #[T,T,T,T,T,T,T,T,T,T,T,T,T,T,T,T,T,T,T,T,T,T,T,T,T,T,T,T,T,T] (any_of HT_.out z23_0) ?_
  refine done_ (done_of HT_.out z23_0) ?_
  try go_wp2_with (first|((with_reducible refine gtD (N:=97) rfl ?_);refine Kd.R_lit (Kd.int .i64) _ 3 ?hg (N:=97) ?hd (xs:=([]:List Int)) (inner:=[]) (ok:=fun _=>True) (okp:=fun _=>True) ?hr ?hp (fun _ hk=>hk) trivial (Below.refl _ _) (Nat.le_refl _) (by simp) ?_;(case hd=>rfl);(case hg=>rfl);(case hr=>first|(go_simp;done)|(go_simp;rfl));(case hp=>exact(Reps.none _ _));intro Hj Lj Ga hb hg_ hnew_;clear hg_ hnew_;(first|rw[←Eh.out]at Ga|(simp only[Int.reduceToNat]at Ga;rw[←Eh.out]at Ga));have Da:=Az.mk (Kd.R_lower Ga (bwZ bw_23));replace HB:=Az.mk (bwT bw_23 hb);clear hb Ga)|((with_reducible refine gate_builtin (b:= .append) (xs:= #[.tmp 97, .tmp 98]) rfl ?_);at_builtin;refine Kd.R_append_rows (Kd.int .i64) (w0:=w) w.heap.size rfl (.tmp 97) (.tmp 98) 25 3 (.int .i64 0) 8 rfl Try.underlying25 info3 rfl (by decide) (by omega) Hj Ej l1 _ _ _ (fun _=>True) (fun _=>False) rfl rfl ?aO ?aR (fun _ _ h=>h) (fun _ h=>h.elim) ?aF ?aB ?aS ?aL ?_;(case aR=>exact kC (Kd.C_below Ei.out HB.out));(case aB=>exact bw_23);(case aF=>exact(fun _ _=>trivial));(case aO=>exact(kR Da.out));(case aS=>exact(bwZ bw_23));(case aL=>have:=LMc48.out;omega);intro Jm Lb ho hb hg hat;rw[←Gp.out]at ho;have n0_:=Az.mk (hb);have n1_:=Az.mk (ho);clear HB;clear Da;have HB:=n0_;have Ax:=n1_;clear n0_ n1_;clear ho hb hg hat))
  replace Ax:=Az.mk (Kd.R_drew Ax.out);replace HB:=Az.mk (bwD HB.out)
  have Ee:0≤((Ac):Int):=od
  have Ef:(Ac)<(l1.length:Int):=od
  obtain⟨Ex,Hk,Au⟩:=Kd.at_int Ei.out (Ac) Ee Ef
  have Cs:=Au
  obtain rfl:Ad=Ex:=(by injection Hk)
  replace Au:=kc HB Au
  replace Ee:=ets Ee
  replace Ef:=ets Ef
  refine start_ (n:=14) (S:=fun w'=>w'.cell? (Ad.add ((Ac)).toNat)=some (.int .i64 (rd l1 (Ac)))) (ds:=[13]) #[F,F,F,F,F,F,F,F,F,F,F,F,F,F] z23_0 rfl rfl ((kc HB Cs)) (fun hHeld=>?_);refine with_tabW fG.tab8 fG.bits8 (fun HT_ HW_=>?_)
  generalize Lb.drew=Lk at Ax HB Au hHeld ⊢
  refine pu (i:=0) (N:=some 100) #[T,F,F,F,F,F,F,F,F,F,F,F,F,F] (any_of HT_.out z23_0) ?_
  refine pu (i:=1) (N:=some 101) #[T,T,F,F,F,F,F,F,F,F,F,F,F,F] (any_of HT_.out z23_0) ?_
  refine pu (i:=2) (N:=some 102) #[T,T,T,F,F,F,F,F,F,F,F,F,F,F] (any_of HT_.out z23_0) ?_
  refine pu (i:=3) (N:=some 103) #[T,T,T,T,F,F,F,F,F,F,F,F,F,F] (any_of HT_.out z23_0) ?_
  refine pu (i:=4) (N:=some 104) #[T,T,T,T,T,F,F,F,F,F,F,F,F,F] (any_of HT_.out z23_0) ?_
  refine pu (i:=6) (N:=some 106) #[T,T,T,T,T,F,T,F,F,F,F,F,F,F] (any_of HT_.out z23_0) ?_
  refine pu (i:=7) (N:=some 107) #[T,T,T,T,T,F,T,T,F,F,F,F,F,F] (any_of HT_.out z23_0) ?_
  refine pu (i:=8) (N:=some 108) #[T,T,T,T,T,F,T,T,T,F,F,F,F,F] (any_of HT_.out z23_0) ?_
  refine pu (i:=9) (N:=some 109) #[T,T,T,T,T,F,T,T,T,T,F,F,F,F] (any_of HT_.out z23_0) ?_
  refine take_ (i:=10) (N:=some 110) (v:=?_) (a':=?_) #[T,T,T,T,T,F,T,T,T,T,T,F,F,F] rfl rfl (take_ofW HT_.out HW_.out z23_0) (fun _ _ _ h=>h) (Or.inl ⟨by rfl,?_⟩) hHeld ?_ ?_
  rotate_left
  ·intro w' s0
   go_simp
   with_reducible rfl
  rotate_left
  ·exact acq
  refine one_ (i:=5) (N:=some 105) #[T,T,T,T,T,T,T,T,T,T,T,F,F,F] rfl rfl (one_of HT_.out z23_0) (by decide) (fun K hK=>?_)
  refine goes_ Try.func44 z23_0 rfl #[.int .i64 (wrap64 ((rd l1 (Bc))+(rd l1 (Bd)))), .int .i64 (wrap64 ((rd l1 (Bf))+(rd l1 (Bh))))] (by rfl) rfl rfl (by(try simp only[List.map_toArray,List.map_cons,List.map_nil]);first|done|(simp only[Cc,Bw,Bu,Bb];rfl)|rfl|(simp only[List.length_drop,List.length_take];rfl)) ?_
  with_reducible refine(jQ.calls (wrap64 ((rd l1 (Bc))+(rd l1 (Bd)))) (wrap64 ((rd l1 (Bf))+(rd l1 (Bh)))) Ce _ Jk.out).mono ?_
  rintro e w' ⟨rfl,⟨nd,rfl⟩⟩
  refine⟨_,rfl,?_⟩
  have Hl:0≤((Ac):Int):=od
  have Hm:((Ac):Int)<((Cu.length:Int):Int):=od
  obtain⟨Jn,Jo,Ey,Ez,gl54,Jp,HG54⟩:=Kd.R_form Ax.out (by omega)
  (first|cases Ey|(injection Ey with ea_ en_ ec_;(first|subst ea_|(injection ea_ with ea_;subst ea_));subst ec_;clear en_))
  have GB54:=Az.mk Ez
  have Jq:=Az.mk HG54
  clear Ez gl54 HG54
  obtain⟨Hn,Ho⟩:=Kd.R_celln 0 Ax.out ((Ac):Int) Hl Hm
  replace Hl:=ets Hl
  replace Hm:=ets Hm
  have Hq:=Kd.R_putn Ax.out ((Ac):Int) (wrap64 (Ce - (rd l1 (Ac))))
  rw[←Gq.out]at Hq
  have Ic:=Az.mk Hq
  clear Hq
  refine hK.out _ _ ((kc HB Cs)) (fun hHeld=>?_)
  clear hK K
  refine norm_ (a':=?_) ?_ ?_
  rotate_left
  ·show Act.put _ (some 105) _=_
   exact acq
  refine pu (i:=11) (N:=some 111) #[T,T,T,T,T,T,T,T,T,T,T,T,F,F] (any_of HT_.out z23_0) ?_
  refine pu (i:=12) (N:=some 112) #[T,T,T,T,T,T,T,T,T,T,T,T,T,F] (any_of HT_.out z23_0) ?_
  refine last_ (i:=13) (N:=none) #[T,T,T,T,T,T,T,T,T,T,T,T,T,T] rfl rfl (one_of HT_.out z23_0) (by decide) (fun K hK=>?_)
  refine skip_ (w1:=?_) (by rfl) rfl ?_ ?_
  rotate_left
  ·go_simp
   rfl
  refine hK.out _ _ ?_
  clear hK K
  refine done_ (done_of HT_.out z23_0) ?_
  have Hz:0≤((Ac):Int):=od
  have Ia:((Ac):Int)<((Cu.length:Int):Int):=od
  replace Hz:=ets Hz
  replace Ia:=ets Ia
  try go_wp2_with (first|((with_reducible refine gtD (N:=119) rfl ?_);refine Kd.R_lit (Kd.int .i64) _ 3 ?hg (N:=119) ?hd (xs:=([]:List Int)) (inner:=[]) (ok:=fun _=>True) (okp:=fun _=>True) ?hr ?hp (fun _ hk=>hk) trivial (Below.refl _ _) (Nat.le_refl _) (by simp) ?_;(case hd=>rfl);(case hg=>rfl);(case hr=>first|(go_simp;done)|(go_simp;rfl));(case hp=>exact(Reps.none _ _));intro Lc Ll Ek hb hg_ hnew_;clear hg_ hnew_;(first|rw[←Gr.out]at Ek|(simp only[Int.reduceToNat]at Ek;rw[←Gr.out]at Ek));replace Ax:=Az.mk (Kd.R_elder' (kR Ic.out) (Kd.R_base Ek) hb);have Id:=Az.mk (Kd.R_lower (Kd.R_new' Ek (Kd.R_lt (kR Ic.out))) (bwZ bw_23));replace HB:=Az.mk (bwT bw_23 hb);clear hb Ek))
  go_ret2
  exact⟨_,by first|rfl|(simp[eWn,eWs] <;> rfl)|(simp only[←Ct, ←Cc, ←Cf, ←Bw, ←Cd, ←Bu, ←Bx, ←Bb, ←Bv];first|rfl|(simp[eWn,eWs] <;> rfl))|(simp[*,eWn,eWs] <;> rfl),by(with_reducible repeat(first|apply Kd.R_alloc|apply Kd.R_drewN|apply Kd.R_drew));exact Kd.R_mono Id.out (fun _ hk=>trivial),bw_23⟩
end
theorem bw_24 {n:Nat}{v v':World} (h:Below n v v':=by repeat(first|(with_reducible first|exact HB.out|apply bwA|apply pbN|apply bwD)|exact HB.out)):Below n v v':=h
def jJ.f (k:Nat) (l0:List Int):Option ((List (List Int)) × Int):=(jP.f k l0).bind fun bt520=>(some (bt520.1,bt520.2.2))
theorem jJ.calls (k:Nat) (A0:Option Addr) (c0:Nat) (l0:List Int) (r1:List (List Int)) (r2:Int) (w:World) (Ag:Kd.C (Kd.int .u8) w A0 l0.length l0) (Ah:l0.length≤c0) (h:jJ.f k l0=some (r1,r2)):
  Calls Try.prog 10 #[.slice A0 l0.length c0] w fun e w'=>∃v0_:Value,e= .returned (.tuple #[v0_, .int .i64 r2])∧Kd.S (Kd.slice 3 (Kd.int .i64)) 25 w' w.heap.size (fun _=>True) v0_ r1∧Below w.heap.size w w':=by
 have Al:=Az.mk Ag
 have Am:=Az.mk Ah
 clear Ag Ah
 have HB:=Az.mk (Below.refl w.heap.size w)
 have H:=h
 unfold jJ.f at H
 clear h
 replace H:=bez H
 obtain⟨⟨Ad,Ae,Af⟩,A2,H⟩:=H
 try dsimp only at H
 simp only[Option.some.injEq,Prod.mk.injEq]at H
 obtain⟨rfl,rfl⟩:=H
 go_enter Try.func10,Try.ntmps10
 go_wp2_with (first|((with_reducible refine gtC (f:=32) rfl ?_);refine clz Try.func32 (some 9) #[.slice A0 l0.length c0] ?_;(with_reducible refine(jP.calls k _ _ l0 Ad Ae Af _ ?Aa ?Ab A2.out).mono ?_);(case Aa=>exact kC Al.out);(case Ab=>exact Am.out);rintro e w3 ⟨Ap,Aq,rfl,Ai,Aj,hb⟩;refine⟨_,rfl,?_⟩;have Ac:=Az.mk (Kd.S_lower Ai (bwZ bw_24));have Ak:=Az.mk (Kd.Q_lower Aj (bwZ bw_24));replace HB:=Az.mk (bwT bw_24 hb);(try clear hb);(try clear Ai);(try clear Aj)))
 go_ret2
 exact⟨_,rq1,by(with_reducible repeat(first|apply Kd.S_alloc|apply Kd.S_drewN|apply Kd.S_drew));exact Kd.S_mono Ac.out (fun _ hk=>trivial),bw_24⟩
theorem mF (a0:Int) (r:Int) (w:World) (h:gS.f a0=some r):
  Calls Try.prog 41 #[.int .i64 a0] w fun e w'=>e= .returned (.int .i64 r)∧w'=w:=by
 have H:(some (mx a0 (wrap64 (-a0))))=some r:=h
 clear h
 obtain⟨Ab,Aa⟩:∃j_:Int,(mx a0 (wrap64 (-a0)))=j_:=⟨_,rfl⟩
 replace H:(some Ab)=some r:=by first|(rw[Aa]at H;exact H)|(simp only[Aa]at H ⊢;exact H)
 have hji2_:(if a0<(wrap64 (-a0)) then(wrap64 (-a0))else a0)=Ab:=Aa
 obtain rfl:=Option.some.inj H
 go_enter Try.func41,Try.ntmps41
 go_wp2
 go_ret
 exact⟨by first|rfl|(simp[eWn,eWs] <;> rfl)|(simp only[←Aa];first|rfl|(simp[eWn,eWs] <;> rfl))|(simp[*,eWn,eWs] <;> rfl),rfl⟩
mutual
def fW.l0:Nat→List (List Int)→Int→Int→Option (List (List Int) × Bool)
 |0,_,_,_=>none
 |k+1,x0,e,i=>if i<(x0.length:Int) then(if 0≤i then(fW.l1 k x0 (rd_L1 x0 i) e i 0)else none) else(some (x0,true))
def fW.l1:Nat→List (List Int)→List Int→Int→Int→Int→Option (List (List Int) × Bool)
 |0,_,_,_,_,_=>none
 |k+1,x0,row,e,i,j=>if j<(row.length:Int) then(if 0≤j then((gS.f (rd row j)).bind fun s=>(if s=e then(fW.l1 k x0 (row.set j.toNat (wrap64 (-(rd row j)))) e i (wrap64 (j+1))) else(fW.l1 k x0 row e i (wrap64 (j+1)))))else none) else(fW.l0 k (x0.set i.toNat row) e (wrap64 (i+1)))
end
def fW.f (k:Nat) (l0:List (List Int)) (a1:Int):Option (List (List Int) × Bool):=(fC.f k l0).bind fun t1=>(if t1=true then((gY.f a1 1 (wrap64 (Int.tdiv (wrap64 (3*(l0.length:Int))) 2))).bind fun t2=>(if t2=true then((gN.f k l0).bind fun x0=>(fW.l0 k x0 a1 0)) else(some (([]:List (List Int)),false)))) else(some (([]:List (List Int)),false)))
theorem fW.calls (k:Nat) (A0:Option Addr) (c0:Nat) (l0:List (List Int)) (a1:Int) (r1:List (List Int)) (r2:Bool) (w:World) (Ad:Kd.C (Kd.slice 3 (Kd.int .i64)) w A0 l0.length l0) (Ae:l0.length≤c0) (h:fW.f k l0 a1=some (r1,r2)):
  Calls Try.prog 11 #[.slice A0 l0.length c0, .int .i64 a1] w fun e w'=>∃v0_:Value,e= .returned (.tuple #[v0_, .bool r2])∧Kd.S (Kd.slice 3 (Kd.int .i64)) 25 w' w.heap.size (fun _=>True) v0_ r1∧Below w.heap.size w w':=by
 have Ab:=Az.mk Ad
 have Ac:=Az.mk Ae
 clear Ad Ae
 unfold fW.f at h
 obtain⟨t1,T1,h⟩:=be.mp h
 have T1:=Az.mk T1
 by_cases c1:t1=true
 rotate_left
 ·rw[ig c1]at h
  obtain⟨rfl,rfl⟩:=Prod.mk.injEq .. ▸ Option.some.inj h
  replace c1:=Bool.eq_false_iff.mpr c1
  subst c1
  go_enter Try.func11,Try.ntmps11
  go_wp2_with (first
   |(go_at_call 45;refine(fC.calls k A0 c0 l0 false w Ab.out Ac.out T1.out).mono ?_;rintro e W1 ⟨rfl,hb1⟩;have HB1:=Az.mk hb1;clear hb1))
  go_ret2
  exact⟨_,rfl,Kd.S_nil _ _ _ _ _,HB1.out⟩
 subst c1
 rw[ip rfl]at h
 obtain⟨t2,T2,h⟩:=be.mp h
 have T2:=Az.mk T2
 by_cases c2:t2=true
 rotate_left
 ·rw[ig c2]at h
  obtain⟨rfl,rfl⟩:=Prod.mk.injEq .. ▸ Option.some.inj h
  replace c2:=Bool.eq_false_iff.mpr c2
  subst c2
  go_enter Try.func11,Try.ntmps11
  go_wp2_with (first
   |(go_at_call 45;refine(fC.calls k A0 c0 l0 true w Ab.out Ac.out T1.out).mono ?_;rintro e W1 ⟨rfl,hb1⟩;have HB1:=Az.mk hb1;clear hb1)
   |(go_at_call 46;refine(gY.calls a1 1 _ false W1 T2.out).mono ?_;rintro e w' ⟨rfl,⟨nd,rfl⟩⟩))
  go_ret2
  exact⟨_,rfl,Kd.S_nil _ _ _ _ _,pbN HB1.out nd⟩
 subst c2
 rw[ip rfl]at h
 obtain⟨x0,T3,h⟩:=be.mp h
 have T3:=Az.mk T3
 have H':=Az.mk h
 clear h
 go_enter Try.func11,Try.ntmps11
 go_wp2_with (first
  |(go_at_call 45;refine(fC.calls k A0 c0 l0 true w Ab.out Ac.out T1.out).mono ?_;rintro e W1 ⟨rfl,hb1⟩;have HB1:=Az.mk hb1;clear hb1)
  |(go_at_call 46;refine(gY.calls a1 1 _ true W1 T2.out).mono ?_;rintro e w' ⟨rfl,⟨nd,rfl⟩⟩)
  |(go_at_call 35;refine(gN.calls k A0 c0 l0 x0 _ (Kd.C_drewN (Kd.C_below Ab.out HB1.out) _) Ac.out T3.out).mono ?_;rintro e W2 ⟨v,rfl,ho,hb2⟩;have HO:=Az.mk (Kd.S_lower (base':=w.heap.size) ho (pbN HB1.out nd).size);have HB:=Az.mk (bwT (pbN HB1.out nd) hb2);clear ho hb2;obtain⟨AV,cV,eV⟩:=Kd.S_slice HO.out;subst eV))
 clear T1 T2 T3
 go_loopg [27] k (fun kq v1 w'=>∃(Aa:List (List Int)) (i_1:Int),v1= .int .i64 i_1∧Az (fW.l0 kq Aa a1 i_1=some (r1,r2))∧Az (kq≤k)∧Az (Kd.S (Kd.slice 3 (Kd.int .i64)) 25 w' w.heap.size (fun _=>True) (.slice AV x0.length cV) Aa)∧Az (Below w.heap.size w w'))
 case atStart=>exact⟨x0,0,rfl,H',⟨Nat.le_refl _⟩,HO,HB⟩
 clear H' HO HB
 obtain⟨Aa,i_1,rfl,HA,HK1,HO,HB⟩:=hrel
 cases gk with
 |zero=>exact absurd HA.out (by simp[fW.l0])
 |succ k1=>
  have H:=HA.out
  clear HA
  simp only[fW.l0]at H
  have HL:=Az.mk (Kd.S_reads' HO.out).1
  rw[←HL.out]at H
  by_cases c3:i_1<(x0.length:Int)
  rotate_left
  ·rw[ig c3]at H
   have c3b:decide (i_1<(x0.length:Int))=false:=decide_eq_false c3
   clear c3
   obtain⟨rfl,rfl⟩:=Prod.mk.injEq .. ▸ Option.some.inj H
   go_wp2
   go_ret2
   exact⟨_,rfl,HO.out,HB.out⟩
  rw[ip c3]at H
  by_cases c4:0≤i_1
  rotate_left
  ·rw[ig c4]at H
   exact absurd H (by simp)
  rw[ip c4]at H
  have H':=Az.mk H
  clear H
  obtain⟨g,cap,eg,hg1,hg2,cells,hg3⟩:=Kd.S_form HO.out (by have:=HL.out;omega)
  injection eg with ea en ec
  clear en
  subst ea
  subst ec
  obtain⟨oki,cs,hcl,hM,hcc,hfr,hoki,hH⟩:=Kd.S_elem HO.out [] i_1 c4 c3
  obtain⟨ve,rfl,ge⟩:=hM
  have hx:=hcc 0 _ rfl
  simp only[show((Kd.slice 3 (Kd.int .i64))).sz=1 from rfl,Nat.mul_one,Nat.add_zero]at hx
  have c3b:=ode c3
  obtain⟨row0,e0⟩:∃r_:List Int,rd_L1 Aa i_1=r_:=⟨_,rfl⟩
  replace ge:Kd.R (Kd.int .i64) 3 wr w.heap.size oki ve row0:=by rw[←e0];exact ge
  have H'':=Az.mk (show fW.l1 k1 Aa row0 a1 i_1 0=some (r1,r2)from by rw[←e0];exact H'.out)
  clear H' e0
  have H':=H''
  clear H''
  have HG:=Az.mk ge
  have HH:=Az.mk hH
  have HI:=Az.mk hoki
  clear ge hH hoki hfr hcc hcl hg3 cells
  obtain⟨AR,cR,eR⟩:=Kd.R_slice HG.out
  subst eR
  replace c3:=ets c3
  replace c4:=ets c4
  go_wp2
  go_loopg [33] k1 (fun kq v1 w'=>∃(row_1:List Int) (j_1:Int),v1= .int .i64 j_1∧Az (fW.l1 kq Aa row_1 a1 i_1 j_1=some (r1,r2))∧Az (kq≤k1)∧Az (Kd.R (Kd.int .i64) 3 w' w.heap.size oki (.slice AR row0.length cR) row_1)∧Az (Kd.H (Kd.slice 3 (Kd.int .i64)) 25 w' w.heap.size (fun _=>True) (.slice (some ⟨g,0,none⟩) x0.length cV) Aa i_1 oki [.slice AR row0.length cR])∧Az (Below w.heap.size w w'))
  case atStart=>exact⟨row0,0,rfl,H',⟨Nat.le_refl _⟩,HG,HH,HB⟩
  clear H' HG HH HB HO hx
  obtain⟨row_1,j_1,rfl,HA,HK2,HG,HH,HB⟩:=hrel
  cases gk with
  |zero=>exact absurd HA.out (by simp[fW.l1])
  |succ k2=>
   have H:=HA.out
   clear HA
   simp only[fW.l1]at H
   have Af:=Az.mk (Kd.R_reads' HG.out).1
   rw[←Af.out]at H
   by_cases d3:j_1<(row0.length:Int)
   rotate_left
   ·rw[ig d3]at H
    have d3b:decide (j_1<(row0.length:Int))=false:=decide_eq_false d3
    clear d3
    have H':=Az.mk H
    clear H
    go_wp2
    go_roundg k2
    case measure=>have:=HK1.out;have:=HK2.out;omega
    case rel=>exact⟨Aa.set i_1.toNat row_1,(wrap64 (i_1+1)),rfl,H',⟨by have:=HK1.out;have:=HK2.out;omega⟩,⟨Kd.H_back HH.out (Kd.M_row HG.out) (fun _ hk_=>hk_)⟩,HB⟩
   rw[ip d3]at H
   by_cases d4:0≤j_1
   rotate_left
   ·rw[ig d4]at H
    exact absurd H (by simp)
   rw[ip d4]at H
   obtain⟨s,T4,H⟩:=be.mp H
   have T4:=Az.mk T4
   obtain⟨gr,cap2,eg,hgb,_,cells,hg3⟩:=Kd.R_form HG.out (by have:=Af.out;omega)
   have GB:=Az.mk hgb
   clear hgb
   injection eg with ea en ec
   clear en
   subst ea
   subst ec
   obtain⟨hx,hf⟩:=Kd.R_celln 0 HG.out j_1 d4 d3
   replace hx:wr.cell? ⟨gr,j_1.toNat,none⟩=some (.int .i64 (rd row_1 j_1)):=hx
   clear hg3 cells
   have d3b:=ode d3
   replace d3:=ets d3
   replace d4:=ets d4
   by_cases c5:s=a1
   rotate_left
   ·rw[ig c5]at H
    have c5b:(s== a1)=false:=beq_eq_false_iff_ne.mpr c5
    clear c5
    have H':=Az.mk H
    clear H
    go_wp2_with (first|(go_at_call 41;refine(mF (rd row_1 j_1) s _ T4.out).mono ?_;rintro e w' ⟨rfl,rfl⟩))
    go_roundg k2
    case measure=>have:=HK1.out;have:=HK2.out;omega
    case rel=>exact⟨row_1,(wrap64 (j_1+1)),rfl,H',⟨by have:=HK1.out;have:=HK2.out;omega⟩,HG,HH,HB⟩
   rw[ip c5]at H
   have c5b:(s== a1)=true:=beq_iff_eq.mpr c5
   clear c5
   have H':=Az.mk H
   clear H
   go_wp2_with (first|(go_at_call 41;refine(mF (rd row_1 j_1) s _ T4.out).mono ?_;rintro e w' ⟨rfl,rfl⟩))
   go_roundg k2
   case measure=>have:=HK1.out;have:=HK2.out;omega
   case rel=>
    have HP:=Kd.R_putg HG.out j_1 (wrap64 (-(rd row_1 j_1)))
    exact⟨row_1.set j_1.toNat (wrap64 (-(rd row_1 j_1))),(wrap64 (j_1+1)),rfl,H',⟨by have:=HK1.out;have:=HK2.out;omega⟩,⟨HP.1⟩,⟨Kd.H_step HH.out (fun k_ _ hn hlt=>HP.2.block k_ hlt (fun e_=>hn (by injection e_ with e_;rw[e_];exact HG.out.1 gr rfl)))⟩,⟨bwS HB.out GB.out⟩⟩
section
open Bool renaming true → T, false → F
theorem bw_25 {n:Nat}{v v':World} (h:Below n v v':=by repeat(first|(with_reducible first|exact HB.out|apply bwA|apply pbN|apply bwD|refine bwS ?_ GB18.out)|exact HB.out)):Below n v v':=h
theorem ln_25 {P:Prop} (h:P:=by(try simp only[List.map_toArray,List.map_cons,List.map_nil]);first|done|rfl|(simp only[List.length_drop,List.length_take];rfl)):P:=h
mutual
def fL.l0:Nat→List (List Int)→Int→List (List Int)→Int→Option ((List (List Int)) × Bool)
 |0,_,_,_,_=>none
 |k+1,x0,x1,x6,x7=>if x7<(x0.length:Int) then(fL.l1 k x0 x1 x6 x7 0) else(some (x6,true))
def fL.l1:Nat→List (List Int)→Int→List (List Int)→Int→Int→Option ((List (List Int)) × Bool)
 |0,_,_,_,_,_=>none
 |k+1,x0,x1,x6,x7,x8=>if x8<3 then(if 0≤x7 then(if x7<(x0.length:Int) then(if 0≤x8 then(if x8<((rd_L1 x0 x7).length:Int) then((fZ.f (rd (rd_L1 x0 x7) x8)).bind fun t536=>(if t536=x1 then(if x7<(x6.length:Int) then(if x8<((rd_L1 x6 x7).length:Int) then(fL.l1 k x0 x1 (x6.set (x7:Int).toNat ((rd_L1 x6 x7).set (x8:Int).toNat (wrap64 (-(rd (rd_L1 x0 x7) x8))))) x7 (wrap64 (x8+1))) else(none)) else(none)) else(fL.l1 k x0 x1 x6 x7 (wrap64 (x8+1))))) else(none)) else(none)) else(none)) else(none)) else(fL.l0 k x0 x1 x6 (wrap64 (x7+1)))
end
def fL.f (k:Nat) (l0:List (List Int)) (a1:Int):Option ((List (List Int)) × Bool):=(jR.f k l0 a1).bind fun t527=>(if t527=true then((gQ.f k l0).bind fun t531=>(fL.l0 k l0 a1 t531 0)) else(some ((([]:List (List Int))),false)))
def fL.T11:Bool × List (List Nat × List Nat):=(true,[([],[]),([],[]),([0,1],[0,1]),([2],[2]),([],[]),([],[]),([],[]),([5,6],[5,6]),([7],[7]),([],[]),([8,9],[8,9]),([10],[10]),([11],[11]),([3,4,0,1,2,3,4,5,6,7,8,9,10,11,12],[3,4]),([13,12,0,1,2,3,4,5,6,7,8,9,10,11,12],[12,13])])
def fL.B11:List Nat:=[0,0,3,7,0,0,0,96,224,0,992,2016,4064,8191,16383]
theorem fL.tab11:rtab .any (opsOf Try.f12 11)=fL.T11:=by kernel_rfl
theorem fL.bits11:waitsOk fL.T11.2 fL.B11=true:=by kernel_rfl
theorem fL.calls (k:Nat) (A0:Option Addr) (c0:Nat) (l0:List (List Int)) (a1:Int) (r1:List (List Int)) (r2:Bool) (w:World) (Ef:Kd.C (Kd.slice 3 (Kd.int .i64)) w A0 l0.length l0) (Eg:l0.length≤c0) (h:fL.f k l0 a1=some (r1,r2)):
  Calls Try.prog 12 #[.slice A0 l0.length c0, .int .i64 a1] w fun e w'=>∃v0_:Value,e= .returned (.tuple #[v0_, .bool r2])∧Kd.S (Kd.slice 3 (Kd.int .i64)) 25 w' w.heap.size (fun _=>True) v0_ r1∧Below w.heap.size w w':=by
 have Co:=Az.mk Ef
 have Dq:=Az.mk Eg
 clear Ef Eg
 have HB:=Az.mk (Below.refl w.heap.size w)
 have H:=h
 unfold fL.f at H
 clear h
 replace H:=bez H
 obtain⟨Dr,A3,H⟩:=H
 try dsimp only at H
 by_cases c4:Dr=true
 rotate_left
 ·replace c4:=Bool.eq_false_iff.mpr c4
  subst c4
  rw[ig ff]at H
  obtain⟨Ds,hy⟩:∃y_:List (List Int),y_=(([]:List (List Int))):=⟨_,rfl⟩
  replace H:(some (Ds,false))=some (r1,r2):=rh
  have Bv:=Az.mk hy
  clear hy
  simp only[Option.some.injEq,Prod.mk.injEq]at H
  obtain⟨rfl,rfl⟩:=H
  go_enter Try.func12,Try.ntmps12
  go_wp2_with (first|((with_reducible refine gtC (f:=47) rfl ?_);refine clz Try.func47 (some 11) #[.slice A0 l0.length c0, .int .i64 a1] ?_;(with_reducible refine(jR.calls k _ _ l0 a1 false _ ?As ?Au A3.out).mono ?_);(case As=>exact kC Co.out);(case Au=>exact Dq.out);rintro e Ey ⟨rfl,hb⟩;refine⟨_,rfl,?_⟩;replace HB:=Az.mk (bwT bw_25 hb);(try clear hb))|((with_reducible refine gtD (N:=13) rfl ?_);refine Kd.S_lit (Kd.slice 3 (Kd.int .i64)) _ 25 ?hg (N:=13) ?hd (xs:=([]:List (List Int))) (inner:=[]) (ok:=fun _=>True) (okp:=fun _=>True) ?hr ?hp (fun _ hk=>hk) trivial (Below.refl _ _) (Nat.le_refl _) (by simp) ?_;(case hd=>rfl);(case hg=>rfl);(case hr=>first|(go_simp;done)|(go_simp;rfl));(case hp=>exact(Reps.none _ _));intro Es Ez Bj hb hg_ hnew_;clear hg_ hnew_;(first|rw[←Bv.out]at Bj|(simp only[Int.reduceToNat]at Bj;rw[←Bv.out]at Bj));have Cp:=Az.mk (Kd.S_lower Bj (bwZ bw_25));replace HB:=Az.mk (bwT bw_25 hb);clear hb Bj))
  go_ret2
  exact⟨_,rq1,kS Cp.out,bw_25⟩
 subst c4
 rw[ip rfl]at H
 replace H:=bez H
 obtain⟨Cq,A5,H⟩:=H
 try dsimp only at H
 have H':=Az.mk H
 clear H
 go_enter Try.func12,Try.ntmps12
 go_wp2_with (first|((with_reducible refine gtC (f:=47) rfl ?_);refine clz Try.func47 (some 11) #[.slice A0 l0.length c0, .int .i64 a1] ?_;(with_reducible refine(jR.calls k _ _ l0 a1 true _ ?As ?Au A3.out).mono ?_);(case As=>exact kC Co.out);(case Au=>exact Dq.out);rintro e w6 ⟨rfl,hb⟩;refine⟨_,rfl,?_⟩;replace HB:=Az.mk (bwT bw_25 hb);(try clear hb))|((with_reducible refine gtC (f:=38) rfl ?_);refine clz Try.func38 (some 15) #[.slice A0 l0.length c0] ?_;(with_reducible refine(gQ.calls k _ _ l0 Cq _ ?As ?Au A5.out).mono ?_);(case As=>exact kC (Kd.C_below Co.out HB.out));(case Au=>exact Dq.out);rintro e w7 ⟨By,rfl,Eh,hb⟩;refine⟨_,rfl,?_⟩;have Cr:=Az.mk (Kd.S_lower Eh (bwZ bw_25));replace HB:=Az.mk (bwT bw_25 hb);(try clear hb);(try clear Eh)))
 go_loopg [7] k (fun kq v7 w'=>∃(Bm:List (List Int)) (Aa:Int),v7= .int .i64 Aa∧Az (fL.l0 kq l0 a1 Bm Aa=some (r1,r2))∧Az (kq≤k)∧Az (Kd.S (Kd.slice 3 (Kd.int .i64)) 25 w' w.heap.size (fun _=>True) By Bm)∧Az (Below w.heap.size w w'))
 case atStart=>exact⟨(Cq),(0),rq2,H',⟨Nat.le_refl _⟩,⟨kS Cr.out⟩,⟨bw_25⟩⟩
 clear H'
 try clear c4
 obtain⟨Bm,Aa,rfl,HA,HK1,HO_6,HB⟩:=hrel
 cases gk with
 |zero=>exact absurd HA.out (by simp[fL.l0])
 |succ k1=>
  have H:=HA.out
  clear HA
  simp only[fL.l0]at H
  by_cases c8:Aa<(l0.length:Int)
  rotate_left
  ·rw[ig c8]at H
   have Cs:=decide_eq_false c8
   clear c8
   simp only[Option.some.injEq,Prod.mk.injEq]at H
   obtain⟨rfl,rfl⟩:=H
   go_wp2
   go_ret2
   exact⟨_,rq1,kS HO_6.out,bw_25⟩
  rw[ip c8]at H
  have Cs:=ode c8
  clear c8
  have H':=Az.mk H
  clear H
  go_wp2
  go_loopg [8] k1 (fun kq v8 w'=>∃(Ac:List (List Int)) (Ab:Int),v8= .int .i64 Ab∧Az (fL.l1 kq l0 a1 Ac Aa Ab=some (r1,r2))∧Az (kq≤k1)∧Az (Kd.S (Kd.slice 3 (Kd.int .i64)) 25 w' w.heap.size (fun _=>True) By Ac)∧Az (Below w.heap.size w w'))
  case atStart=>exact⟨(Bm),(0),rq2,H',⟨Nat.le_refl _⟩,⟨kS HO_6.out⟩,⟨bw_25⟩⟩
  clear H'
  try clear c4
  try clear c8
  try clear Cs
  obtain⟨Ac,Ab,rfl,HA,HK2,HO_6,HB⟩:=hrel
  cases gk with
  |zero=>exact absurd HA.out (by simp[fL.l1])
  |succ k2=>
   have H:=HA.out
   clear HA
   simp only[fL.l1]at H
   by_cases c9:Ab<3
   rotate_left
   ·rw[ig c9]at H
    have Dt:=decide_eq_false c9
    clear c9
    have H':=Az.mk H
    clear H
    go_wp2
    go_roundg k2
    case measure=>have:=HK1.out;have:=HK2.out;omega
    case rel=>exact⟨(Ac),(wrap64 (Aa+1)),rq2,H',⟨by have:=HK1.out;have:=HK2.out;omega⟩,⟨kS HO_6.out⟩,⟨bw_25⟩⟩
   rw[ip c9]at H
   have Dt:=ode c9
   clear c9
   by_cases Dh:0≤Aa
   rotate_left
   ·rw[ig Dh]at H
    exact absurd H (by simp)
   rw[ip Dh]at H
   have Ei:=ode Dh
   clear Dh
   by_cases Di:Aa<(l0.length:Int)
   rotate_left
   ·rw[ig Di]at H
    exact absurd H (by simp)
   rw[ip Di]at H
   have Ej:=ode Di
   clear Di
   by_cases Dj:0≤Ab
   rotate_left
   ·rw[ig Dj]at H
    exact absurd H (by simp)
   rw[ip Dj]at H
   have Ek:=ode Dj
   clear Dj
   by_cases Dk:Ab<((rd_L1 l0 Aa).length:Int)
   rotate_left
   ·rw[ig Dk]at H
    exact absurd H (by simp)
   rw[ip Dk]at H
   have El:=ode Dk
   clear Dk
   replace H:=bez H
   obtain⟨Bz,Em,H⟩:=H
   try dsimp only at H
   by_cases Ca:Bz=a1
   rotate_left
   ·rw[ig Ca]at H
    have Ct:=beq_eq_false_iff_ne.mpr Ca
    have Cu:=bne_iff_ne.mpr Ca
    have H':=Az.mk H
    clear H
    have Av:0≤(Aa:Int):=od
    have Ax:Aa<(l0.length:Int):=od
    obtain⟨Bk,Cb,Cc,Cd,Ad,Ae,Af⟩:=at_L1 Co.out Aa Av Ax
    cases Cd
    replace Ad:=kc HB Ad
    have Al:=Az.mk Af
    have Bn:=Az.mk Ae
    clear Af Ae
    replace Av:=ets Av
    replace Ax:=ets Ax
    have Ay:0≤(Ab:Int):=od
    have Ba:Ab<((rd_L1 l0 Aa).length:Int):=od
    obtain⟨Cv,Ce,Ag⟩:=Kd.at_int Al.out Ab Ay Ba
    cases Ce
    replace Ag:=kc HB Ag
    replace Ay:=ets Ay
    replace Ba:=ets Ba
    go_wp2_with (first|((with_reducible refine gtC (f:=43) rfl ?_);refine clz Try.func43 (some 33) #[.int .i64 (rd (rd_L1 l0 Aa) Ab)] ?_;(with_reducible refine(fZ.calls (rd (rd_L1 l0 Aa) Ab) Bz _ Em.out).mono ?_);rintro e w' ⟨rfl,⟨nd,rfl⟩⟩;refine⟨_,rfl,?_⟩))
    go_roundg k2
    case measure=>have:=HK1.out;have:=HK2.out;omega
    case rel=>exact⟨(Ac),(wrap64 (Ab+1)),rq2,H',⟨by have:=HK1.out;have:=HK2.out;omega⟩,⟨kS HO_6.out⟩,⟨bw_25⟩⟩
   rw[ip Ca]at H
   have Ct:=beq_iff_eq.mpr Ca
   have Cu:=bne_eq_false_iff_eq.mpr Ca
   clear Ca
   by_cases Dl:Aa<(Ac.length:Int)
   rotate_left
   ·rw[ig Dl]at H
    exact absurd H (by simp)
   rw[ip Dl]at H
   have Eo:=ode Dl
   clear Dl
   by_cases Dm:Ab<((rd_L1 Ac Aa).length:Int)
   rotate_left
   ·rw[ig Dm]at H
    exact absurd H (by simp)
   rw[ip Dm]at H
   have Ep:=ode Dm
   clear Dm
   obtain⟨Cf,hy⟩:∃y_:List Int,y_=((rd_L1 Ac Aa).set (Ab:Int).toNat (wrap64 (-(rd (rd_L1 l0 Aa) Ab)))):=⟨_,rfl⟩
   replace H:(fL.l1 k2 l0 a1 (Ac.set (Aa:Int).toNat Cf) Aa (wrap64 (Ab+1)))=some (r1,r2):=rh
   have Cw:=Az.mk hy
   clear hy
   obtain⟨Cy,hy⟩:∃y_:List (List Int),y_=(Ac.set (Aa:Int).toNat Cf):=⟨_,rfl⟩
   replace H:(fL.l1 k2 l0 a1 Cy Aa (wrap64 (Ab+1)))=some (r1,r2):=rh
   have Cz:=Az.mk hy
   clear hy
   have H':=Az.mk H
   clear H
   have Av:0≤(Aa:Int):=od
   have Ax:Aa<(l0.length:Int):=od
   obtain⟨Bk,Cb,Cc,Cd,Ad,Ae,Af⟩:=at_L1 Co.out Aa Av Ax
   cases Cd
   replace Ad:=kc HB Ad
   have Al:=Az.mk Af
   have Bn:=Az.mk Ae
   clear Af Ae
   replace Av:=ets Av
   replace Ax:=ets Ax
   have Ay:0≤(Ab:Int):=od
   have Ba:Ab<((rd_L1 l0 Aa).length:Int):=od
   obtain⟨Cv,Ce,Ag⟩:=Kd.at_int Al.out Ab Ay Ba
   cases Ce
   replace Ag:=kc HB Ag
   replace Ay:=ets Ay
   replace Ba:=ets Ba
   try go_wp2_with (first|((with_reducible refine gtC (f:=43) rfl ?_);refine clz Try.func43 (some 33) #[.int .i64 (rd (rd_L1 l0 Aa) Ab)] ?_;(with_reducible refine(fZ.calls (rd (rd_L1 l0 Aa) Ab) Bz _ Em.out).mono ?_);rintro e w' ⟨rfl,⟨nd,rfl⟩⟩;refine⟨_,rfl,?_⟩;(try(rw[drewN_self wr];generalize hq_:World.drewN wr _=wr;have n0_:Az (Kd.S (Kd.slice 3 (Kd.int .i64)) 25 wr w.heap.size (fun _=>True) By Ac):=⟨by rw[←hq_];exact(kS HO_6.out)⟩;have n1_:Az (Below w.heap.size w wr):=⟨by rw[←hq_];exact bw_25⟩;clear HO_6 HB hq_;have HO_6:=n0_;have HB:=n1_;clear n0_ n1_))))
   replace HO_6:=Az.mk (Kd.S_drew HO_6.out);replace HB:=Az.mk (bwD HB.out)
   obtain⟨Et,Eu,Da⟩:=Kd.S_slice HO_6.out
   (first|subst Da|(injection Da with f1_ f2_ f3_;have f4_:=f1_.symm;have f5_:=f3_.symm;clear f1_ f2_ f3_;subst f4_;subst f5_))
   have Bo:0≤(Aa:Int):=od
   have Bp:Aa<(Ac.length:Int):=od
   obtain⟨Db,Du,Cg,Dv,Ai,Bb,Bc⟩:=at_L1 (Kd.S_reads' HO_6.out).2.2 Aa Bo Bp
   cases Dv
   obtain⟨Er,hce537,hMe537,Bl⟩:=Kd.S_get HO_6.out [] Aa Bo (by first|exact Bp|exact od|(have e_:=(Kd.S_reads' HO_6.out).1;omega))
   obtain⟨Dn,rfl,Am⟩:=hMe537
   have Ah:=Bl 0 _ rfl
   rw[Nat.add_zero,show((Kd.slice 3 (Kd.int .i64))).sz=1 from rfl,Nat.mul_one]at Ah
   replace Ah:=Option.some.inj (Ah.symm.trans Ai)
   rw[Ah]at Am
   have Ap:=Az.mk (show Kd.R (Kd.int .i64) 3 _ _ _ _ (rd_L1 Ac Aa)from Am)
   clear Ah Am
   have Bd:=Az.mk Ai
   clear Bl hce537
   have Bq:=Az.mk Bc
   have Do:=Az.mk Bb
   clear Bc Bb
   replace Bo:=ets Bo
   replace Bp:=ets Bp
   have Ch:0≤(Aa:Int):=od
   have Ci:Aa<(l0.length:Int):=od
   obtain⟨Dc,Dw,Cj,Dx,Aj,Bf,Bh⟩:=at_L1 Co.out Aa Ch Ci
   have Br:=Aj
   obtain rfl:Bk=Dc:=(by injection Dx)
   replace Aj:=kc HB Aj
   have Bi:=Az.mk Bh
   have Dp:=Az.mk Bf
   clear Bh Bf
   replace Ch:=ets Ch
   replace Ci:=ets Ci
   have Ck:0≤(Ab:Int):=od
   have Cl:Ab<((rd_L1 l0 Aa).length:Int):=od
   obtain⟨Bw,Dy,Ak⟩:=Kd.at_int Bi.out Ab Ck Cl
   have Bs:=Ak
   cases Dy
   replace Ak:=kc HB Ak
   replace Ck:=ets Ck
   replace Cl:=ets Cl
   have Dz:0≤(Ab:Int):=od
   have Ea:(Ab:Int)<(((rd_L1 Ac Aa).length:Int):Int):=od
   obtain⟨Eb,Ev,Dd,De,gl18,Ew,HG18⟩:=Kd.R_form Ap.out (by omega)
   (first|cases Dd|(injection Dd with ea_ en_ ec_;(first|subst ea_|(injection ea_ with ea_;subst ea_));subst ec_;clear en_))
   have GB18:=Az.mk De
   have Ec:=Az.mk HG18
   clear De gl18 HG18
   obtain⟨Cm,Cn⟩:=Kd.R_celln 0 Ap.out (Ab:Int) Dz Ea
   replace Dz:=ets Dz
   replace Ea:=ets Ea
   have hq21:(Aa:Int)<(Ac.length:Int):=(by have h_:(Aa:Int)<((Ac.length:Int):Int):=od;first|exact h_|(have e_:=(Kd.S_reads' HO_6.out).1;omega)|simpa only[List.length_set,List.length_set] using h_)
   obtain⟨oki21,Ex,Df,Ed,Bx,hok21,hbk21⟩:=Kd.S_borrow HO_6.out [] (Aa:Int) (od) hq21
   obtain⟨Ee,rfl,Aq⟩:=Ed
   have Bt:=Bx 0 _ rfl
   rw[Nat.add_zero,show((Kd.slice 3 (Kd.int .i64))).sz=1 from rfl,Nat.mul_one]at Bt
   replace Bt:=Option.some.inj (Bt.symm.trans Bd.out)
   subst Bt
   clear Bx Df
   replace Aq:=(show Kd.R (Kd.int .i64) 3 _ _ _ _ (rd_L1 Ac Aa)from Aq)
   have Bu:=Kd.R_putg Aq (Ab:Int) (wrap64 (-(rd (rd_L1 l0 Aa) Ab)))
   rw[←Cw.out]at Bu
   have HS21:=hbk21 Bu.2 (fun k_ e_=>by injection e_ with e_;subst e_;exact Aq.1 _ rfl) (x':=Cf) (Kd.M_row Bu.1)
   rw[←Cz.out]at HS21
   have Dg:=Az.mk HS21
   clear Bu HS21 hbk21 hok21
   refine start_ (n:=15) (S:=fun w'=>w'.cell? (Db.add (Aa).toNat)=some (.slice (some ⟨Eb,0,none⟩) (rd_L1 Ac Aa).length Cg)∧w'.cell? (Bk.add (Aa).toNat)=some (.slice (some Bw) (rd_L1 l0 Aa).length Cj)∧w'.cell? (Bw.add (Ab).toNat)=some (.int .i64 (rd (rd_L1 l0 Aa) Ab))) (ds:=[14]) #[F,F,F,F,F,F,F,F,F,F,F,F,F,F,F] (by kernel_rfl) rfl rfl ⟨Ai,(kc HB Br),(kc HB Bs)⟩ (fun hHeld=>?_);refine with_tabW fL.tab11 fL.bits11 (fun HT_ HW_=>?_)
   generalize wr.drew=Ga at HO_6 HB Ec Ap Dg Bq Bi Bd Cn Cm Ai Aj Ak hHeld ⊢
   refine pu (i:=0) (N:=some 36) #[T,F,F,F,F,F,F,F,F,F,F,F,F,F,F] (any_of HT_.out (by kernel_rfl)) ?_
   refine pu (i:=1) (N:=some 37) #[T,T,F,F,F,F,F,F,F,F,F,F,F,F,F] (any_of HT_.out (by kernel_rfl)) ?_
   refine pu (i:=2) (N:=some 38) #[T,T,T,F,F,F,F,F,F,F,F,F,F,F,F] (any_of HT_.out (by kernel_rfl)) ?_
   refine pu (i:=4) (N:=some 40) #[T,T,T,F,T,F,F,F,F,F,F,F,F,F,F] (any_of HT_.out (by kernel_rfl)) ?_
   refine pu (i:=5) (N:=some 41) #[T,T,T,F,T,T,F,F,F,F,F,F,F,F,F] (any_of HT_.out (by kernel_rfl)) ?_
   refine pu (i:=6) (N:=some 42) #[T,T,T,F,T,T,T,F,F,F,F,F,F,F,F] (any_of HT_.out (by kernel_rfl)) ?_
   refine pu (i:=7) (N:=some 43) #[T,T,T,F,T,T,T,T,F,F,F,F,F,F,F] (any_of HT_.out (by kernel_rfl)) ?_
   refine pu (i:=9) (N:=some 45) #[T,T,T,F,T,T,T,T,F,T,F,F,F,F,F] (any_of HT_.out (by kernel_rfl)) ?_
   refine take_ (i:=3) (N:=some 39) (v:=?_) (a':=?_) #[T,T,T,T,T,T,T,T,F,T,F,F,F,F,F] rfl rfl (take_ofW HT_.out HW_.out (by kernel_rfl)) (fun _ _ _ h=>h) (Or.inl ⟨by rfl,?_⟩) hHeld ?_ ?_
   rotate_left
   ·rintro w' ⟨s0,s1,s2⟩
    go_simp
    with_reducible rfl
   rotate_left
   ·exact acq
   refine take_ (i:=8) (N:=some 44) (v:=?_) (a':=?_) #[T,T,T,T,T,T,T,T,T,T,F,F,F,F,F] rfl rfl (take_ofW HT_.out HW_.out (by kernel_rfl)) (fun _ _ _ h=>h) (Or.inl ⟨by rfl,?_⟩) hHeld ?_ ?_
   rotate_left
   ·rintro w' ⟨s0,s1,s2⟩
    go_simp
    with_reducible rfl
   rotate_left
   ·exact acq
   refine pu (i:=10) (N:=some 46) #[T,T,T,T,T,T,T,T,T,T,T,F,F,F,F] (any_of HT_.out (by kernel_rfl)) ?_
   refine take_ (i:=11) (N:=some 47) (v:=?_) (a':=?_) #[T,T,T,T,T,T,T,T,T,T,T,T,F,F,F] rfl rfl (take_ofW HT_.out HW_.out (by kernel_rfl)) (fun _ _ _ h=>h) (Or.inl ⟨by rfl,?_⟩) hHeld ?_ ?_
   rotate_left
   ·rintro w' ⟨s0,s1,s2⟩
    go_simp
    with_reducible rfl
   rotate_left
   ·exact acq
   refine pu (i:=12) (N:=some 48) #[T,T,T,T,T,T,T,T,T,T,T,T,T,F,F] (any_of HT_.out (by kernel_rfl)) ?_
   refine pu (i:=13) (N:=some 49) #[T,T,T,T,T,T,T,T,T,T,T,T,T,T,F] (any_of HT_.out (by kernel_rfl)) ?_
   refine last_ (i:=14) (N:=none) #[T,T,T,T,T,T,T,T,T,T,T,T,T,T,T] rfl rfl (one_of HT_.out (by kernel_rfl)) (by decide) (fun K hK=>?_)
   refine skip_ (w1:=?_) (by rfl) rfl ?_ ?_
   rotate_left
   ·go_simp
    rfl
   refine hK.out _ _ ?_
   clear hK K
   refine done_ (done_of HT_.out (by kernel_rfl)) ?_
   try go_wp2
   go_roundg k2
   case measure=>have:=HK1.out;have:=HK2.out;omega
   case rel=>exact⟨(Cy),(wrap64 (Ab+1)),rq2,H',⟨by have:=HK1.out;have:=HK2.out;omega⟩,⟨kS Dg.out⟩,⟨bw_25⟩⟩
end
section
open Bool renaming true → T, false → F
theorem bw_26 {n:Nat}{v v':World} (h:Below n v v':=by repeat(first|(with_reducible first|exact HB.out|apply bwA|apply pbN|apply bwD)|exact HB.out)):Below n v v':=h
def gM.f (l0:List Int) (a1:Int):Option (List Int):=if(l0.length:Int)=0 then(some (([]:List Int))) else(if(Int.tmod a1 (l0.length:Int))<0 then((some (([]:List Int):List Int)).bind fun y546=>(if 0≤(wrap64 ((Int.tmod a1 (l0.length:Int))+(l0.length:Int))) then(if(wrap64 ((Int.tmod a1 (l0.length:Int))+(l0.length:Int)))≤(l0.length:Int) then(if y546.length+(l0.drop ((wrap64 ((Int.tmod a1 (l0.length:Int))+(l0.length:Int))):Int).toNat).length<17592186044416 then((some (y546 ++ (l0.drop ((wrap64 ((Int.tmod a1 (l0.length:Int))+(l0.length:Int))):Int).toNat):List Int)).bind fun y550=>(if y550.length+(l0.take ((wrap64 ((Int.tmod a1 (l0.length:Int))+(l0.length:Int))):Int).toNat).length<17592186044416 then(some (y550 ++ (l0.take ((wrap64 ((Int.tmod a1 (l0.length:Int))+(l0.length:Int))):Int).toNat))) else(none))) else(none)) else(none)) else(none))) else((some (([]:List Int):List Int)).bind fun y557=>(if 0≤(Int.tmod a1 (l0.length:Int)) then(if(Int.tmod a1 (l0.length:Int))≤(l0.length:Int) then(if y557.length+(l0.drop ((Int.tmod a1 (l0.length:Int)):Int).toNat).length<17592186044416 then((some (y557 ++ (l0.drop ((Int.tmod a1 (l0.length:Int)):Int).toNat):List Int)).bind fun y561=>(if y561.length+(l0.take ((Int.tmod a1 (l0.length:Int)):Int).toNat).length<17592186044416 then(some (y561 ++ (l0.take ((Int.tmod a1 (l0.length:Int)):Int).toNat))) else(none))) else(none)) else(none)) else(none))))
def gM.T6:Bool × List (List Nat × List Nat):=(true,[([],[]),([],[]),([],[]),([1,2],[1,2]),([0,3],[0,3]),([],[]),([],[]),([5,6],[5,6]),([4,7,4],[4,7]),([8,8,0,1,2,3,4,5,6,7,8],[8])])
def gM.B6:List Nat:=[0,0,0,6,15,0,0,96,255,511]
theorem gM.tab6:rtab .any (opsOf Try.f48 6)=gM.T6:=by kernel_rfl
theorem gM.bits6:waitsOk gM.T6.2 gM.B6=true:=by kernel_rfl
theorem gM.calls (A0:Option Addr) (c0:Nat) (l0:List Int) (a1:Int) (r:List Int) (w:World) (Ch:Kd.C (Kd.int .i64) w A0 l0.length l0) (Ci:l0.length≤c0) (h:gM.f l0 a1=some r):
  Calls Try.prog 48 #[.slice A0 l0.length c0, .int .i64 a1] w fun e w'=>∃v0_:Value,e= .returned (v0_)∧Kd.R (Kd.int .i64) 3 w' w.heap.size (fun _=>True) v0_ r∧Below w.heap.size w w':=by
 have Bs:=Az.mk Ch
 have Bt:=Az.mk Ci
 clear Ch Ci
 have HB:=Az.mk (Below.refl w.heap.size w)
 have H:=h
 unfold gM.f at H
 clear h
 by_cases c3:(l0.length:Int)=0
 ·rw[ip c3]at H
  have By:=beq_iff_eq.mpr c3
  have Bz:=bne_eq_false_iff_eq.mpr c3
  clear c3
  obtain⟨Ca,hy⟩:∃y_:List Int,y_=(([]:List Int)):=⟨_,rfl⟩
  replace H:(some Ca)=some r:=rh
  have Aq:=Az.mk hy
  clear hy
  obtain rfl:=Option.some.inj H
  go_enter Try.func48,Try.ntmps48
  go_wp2_with (first|((with_reducible refine gtD (N:=8) rfl ?_);refine Kd.R_lit (Kd.int .i64) _ 3 ?hg (N:=8) ?hd (xs:=([]:List Int)) (inner:=[]) (ok:=fun _=>True) (okp:=fun _=>True) ?hr ?hp (fun _ hk=>hk) trivial (Below.refl _ _) (Nat.le_refl _) (by simp) ?_;(case hd=>rfl);(case hg=>rfl);(case hr=>first|(go_simp;done)|(go_simp;rfl));(case hp=>exact(Reps.none _ _));intro Cv w4 Bh hb hg_ hnew_;clear hg_ hnew_;(first|rw[←Aq.out]at Bh|(simp only[Int.reduceToNat]at Bh;rw[←Aq.out]at Bh));have Bi:=Az.mk (Kd.R_lower Bh (bwZ bw_26));replace HB:=Az.mk (bwT bw_26 hb);clear hb Bh))
  go_ret
  exact⟨_,rq1,kR Bi.out,bw_26⟩
 rw[ig c3]at H
 have By:=beq_eq_false_iff_ne.mpr c3
 have Bz:=bne_iff_ne.mpr c3
 have Cw:¬(l0=[]):=fun h_=>c3 (by rw[h_];rfl)
 by_cases c6:(Int.tmod a1 (l0.length:Int))<0
 ·rw[ip c6]at H
  have Bj:=ode c6
  clear c6
  obtain⟨Af,hy⟩:∃y_:List Int,y_=(([]:List Int)):=⟨_,rfl⟩
  replace H:(if 0≤(wrap64 ((Int.tmod a1 (l0.length:Int))+(l0.length:Int))) then(if(wrap64 ((Int.tmod a1 (l0.length:Int))+(l0.length:Int)))≤(l0.length:Int) then(if Af.length+(l0.drop ((wrap64 ((Int.tmod a1 (l0.length:Int))+(l0.length:Int))):Int).toNat).length<17592186044416 then((some (Af ++ (l0.drop ((wrap64 ((Int.tmod a1 (l0.length:Int))+(l0.length:Int))):Int).toNat):List Int)).bind fun Ac=>(if Ac.length+(l0.take ((wrap64 ((Int.tmod a1 (l0.length:Int))+(l0.length:Int))):Int).toNat).length<17592186044416 then(some (Ac ++ (l0.take ((wrap64 ((Int.tmod a1 (l0.length:Int))+(l0.length:Int))):Int).toNat))) else(none))) else(none)) else(none)) else(none))=some r:=rh
  have As:=Az.mk hy
  clear hy
  obtain⟨Ab,Ap⟩:∃j_:Int,(wrap64 ((Int.tmod a1 (l0.length:Int))+(l0.length:Int)))=j_:=⟨_,rfl⟩
  first|rw[Ap]at H|simp only[Ap]at H
  have hji7w:(IntKind.i64.wrap ((Int.tmod a1 (l0.length:Int))+(l0.length:Int)))=Ab:=(i64_w _).trans Ap
  by_cases c8:0≤(Ab)
  rotate_left
  ·rw[ig c8]at H
   exact absurd H (by simp)
  rw[ip c8]at H
  have Cy:=ets c8
  have Cz:=ode c8
  clear c8
  by_cases c9:(Ab)≤(l0.length:Int)
  rotate_left
  ·rw[ig c9]at H
   exact absurd H (by simp)
  rw[ip c9]at H
  have Da:=ets c9
  have Db:=ode c9
  clear c9
  by_cases Bu:Af.length+(l0.drop ((Ab):Int).toNat).length<17592186044416
  rotate_left
  ·rw[ig Bu]at H
   exact absurd H (by simp)
  rw[ip Bu]at H
  have LMc10:=Az.mk Bu
  clear Bu
  obtain⟨Ac,hy⟩:∃y_:List Int,y_=(Af ++ (l0.drop ((Ab):Int).toNat)):=⟨_,rfl⟩
  replace H:(if Ac.length+(l0.take ((Ab):Int).toNat).length<17592186044416 then(some (Ac ++ (l0.take ((Ab):Int).toNat))) else(none))=some r:=rh
  have Bk:=Az.mk hy
  clear hy
  have Cj:=ets (od:0≤(Ab))
  have Ck:=ets (od:(Ab)≤(l0.length:Int))
  by_cases Bv:Ac.length+(l0.take ((Ab):Int).toNat).length<17592186044416
  rotate_left
  ·rw[ig Bv]at H
   exact absurd H (by simp)
  rw[ip Bv]at H
  have LMc13:=Az.mk Bv
  clear Bv
  obtain⟨Cb,hy⟩:∃y_:List Int,y_=(Ac ++ (l0.take ((Ab):Int).toNat)):=⟨_,rfl⟩
  replace H:(some Cb)=some r:=rh
  have Bl:=Az.mk hy
  clear hy
  obtain rfl:=Option.some.inj H
  go_enter Try.func48,Try.ntmps48
  try go_wp2
  replace HB:=Az.mk (bwD HB.out)
  obtain⟨Dc,Au,_,hsz15,_⟩:=info_parts info3
  obtain⟨Di,hcut15,hA15,hC15⟩:=print_drop_of (P:=Try.prog) (Value.int .i64) 0 25 3 .i64 Try.underlying25 Au hsz15 A0 c0 l0 (Ab) (od) (od) Bt.out
  have Ag:=Az.mk (Kd.C_of_reads (h1:=fun _=>rfl) (hA15 _ (Kd.reads_of_C Bs.out)))
  have Cl:=Az.mk hC15
  clear hA15 hC15 Au hsz15
  obtain⟨Dd,Av,_,hsz16,_⟩:=info_parts info3
  obtain⟨hcut16,hA16,hC16⟩:=print_take_of (P:=Try.prog) (Value.int .i64) 0 25 3 .i64 Try.underlying25 Av hsz16 A0 c0 l0 (Ab) (od) (od) Bt.out
  have Ah:=Az.mk (Kd.C_of_reads (h1:=fun _=>rfl) (hA16 _ (Kd.reads_of_C Bs.out)))
  have Cm:=Az.mk hC16
  clear hA16 hC16 Av hsz16
  refine start_ (n:=10) (S:=fun w'=>True) (ds:=[]) #[F,F,F,F,F,F,F,F,F,F] (by kernel_rfl) rfl rfl trivial (fun hHeld=>?_);refine with_tabW gM.tab6 gM.bits6 (fun HT_ HW_=>?_)
  generalize w.drew=Dj at HB Ag Ah hHeld ⊢
  refine pu (i:=1) (N:=some 20) #[F,T,F,F,F,F,F,F,F,F] (any_of HT_.out (by kernel_rfl)) ?_
  refine pu (i:=2) (N:=some 21) #[F,T,T,F,F,F,F,F,F,F] (any_of HT_.out (by kernel_rfl)) ?_
  refine pu (i:=3) (N:=some 22) #[F,T,T,T,F,F,F,F,F,F] (any_of HT_.out (by kernel_rfl)) ?_
  refine pu (i:=5) (N:=some 24) #[F,T,T,T,F,T,F,F,F,F] (any_of HT_.out (by kernel_rfl)) ?_
  refine pu (i:=6) (N:=some 25) #[F,T,T,T,F,T,T,F,F,F] (any_of HT_.out (by kernel_rfl)) ?_
  refine pu (i:=7) (N:=some 26) #[F,T,T,T,F,T,T,T,F,F] (any_of HT_.out (by kernel_rfl)) ?_
  refine one_ (i:=0) (N:=some 19) #[T,T,T,T,F,T,T,T,F,F] rfl rfl (one_of HT_.out (by kernel_rfl)) (by decide) (fun K hK=>?_)
  refine Kd.R_lit_step (Kd.int .i64) _ 3 ?hg (N:=19) ?hd (xs:=([]:List Int)) (inner:=[]) (ok:=fun _=>True) (okp:=fun _=>True) ?hr ?hp (fun _ hk=>hk) trivial (Below.refl _ _) (Nat.le_refl _) (by simp) ?_;(case hd=>rfl);(case hg=>rfl);(case hr=>first|(go_simp;done)|(go_simp;rfl));(case hp=>exact(Reps.none _ _))
  intro Cc Dk Ai hb hg_ hnew_
  clear hg_ hnew_
  (first|rw[←As.out]at Ai|(simp only[Int.reduceToNat]at Ai;rw[←As.out]at Ai))
  have Ax:=Az.mk (Kd.R_lower Ai (bwZ bw_26));replace HB:=Az.mk (bwT bw_26 hb)
  clear hb Ai
  refine hK.out _ _ trivial (fun hHeld=>?_)
  clear hK K
  refine norm_ (a':=?_) ?_ ?_
  rotate_left
  ·show Act.put _ (some 19) _=_
   exact acq
  refine one_ (i:=4) (N:=some 23) #[T,T,T,T,T,T,T,T,F,F] rfl rfl (one_of HT_.out (by kernel_rfl)) (by decide) (fun K hK=>?_)
  refine Kd.R_append_rows_step (Kd.int .i64) (w0:=w) w.heap.size (by rfl) (.tmp 19) (.tmp 22) 25 3 (.int .i64 0) 8 rfl Try.underlying25 info3 rfl (by decide) (by omega) Cc Af (l0.drop ((Ab):Int).toNat) _ _ _ (fun _=>True) (fun _=>False) rfl rfl ?aO ?aR (fun _ _ h=>h) (fun _ h=>h.elim) ?aF ?aB ?aS ?aL ?_
  (case aR=>first|(rw[←show(l0.drop ((Ab):Int).toNat).length=(l0.length - (Ab).toNat)from List.length_drop];repeat(first|exact(Kd.C_below Ag.out HB.out)|(with_reducible refine Kd.C_alloc ?_ _)|(with_reducible refine Kd.C_drewN ?_ _)|(with_reducible refine Kd.C_drew ?_)))|(repeat(first|exact(Kd.C_below Ag.out HB.out)|(with_reducible refine Kd.C_alloc ?_ _)|(with_reducible refine Kd.C_drewN ?_ _)|(with_reducible refine Kd.C_drew ?_))))
  (case aB=>exact bw_26)
  (case aF=>exact(fun _ _=>trivial))
  (case aO=>exact(kR Ax.out))
  (case aS=>exact(bwZ bw_26))
  (case aL=>have:=LMc10.out;have hlx_:=(show(l0.drop ((Ab):Int).toNat).length=(l0.length - (Ab).toNat)from List.length_drop);omega)
  intro Cd Dl ho hb hg hat
  rw[←Bk.out]at ho
  have n0_:=Az.mk (hb)
  have n1_:=Az.mk (ho)
  clear HB
  clear Ax
  have HB:=n0_
  have Ay:=n1_
  clear n0_ n1_
  clear ho hb hg hat
  refine hK.out _ _ trivial (fun hHeld=>?_)
  clear hK K
  refine norm_ (a':=?_) ?_ ?_
  rotate_left
  ·show Act.put _ (some 23) _=_
   exact acq
  refine one_ (i:=8) (N:=some 27) #[T,T,T,T,T,T,T,T,T,F] rfl rfl (one_of HT_.out (by kernel_rfl)) (by decide) (fun K hK=>?_)
  refine Kd.R_append_rows_step (Kd.int .i64) (w0:=w) w.heap.size (by rfl) (.tmp 23) (.tmp 26) 25 3 (.int .i64 0) 8 rfl Try.underlying25 info3 rfl (by decide) (by omega) Cd Ac (l0.take ((Ab):Int).toNat) _ _ _ (fun _=>True) (fun _=>False) rfl rfl ?aO ?aR (fun _ _ h=>h) (fun _ h=>h.elim) ?aF ?aB ?aS ?aL ?_
  (case aR=>first|(refine Eq.mp (congrArg (fun m_=>ReadsRow _ _ _ _ m_ (l0.take ((Ab):Int).toNat)) (show(l0.take ((Ab):Int).toNat).length=(Ab).toNat from(by rw[List.length_take];have h_:((Ab):Int)≤(l0.length:Int):=od;omega))) ?_;repeat(first|exact(Kd.C_below Ah.out HB.out)|(with_reducible refine Kd.C_alloc ?_ _)|(with_reducible refine Kd.C_drewN ?_ _)|(with_reducible refine Kd.C_drew ?_)))|(repeat(first|exact(Kd.C_below Ah.out HB.out)|(with_reducible refine Kd.C_alloc ?_ _)|(with_reducible refine Kd.C_drewN ?_ _)|(with_reducible refine Kd.C_drew ?_))))
  (case aB=>exact bw_26)
  (case aF=>exact(fun _ _=>trivial))
  (case aO=>exact(kR Ay.out))
  (case aS=>exact(bwZ bw_26))
  (case aL=>have:=LMc13.out;have hlx_:=(show(l0.take ((Ab):Int).toNat).length=(Ab).toNat from(by rw[List.length_take];have h_:((Ab):Int)≤(l0.length:Int):=od;omega));omega)
  intro De Dm ho hb hg hat
  rw[←Bl.out]at ho
  have n0_:=Az.mk (hb)
  have n1_:=Az.mk (ho)
  clear HB
  clear Ay
  have HB:=n0_
  have Bm:=n1_
  clear n0_ n1_
  clear ho hb hg hat
  refine hK.out _ _ trivial (fun hHeld=>?_)
  clear hK K
  refine norm_ (a':=?_) ?_ ?_
  rotate_left
  ·show Act.put _ (some 27) _=_
   exact acq
  refine pu (i:=9) (N:=some 4) #[T,T,T,T,T,T,T,T,T,T] (any_of HT_.out (by kernel_rfl)) ?_
  refine done_ (done_of HT_.out (by kernel_rfl)) ?_
  try go_wp2
  go_ret
  exact⟨_,by first|rfl|(simp[eWn,eWs] <;> rfl)|(simp only[←Ap];first|rfl|(simp[eWn,eWs] <;> rfl))|(simp[*,eWn,eWs] <;> rfl),kR Bm.out,bw_26⟩
 rw[ig c6]at H
 have Bj:=decide_eq_false c6
 clear c6
 obtain⟨Aj,hy⟩:∃y_:List Int,y_=(([]:List Int)):=⟨_,rfl⟩
 replace H:(if 0≤(Int.tmod a1 (l0.length:Int)) then(if(Int.tmod a1 (l0.length:Int))≤(l0.length:Int) then(if Aj.length+(l0.drop ((Int.tmod a1 (l0.length:Int)):Int).toNat).length<17592186044416 then((some (Aj ++ (l0.drop ((Int.tmod a1 (l0.length:Int)):Int).toNat):List Int)).bind fun Ad=>(if Ad.length+(l0.take ((Int.tmod a1 (l0.length:Int)):Int).toNat).length<17592186044416 then(some (Ad ++ (l0.take ((Int.tmod a1 (l0.length:Int)):Int).toNat))) else(none))) else(none)) else(none)) else(none))=some r:=rh
 have Ba:=Az.mk hy
 clear hy
 obtain⟨Aa,Ae⟩:∃j_:Int,(Int.tmod a1 (l0.length:Int))=j_:=⟨_,rfl⟩
 first|rw[Ae]at H|simp only[Ae]at H
 (try rw[Ae]at Bj)
 by_cases Bn:0≤(Aa)
 rotate_left
 ·rw[ig Bn]at H
  exact absurd H (by simp)
 rw[ip Bn]at H
 have Cn:=ets Bn
 have Co:=ode Bn
 clear Bn
 by_cases Bo:(Aa)≤(l0.length:Int)
 rotate_left
 ·rw[ig Bo]at H
  exact absurd H (by simp)
 rw[ip Bo]at H
 have Cp:=ets Bo
 have Cq:=ode Bo
 clear Bo
 by_cases Bw:Aj.length+(l0.drop ((Aa):Int).toNat).length<17592186044416
 rotate_left
 ·rw[ig Bw]at H
  exact absurd H (by simp)
 rw[ip Bw]at H
 have LMc24:=Az.mk Bw
 clear Bw
 obtain⟨Ad,hy⟩:∃y_:List Int,y_=(Aj ++ (l0.drop ((Aa):Int).toNat)):=⟨_,rfl⟩
 replace H:(if Ad.length+(l0.take ((Aa):Int).toNat).length<17592186044416 then(some (Ad ++ (l0.take ((Aa):Int).toNat))) else(none))=some r:=rh
 have Bp:=Az.mk hy
 clear hy
 have Cr:=ets (od:0≤(Aa))
 have Cs:=ets (od:(Aa)≤(l0.length:Int))
 by_cases Bx:Ad.length+(l0.take ((Aa):Int).toNat).length<17592186044416
 rotate_left
 ·rw[ig Bx]at H
  exact absurd H (by simp)
 rw[ip Bx]at H
 have LMc27:=Az.mk Bx
 clear Bx
 obtain⟨Ce,hy⟩:∃y_:List Int,y_=(Ad ++ (l0.take ((Aa):Int).toNat)):=⟨_,rfl⟩
 replace H:(some Ce)=some r:=rh
 have Bq:=Az.mk hy
 clear hy
 obtain rfl:=Option.some.inj H
 go_enter Try.func48,Try.ntmps48
 try go_wp2
 replace HB:=Az.mk (bwD HB.out)
 obtain⟨Df,Bb,_,hsz29,_⟩:=info_parts info3
 obtain⟨Dn,hcut29,hA29,hC29⟩:=print_drop_of (P:=Try.prog) (Value.int .i64) 0 25 3 .i64 Try.underlying25 Bb hsz29 A0 c0 l0 (Aa) (od) (od) Bt.out
 have Ak:=Az.mk (Kd.C_of_reads (h1:=fun _=>rfl) (hA29 _ (Kd.reads_of_C Bs.out)))
 have Ct:=Az.mk hC29
 clear hA29 hC29 Bb hsz29
 obtain⟨Dg,Bc,_,hsz30,_⟩:=info_parts info3
 obtain⟨hcut30,hA30,hC30⟩:=print_take_of (P:=Try.prog) (Value.int .i64) 0 25 3 .i64 Try.underlying25 Bc hsz30 A0 c0 l0 (Aa) (od) (od) Bt.out
 have Al:=Az.mk (Kd.C_of_reads (h1:=fun _=>rfl) (hA30 _ (Kd.reads_of_C Bs.out)))
 have Cu:=Az.mk hC30
 clear hA30 hC30 Bc hsz30
 refine start_ (n:=10) (S:=fun w'=>True) (ds:=[]) #[F,F,F,F,F,F,F,F,F,F] (by kernel_rfl) rfl rfl trivial (fun hHeld=>?_);refine with_tabW gM.tab6 gM.bits6 (fun HT_ HW_=>?_)
 generalize w.drew=Do at HB Ak Al hHeld ⊢
 refine pu (i:=1) (N:=some 20) #[F,T,F,F,F,F,F,F,F,F] (any_of HT_.out (by kernel_rfl)) ?_
 refine pu (i:=2) (N:=some 21) #[F,T,T,F,F,F,F,F,F,F] (any_of HT_.out (by kernel_rfl)) ?_
 refine pu (i:=3) (N:=some 22) #[F,T,T,T,F,F,F,F,F,F] (any_of HT_.out (by kernel_rfl)) ?_
 refine pu (i:=5) (N:=some 24) #[F,T,T,T,F,T,F,F,F,F] (any_of HT_.out (by kernel_rfl)) ?_
 refine pu (i:=6) (N:=some 25) #[F,T,T,T,F,T,T,F,F,F] (any_of HT_.out (by kernel_rfl)) ?_
 refine pu (i:=7) (N:=some 26) #[F,T,T,T,F,T,T,T,F,F] (any_of HT_.out (by kernel_rfl)) ?_
 refine one_ (i:=0) (N:=some 19) #[T,T,T,T,F,T,T,T,F,F] rfl rfl (one_of HT_.out (by kernel_rfl)) (by decide) (fun K hK=>?_)
 refine Kd.R_lit_step (Kd.int .i64) _ 3 ?hg (N:=19) ?hd (xs:=([]:List Int)) (inner:=[]) (ok:=fun _=>True) (okp:=fun _=>True) ?hr ?hp (fun _ hk=>hk) trivial (Below.refl _ _) (Nat.le_refl _) (by simp) ?_;(case hd=>rfl);(case hg=>rfl);(case hr=>first|(go_simp;done)|(go_simp;rfl));(case hp=>exact(Reps.none _ _))
 intro Cf Dp Am hb hg_ hnew_
 clear hg_ hnew_
 (first|rw[←Ba.out]at Am|(simp only[Int.reduceToNat]at Am;rw[←Ba.out]at Am))
 have Bd:=Az.mk (Kd.R_lower Am (bwZ bw_26));replace HB:=Az.mk (bwT bw_26 hb)
 clear hb Am
 refine hK.out _ _ trivial (fun hHeld=>?_)
 clear hK K
 refine norm_ (a':=?_) ?_ ?_
 rotate_left
 ·show Act.put _ (some 19) _=_
  exact acq
 refine one_ (i:=4) (N:=some 23) #[T,T,T,T,T,T,T,T,F,F] rfl rfl (one_of HT_.out (by kernel_rfl)) (by decide) (fun K hK=>?_)
 refine Kd.R_append_rows_step (Kd.int .i64) (w0:=w) w.heap.size (by rfl) (.tmp 19) (.tmp 22) 25 3 (.int .i64 0) 8 rfl Try.underlying25 info3 rfl (by decide) (by omega) Cf Aj (l0.drop ((Aa):Int).toNat) _ _ _ (fun _=>True) (fun _=>False) rfl rfl ?aO ?aR (fun _ _ h=>h) (fun _ h=>h.elim) ?aF ?aB ?aS ?aL ?_
 (case aR=>first|(rw[←show(l0.drop ((Aa):Int).toNat).length=(l0.length - (Aa).toNat)from List.length_drop];repeat(first|exact(Kd.C_below Ak.out HB.out)|(with_reducible refine Kd.C_alloc ?_ _)|(with_reducible refine Kd.C_drewN ?_ _)|(with_reducible refine Kd.C_drew ?_)))|(repeat(first|exact(Kd.C_below Ak.out HB.out)|(with_reducible refine Kd.C_alloc ?_ _)|(with_reducible refine Kd.C_drewN ?_ _)|(with_reducible refine Kd.C_drew ?_))))
 (case aB=>exact bw_26)
 (case aF=>exact(fun _ _=>trivial))
 (case aO=>exact(kR Bd.out))
 (case aS=>exact(bwZ bw_26))
 (case aL=>have:=LMc24.out;have hlx_:=(show(l0.drop ((Aa):Int).toNat).length=(l0.length - (Aa).toNat)from List.length_drop);omega)
 intro Cg Dq ho hb hg hat
 rw[←Bp.out]at ho
 have n0_:=Az.mk (hb)
 have n1_:=Az.mk (ho)
 clear HB
 clear Bd
 have HB:=n0_
 have Bf:=n1_
 clear n0_ n1_
 clear ho hb hg hat
 refine hK.out _ _ trivial (fun hHeld=>?_)
 clear hK K
 refine norm_ (a':=?_) ?_ ?_
 rotate_left
 ·show Act.put _ (some 23) _=_
  exact acq
 refine one_ (i:=8) (N:=some 27) #[T,T,T,T,T,T,T,T,T,F] rfl rfl (one_of HT_.out (by kernel_rfl)) (by decide) (fun K hK=>?_)
 refine Kd.R_append_rows_step (Kd.int .i64) (w0:=w) w.heap.size (by rfl) (.tmp 23) (.tmp 26) 25 3 (.int .i64 0) 8 rfl Try.underlying25 info3 rfl (by decide) (by omega) Cg Ad (l0.take ((Aa):Int).toNat) _ _ _ (fun _=>True) (fun _=>False) rfl rfl ?aO ?aR (fun _ _ h=>h) (fun _ h=>h.elim) ?aF ?aB ?aS ?aL ?_
 (case aR=>first|(refine Eq.mp (congrArg (fun m_=>ReadsRow _ _ _ _ m_ (l0.take ((Aa):Int).toNat)) (show(l0.take ((Aa):Int).toNat).length=(Aa).toNat from(by rw[List.length_take];have h_:((Aa):Int)≤(l0.length:Int):=od;omega))) ?_;repeat(first|exact(Kd.C_below Al.out HB.out)|(with_reducible refine Kd.C_alloc ?_ _)|(with_reducible refine Kd.C_drewN ?_ _)|(with_reducible refine Kd.C_drew ?_)))|(repeat(first|exact(Kd.C_below Al.out HB.out)|(with_reducible refine Kd.C_alloc ?_ _)|(with_reducible refine Kd.C_drewN ?_ _)|(with_reducible refine Kd.C_drew ?_))))
 (case aB=>exact bw_26)
 (case aF=>exact(fun _ _=>trivial))
 (case aO=>exact(kR Bf.out))
 (case aS=>exact(bwZ bw_26))
 (case aL=>have:=LMc27.out;have hlx_:=(show(l0.take ((Aa):Int).toNat).length=(Aa).toNat from(by rw[List.length_take];have h_:((Aa):Int)≤(l0.length:Int):=od;omega));omega)
 intro Dh Dr ho hb hg hat
 rw[←Bq.out]at ho
 have n0_:=Az.mk (hb)
 have n1_:=Az.mk (ho)
 clear HB
 clear Bf
 have HB:=n0_
 have Br:=n1_
 clear n0_ n1_
 clear ho hb hg hat
 refine hK.out _ _ trivial (fun hHeld=>?_)
 clear hK K
 refine norm_ (a':=?_) ?_ ?_
 rotate_left
 ·show Act.put _ (some 27) _=_
  exact acq
 refine pu (i:=9) (N:=some 4) #[T,T,T,T,T,T,T,T,T,T] (any_of HT_.out (by kernel_rfl)) ?_
 refine done_ (done_of HT_.out (by kernel_rfl)) ?_
 try go_wp2
 go_ret
 exact⟨_,by first|rfl|(simp[eWn,eWs] <;> rfl)|(simp only[←Ae];first|rfl|(simp[eWn,eWs] <;> rfl))|(simp[*,eWn,eWs] <;> rfl),kR Br.out,bw_26⟩
end
end Go.Proofs.Ytemeiocmgbgikaa.P

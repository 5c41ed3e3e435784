-- The walks, cut and laid together by this session's tools (prune.py, sq2.py, min.py: shorter names, no needless spaces). Not trusted: Lean checks it.
import Derived.Test.YtbpnjlemjapnnaaKWZip
import Derived.Test.YtbpnjlemjapnnaaProg
import Derived.Below
import Derived.Deep.Draws
import Derived.Deep.AppendLies
import Derived.Maps.AppendAt
import Derived.OwnWalk
import Derived.Laws.BytesArg
import Derived.Laws.MakeOwn
import Derived.Laws.OwnMore
import Derived.Deep.OwnRows
import Derived.Tactics
import Derived.Lib.ConvBytes
import Derived.Laws.Slices
import Derived.WalkKit
import Derived.KernelRfl
import Derived.RowKit3
import Derived.Deep.LoopGhost
import Derived.Deep.QuietTactic
import Derived.BigQuiet
import Derived.WideLaws
import Derived.Deep.DeepCutAuto
import Derived.Deep.CutBlock
import Derived.Deep.RegionHeld3
import Derived.Laws.Rows
import Derived.Lib.AppendStr
import Derived.ArgAppend
import Derived.Laws.IdiomCopy
import Derived.OrdersHeld
import Derived.Laws.BitsLemmas
import Derived.RowKit
import Derived.Maps.OwnOps
import Derived.Maps.Views
import Derived.Laws.CopyOwn
import Derived.Maps.OwnSet
import Derived.DeepKeys4
import Derived.MapViews
import Derived.Test.YtbpnjlemjapnnaaKWWords
import Derived.Test.YtbpnjlemjapnnaaKWLast
import Derived.Test.YtbpnjlemjapnnaaKWTab
import Derived.Test.YtbpnjlemjapnnaaKWFour
import Derived.Test.YtbpnjlemjapnnaaKWQPut
import Derived.Test.YtbpnjlemjapnnaaKWApart
import Derived.Test.YtbpnjlemjapnnaaKWArr
import Derived.Test.YtbpnjlemjapnnaaKWZeros
import Derived.Test.YtbpnjlemjapnnaaKWFoot
import Derived.Test.YtbpnjlemjapnnaaKWKept
import Derived.Test.YtbpnjlemjapnnaaKWShare
import Derived.Test.YtbpnjlemjapnnaaKWN
import Derived.Test.YtbpnjlemjapnnaaKWFootNe
import Derived.Test.YtbpnjlemjapnnaaKWAt
import Derived.Test.YtbpnjlemjapnnaaKWEqStruct
import Derived.Test.YtbpnjlemjapnnaaKWRepsOne
import Derived.Test.YtbpnjlemjapnnaaKWInv
import Derived.Test.YtbpnjlemjapnnaaKWInvWords
import Derived.Test.YtbpnjlemjapnnaaKWGuard
import Derived.Test.YtbpnjlemjapnnaaKWNEv
import Derived.Test.YtbpnjlemjapnnaaKWMore
namespace Go.Proofs.Ytbpnjlemjapnnaa.P
open Go.RowKit Go.Proofs.YtbpnjlemjapnnaaW.PrintWords Go.Proofs.YtbpnjlemjapnnaaW.PrintLast Go.Proofs.YtbpnjlemjapnnaaW.PrintMore
attribute [local go_sem] max2_int min2_int max_two min_two max_three min_three max_four min_four   -- for this text's walks alone
set_option linter.unusedVariables false
set_option linter.unusedSimpArgs false
set_option maxHeartbeats 8000000
set_option maxRecDepth 100000
open Option renaming bind_eq_some_iff → be
def errW:Option Int→Value
 |none=> .nilIface
 |some c=> .iface 0 (.int .i64 c)
theorem eWn:errW none= .nilIface:=rfl
theorem eWs (c:Int):errW (some c)= .iface 0 (.int .i64 c):=rfl
theorem info3:(Try.prog.info? 3).map (fun i=>(i.zero,i.size,i.bytes))=some (some (.int .i64 0),1,8):=by kernel_rfl
theorem info4:(Try.prog.info? 4).map (fun i=>(i.zero,i.size,i.bytes))=some (some (.bool false),1,1):=by kernel_rfl
theorem info9:(Try.prog.info? 9).map (fun i=>(i.zero,i.size,i.bytes))=some (some (.string ⟨#[]⟩),1,16):=by kernel_rfl
theorem info25:(Try.prog.info? 25).map (fun i=>(i.zero,i.size,i.bytes))=some (some (.slice none 0 0),1,24):=by kernel_rfl
-- the values' own types
def rd_L1 (xs:List (List Int)) (i:Int):(List Int):=xs.getD i.toNat ([]:List Int)
theorem at_L1 {w:World}{A:Option Addr}{n:Nat}{xs:List (List Int)} (h:Kd.C (Kd.slice 3 (Kd.int .i64)) w A n xs) (i:Int) (h0:0≤i) (h1:i<n):∃ad A0 c0,A=some ad∧w.cell? (ad.add i.toNat)=some (.slice A0 (rd_L1 xs i).length c0)∧(rd_L1 xs i).length≤c0∧(Kd.int .i64).C w A0 (rd_L1 xs i).length (rd_L1 xs i):=by
 obtain⟨ad,c,e,_,hK,Ad⟩:=Kd.C_get h ([]:List Int) i h0 h1
 have hc:∀j u,c[j]?= some u→w.cell? (ad.add (i.toNat*1+j))=some u:=Ad
 obtain⟨A0,c0,rfl,l0,g0⟩:=hK
 exact⟨ad,A0,c0,e,by have hq:=hc 0 _ rfl;rwa [Nat.mul_one,Nat.add_zero]at hq,l0,g0⟩
def mB.f (l0:List Int):Option (Bool):=some (decide ((l0.length:Int)>1048576))
theorem mB.calls (A0:Option Addr) (c0:Nat) (l0:List Int) (r:Bool) (w:World) (Ad:Kd.C (Kd.int .u8) w A0 l0.length l0) (Ae:l0.length≤c0) (h:mB.f l0=some r):
  Calls Try.prog 4 #[.slice A0 l0.length c0] w fun e w'=>e= .returned (.bool r)∧Drawn0 w w':=by
 have Af:=Az.mk Ad
 have Ag:=Az.mk Ae
 clear Ad Ae
 have H:(some (decide ((l0.length:Int)>1048576)))=some r:=h
 clear h
 obtain rfl:=Option.some.inj H
 go_enter Try.func4,Try.ntmps4
 go_wp2
 go_ret
 exact⟨rq2,kd⟩
def fR.f (a0:Int) (a1:Int) (a2:Int):Option (Bool):=if a0 ≥ a1 then(some (decide (a0≤a2))) else(some false)
theorem fR.calls (a0:Int) (a1:Int) (a2:Int) (r:Bool) (w:World) (h:fR.f a0 a1 a2=some r):
  Calls Try.prog 42 #[.int .i64 a0, .int .i64 a1, .int .i64 a2] w fun e w'=>e= .returned (.bool r)∧Drawn0 w w':=by
 have H:(if a0 ≥ a1 then(some (decide (a0≤a2))) else(some false))=some r:=h
 clear h
 by_cases c4:a0 ≥ a1
 ·rw[ip c4]at H
  have Ad:decide (a1≤a0)=true:=ode c4
  clear c4
  obtain rfl:=Option.some.inj H
  go_enter Try.func42,Try.ntmps42
  go_wp2
  go_ret
  exact⟨rq2,kd⟩
 rw[ig c4]at H
 have Ad:decide (a1≤a0)=false:=decide_eq_false c4
 clear c4
 obtain rfl:=Option.some.inj H
 go_enter Try.func42,Try.ntmps42
 go_wp2
 go_ret
 exact⟨rq2,kd⟩
theorem bw_2 {n:Nat}{v v':World} (h:Below n v v':=by repeat(first|(with_reducible first|exact HB.out|apply bwA|apply pbN|apply bwD)|exact HB.out)):Below n v v':=h
mutual
def fC.j0:Nat→List (List Int)→Int→Bool→Option (Bool)
 |0,_,_,_=>none
 |k+1,x0,x3,x20=>if x20=true then(some false) else(if 0≤(wrap64 ((wrap64 (2*x3))+1)) then(if(wrap64 ((wrap64 (2*x3))+1):Int).toNat≤281474976710656 then(fC.l0 k x0 x3 (List.replicate (wrap64 ((wrap64 (2*x3))+1):Int).toNat false) 0) else(none)) else(none))
def fC.l0:Nat→List (List Int)→Int→List Bool→Int→Option (Bool)
 |0,_,_,_,_=>none
 |k+1,x0,x3,x4,x5=>if x5<(x0.length:Int) then(if 0≤x5 then(if((rd_L1 x0 x5).length:Int)=3 then(fC.l1 k x0 x3 x4 x5 0) else(some false)) else(none)) else(some true)
def fC.l1:Nat→List (List Int)→Int→List Bool→Int→Int→Option (Bool)
 |0,_,_,_,_,_=>none
 |k+1,x0,x3,x4,x5,x6=>if x6<3 then(if 0≤x5 then(if x5<(x0.length:Int) then(if 0≤x6 then(if x6<((rd_L1 x0 x5).length:Int) then(if(rd (rd_L1 x0 x5) x6)=0 then(some false) else((fR.f (rd (rd_L1 x0 x5) x6) (wrap64 (-x3)) x3).bind fun t108=>(if t108=true then(if 0≤(wrap64 (x3+(rd (rd_L1 x0 x5) x6))) then(if(wrap64 (x3+(rd (rd_L1 x0 x5) x6)))<(x4.length:Int) then(if rdOf false x4 (wrap64 (x3+(rd (rd_L1 x0 x5) x6)))=true then(some false) else(fC.l1 k x0 x3 (x4.set ((wrap64 (x3+(rd (rd_L1 x0 x5) x6))):Int).toNat true) x5 (wrap64 (x6+1)))) else(none)) else(none)) else(some false)))) else(none)) else(none)) else(none)) else(none)) else(fC.l0 k x0 x3 x4 (wrap64 (x5+1)))
end
def fC.f (k:Nat) (l0:List (List Int)):Option (Bool):=if((l0.length:Int) % 2)=0 then((fR.f (wrap64 (Int.tdiv (wrap64 (3*(l0.length:Int))) 2)) 3 9).bind fun t101=>(fC.j0 k l0 (wrap64 (Int.tdiv (wrap64 (3*(l0.length:Int))) 2)) (!t101))) else(fC.j0 k l0 (wrap64 (Int.tdiv (wrap64 (3*(l0.length:Int))) 2)) true)
theorem fC.calls (k:Nat) (A0:Option Addr) (c0:Nat) (l0:List (List Int)) (r:Bool) (w:World) (Eb:Kd.C (Kd.slice 3 (Kd.int .i64)) w A0 l0.length l0) (Ec:l0.length≤c0) (h:fC.f k l0=some r):
  Calls Try.prog 45 #[.slice A0 l0.length c0] w fun e w'=>e= .returned (.bool r)∧Below w.heap.size w w':=by
 have Co:=Az.mk Eb
 have Es:=Az.mk Ec
 clear Eb Ec
 have HB:=Az.mk (Below.refl w.heap.size w)
 have H:(if((l0.length:Int) % 2)=0 then((fR.f (wrap64 (Int.tdiv (wrap64 (3*(l0.length:Int))) 2)) 3 9).bind fun Bt=>(fC.j0 k l0 (wrap64 (Int.tdiv (wrap64 (3*(l0.length:Int))) 2)) (!Bt))) else(fC.j0 k l0 (wrap64 (Int.tdiv (wrap64 (3*(l0.length:Int))) 2)) true))=some r:=h
 clear h
 have Dq:=Az.mk H
 clear H
 go_enter Try.func45,Try.ntmps45
 go_upto_region 2 with (fail)
 go_cut [20] (fun Ej wc=>∃(kq:Nat) (Bq:Bool),Ej= .bool Bq∧Az (fC.j0 kq l0 (wrap64 (Int.tdiv (wrap64 (3*(l0.length:Int))) 2)) Bq=some r)∧Az (kq≤k)∧Az (Below w.heap.size w wc))
 case first=>
  have H:=Dq.out
  clear Dq
  by_cases c3:((l0.length:Int) % 2)=0
  rotate_left
  ·rw[ig c3]at H
   have Bc:=beq_eq_false_iff_ne.mpr c3
   have Bu:=bne_iff_ne.mpr c3
   (first|rw[Bc]|(simp only[i64_w,i32_w];rw[Bc])|skip)
   have H':=Az.mk H
   clear H
   go_wp2
   go_meet
   case rel=>exact⟨_,(true),rq2,H',⟨by first|omega|exact Nat.le_refl _⟩,⟨bw_2⟩⟩
  rw[ip c3]at H
  have Bc:=beq_iff_eq.mpr c3
  have Bu:=bne_eq_false_iff_eq.mpr c3
  clear c3
  (first|rw[Bc]|(simp only[i64_w,i32_w];rw[Bc])|skip)
  replace H:=bez H
  obtain⟨Bt,A4,H⟩:=H
  try dsimp only at H
  have H':=Az.mk H
  clear H
  go_wp2_with (first|(go_at_call 42;(with_reducible refine(fR.calls (wrap64 (Int.tdiv (wrap64 (3*(l0.length:Int))) 2)) 3 9 Bt _ A4.out).mono ?_);rintro e w' ⟨rfl,⟨nd,rfl⟩⟩))
  go_meet
  case rel=>exact⟨_,(!Bt),rq2,H',⟨by first|omega|exact Nat.le_refl _⟩,⟨bw_2⟩⟩
 clear Dq
 try clear c3
 try clear Bc
 try clear Bu
 obtain⟨kq,Bq,rfl,HA,Df,HB⟩:=hcut
 cases kq with
 |zero=>exact absurd HA.out (by simp[fC.j0])
 |succ Dg=>
  have H:=HA.out
  clear HA
  simp only[fC.j0]at H
  by_cases c5:Bq=true
  ·subst c5
   rw[ip rfl]at H
   obtain rfl:=Option.some.inj H
   go_wp2
   go_ret
   exact⟨rq1,bw_2⟩
  replace c5:=Bool.eq_false_iff.mpr c5
  subst c5
  rw[ig ff]at H
  obtain⟨Bv,Bd⟩:∃j_:Int,(wrap64 ((wrap64 (2*(wrap64 (Int.tdiv (wrap64 (3*(l0.length:Int))) 2))))+1))=j_:=⟨_,rfl⟩
  replace H:(if 0≤(Bv) then(if(Bv:Int).toNat≤281474976710656 then(fC.l0 Dg l0 (wrap64 (Int.tdiv (wrap64 (3*(l0.length:Int))) 2)) (List.replicate (Bv:Int).toNat false) 0) else(none)) else(none))=some r:=by first|(rw[Bd]at H;exact H)|(simp only[Bd]at H ⊢;exact H)
  have hji6w:(IntKind.i64.wrap ((wrap64 (2*(wrap64 (Int.tdiv (wrap64 (3*(l0.length:Int))) 2))))+1))=Bv:=(i64_w _).trans Bd
  by_cases c7:0≤(Bv)
  rotate_left
  ·rw[ig c7]at H
   exact absurd H (by simp)
  rw[ip c7]at H
  have Cq:=ets c7
  have Cr:=ode c7
  clear c7
  by_cases c8:(Bv:Int).toNat≤281474976710656
  rotate_left
  ·rw[ig c8]at H
   exact absurd H (by simp)
  rw[ip c8]at H
  have Cs:=ets c8
  have Ct:=ode c8
  clear c8
  obtain⟨Cu,hy⟩:∃y_:List Bool,y_=(List.replicate (Bv:Int).toNat false):=⟨_,rfl⟩
  replace H:(fC.l0 Dg l0 (wrap64 (Int.tdiv (wrap64 (3*(l0.length:Int))) 2)) Cu 0)=some r:=rh
  have Bz:=Az.mk hy
  clear hy
  have H':=Az.mk H
  clear H
  go_wp2_with (first|((with_reducible refine gtD (N:=24) rfl ?_);refine Kd.R_make Kd.bool _ 4 rfl (N:=24) rfl 72 _ _ rfl Bv rfl rfl Try.underlying72 (.bool false) 1 info4 rfl (by decide) (by omega) false (ok:=fun _=>True) (okp:=fun _=>True) rfl (fun _ hk=>hk) trivial (od) (Nat.le_trans (Nat.mul_le_mul_right _ (od:Bv.toNat≤281474976710656)) (by omega)) (Below.refl _ _) (Nat.le_refl _) ?_;intro Ce w9 Br hb hg_ hnew_;clear hg_ hnew_;(first|rw[←Bz.out]at Br|(simp only[Int.reduceToNat]at Br;rw[←Bz.out]at Br));have Cv:=Az.mk (Kd.R_lower Br (bwZ bw_2));replace HB:=Az.mk (bwT bw_2 hb);clear hb Br))
  go_loopg [5] Dg (fun kq v5 w'=>∃(Bw:List Bool) (Ad:Int),v5= .int .i64 Ad∧Az (fC.l0 kq l0 (wrap64 (Int.tdiv (wrap64 (3*(l0.length:Int))) 2)) Bw Ad=some r)∧Az (kq≤Dg)∧Az (Kd.R Kd.bool 4 w' w.heap.size (fun _=>True) Ce Bw)∧Az (Below w.heap.size w w'))
  case atStart=>exact⟨(Cu),(0),rq2,H',⟨Nat.le_refl _⟩,⟨kR Cv.out⟩,⟨bw_2⟩⟩
  clear H'
  try clear c3
  try clear Bc
  try clear Bu
  try clear c5
  try clear c7
  try clear Cq
  try clear Cr
  try clear c8
  try clear Cs
  try clear Ct
  obtain⟨Bw,Ad,rfl,HA,HK2,Am,HB⟩:=hrel
  cases gk with
  |zero=>exact absurd HA.out (by simp[fC.l0])
  |succ k2=>
   have H:=HA.out
   clear HA
   simp only[fC.l0]at H
   by_cases Cf:Ad<(l0.length:Int)
   rotate_left
   ·rw[ig Cf]at H
    have Ca:=decide_eq_false Cf
    clear Cf
    obtain rfl:=Option.some.inj H
    go_wp2
    go_ret
    exact⟨by first|rfl|(simp[eWn,eWs] <;> rfl)|(simp only[←Bd];first|rfl|(simp[eWn,eWs] <;> rfl))|(simp[*,eWn,eWs] <;> rfl),bw_2⟩
   rw[ip Cf]at H
   have Ca:=ode Cf
   clear Cf
   by_cases Cw:0≤Ad
   rotate_left
   ·rw[ig Cw]at H
    exact absurd H (by simp)
   rw[ip Cw]at H
   have Cx:=ode Cw
   clear Cw
   by_cases Cb:((rd_L1 l0 Ad).length:Int)=3
   rotate_left
   ·rw[ig Cb]at H
    have Cc:=beq_eq_false_iff_ne.mpr Cb
    have Cd:=bne_iff_ne.mpr Cb
    obtain rfl:=Option.some.inj H
    have Bf:0≤(Ad:Int):=od
    have Bh:Ad<(l0.length:Int):=od
    obtain⟨Bi,Cg,Ch,Ci,Al,Av,Ax⟩:=at_L1 Co.out Ad Bf Bh
    cases Ci
    replace Al:=kc HB Al
    have Bx:=Az.mk Ax
    have By:=Az.mk Av
    clear Ax Av
    replace Bf:=ets Bf
    replace Bh:=ets Bh
    go_wp2
    go_ret
    exact⟨by first|rfl|(simp[eWn,eWs] <;> rfl)|(simp only[←Bd];first|rfl|(simp[eWn,eWs] <;> rfl))|(simp[*,eWn,eWs] <;> rfl),bw_2⟩
   rw[ip Cb]at H
   have Cc:=beq_iff_eq.mpr Cb
   have Cd:=bne_eq_false_iff_eq.mpr Cb
   clear Cb
   have H':=Az.mk H
   clear H
   have Bf:0≤(Ad:Int):=od
   have Bh:Ad<(l0.length:Int):=od
   obtain⟨Bi,Cg,Ch,Ci,Al,Av,Ax⟩:=at_L1 Co.out Ad Bf Bh
   cases Ci
   replace Al:=kc HB Al
   have Bx:=Az.mk Ax
   have By:=Az.mk Av
   clear Ax Av
   replace Bf:=ets Bf
   replace Bh:=ets Bh
   go_wp2
   go_loopg [6] k2 (fun kq v6 w'=>∃(Ao:List Bool) (Ai:Int),v6= .int .i64 Ai∧Az (fC.l1 kq l0 (wrap64 (Int.tdiv (wrap64 (3*(l0.length:Int))) 2)) Ao Ad Ai=some r)∧Az (kq≤k2)∧Az (Kd.R Kd.bool 4 w' w.heap.size (fun _=>True) Ce Ao)∧Az (Below w.heap.size w w'))
   case atStart=>exact⟨(Bw),(0),rq2,H',⟨Nat.le_refl _⟩,⟨kR Am.out⟩,⟨bw_2⟩⟩
   clear H'
   try clear c3
   try clear Bc
   try clear Bu
   try clear c5
   try clear c7
   try clear Cq
   try clear Cr
   try clear c8
   try clear Cs
   try clear Ct
   try clear Cf
   try clear Ca
   try clear Cw
   try clear Cx
   try clear Cb
   try clear Cc
   try clear Cd
   try clear Al
   try clear Bf
   try clear Bh
   obtain⟨Ao,Ai,rfl,HA,HK3,Am,HB⟩:=hrel
   cases gk with
   |zero=>exact absurd HA.out (by simp[fC.l1])
   |succ k3=>
    have H:=HA.out
    clear HA
    simp only[fC.l1]at H
    by_cases Cp:Ai<3
    rotate_left
    ·rw[ig Cp]at H
     have Cy:=decide_eq_false Cp
     clear Cp
     have H':=Az.mk H
     clear H
     go_wp2
     go_roundg k3
     case measure=>have:=Df.out;have:=HK2.out;have:=HK3.out;omega
     case rel=>exact⟨(Ao),(wrap64 (Ad+1)),rq2,H',⟨by have:=Df.out;have:=HK2.out;have:=HK3.out;omega⟩,⟨kR Am.out⟩,⟨bw_2⟩⟩
    rw[ip Cp]at H
    have Cy:=ode Cp
    clear Cp
    by_cases Dh:0≤Ad
    rotate_left
    ·rw[ig Dh]at H
     exact absurd H (by simp)
    rw[ip Dh]at H
    have Ed:=ode Dh
    clear Dh
    by_cases Di:Ad<(l0.length:Int)
    rotate_left
    ·rw[ig Di]at H
     exact absurd H (by simp)
    rw[ip Di]at H
    have Ee:=ode Di
    clear Di
    by_cases Dj:0≤Ai
    rotate_left
    ·rw[ig Dj]at H
     exact absurd H (by simp)
    rw[ip Dj]at H
    have Ef:=ode Dj
    clear Dj
    by_cases Dk:Ai<((rd_L1 l0 Ad).length:Int)
    rotate_left
    ·rw[ig Dk]at H
     exact absurd H (by simp)
    rw[ip Dk]at H
    have Eg:=ode Dk
    clear Dk
    by_cases Cj:(rd (rd_L1 l0 Ad) Ai)=0
    ·rw[ip Cj]at H
     have Cz:=beq_iff_eq.mpr Cj
     have Da:=bne_eq_false_iff_eq.mpr Cj
     clear Cj
     obtain rfl:=Option.some.inj H
     have Ap:0≤(Ad:Int):=od
     have Aq:Ad<(l0.length:Int):=od
     obtain⟨Ba,Bk,Bl,Bm,Ae,Af,Ag⟩:=at_L1 Co.out Ad Ap Aq
     obtain rfl:Bi=Ba:=(by injection Bm)
     replace Ae:=kc HB Ae
     have Ak:=Az.mk Ag
     have Bb:=Az.mk Af
     clear Ag Af
     replace Ap:=ets Ap
     replace Aq:=ets Aq
     have As:0≤(Ai:Int):=od
     have Au:Ai<((rd_L1 l0 Ad).length:Int):=od
     obtain⟨Bs,Bn,Ah⟩:=Kd.at_int Ak.out Ai As Au
     cases Bn
     replace Ah:=kc HB Ah
     replace As:=ets As
     replace Au:=ets Au
     go_wp2
     go_ret
     exact⟨by first|rfl|(simp[eWn,eWs] <;> rfl)|(simp only[←Bd];first|rfl|(simp[eWn,eWs] <;> rfl))|(simp[*,eWn,eWs] <;> rfl),bw_2⟩
    rw[ig Cj]at H
    have Cz:=beq_eq_false_iff_ne.mpr Cj
    have Da:=bne_iff_ne.mpr Cj
    replace H:=bez H
    obtain⟨Dr,Dl,H⟩:=H
    try dsimp only at H
    by_cases Dm:Dr=true
    rotate_left
    ·replace Dm:=Bool.eq_false_iff.mpr Dm
     subst Dm
     rw[ig ff]at H
     obtain rfl:=Option.some.inj H
     have Ap:0≤(Ad:Int):=od
     have Aq:Ad<(l0.length:Int):=od
     obtain⟨Ba,Bk,Bl,Bm,Ae,Af,Ag⟩:=at_L1 Co.out Ad Ap Aq
     obtain rfl:Bi=Ba:=(by injection Bm)
     replace Ae:=kc HB Ae
     have Ak:=Az.mk Ag
     have Bb:=Az.mk Af
     clear Ag Af
     replace Ap:=ets Ap
     replace Aq:=ets Aq
     have As:0≤(Ai:Int):=od
     have Au:Ai<((rd_L1 l0 Ad).length:Int):=od
     obtain⟨Bs,Bn,Ah⟩:=Kd.at_int Ak.out Ai As Au
     cases Bn
     replace Ah:=kc HB Ah
     replace As:=ets As
     replace Au:=ets Au
     go_wp2_with (first|(go_at_call 42;(with_reducible refine(fR.calls (rd (rd_L1 l0 Ad) Ai) (wrap64 (-(wrap64 (Int.tdiv (wrap64 (3*(l0.length:Int))) 2)))) (wrap64 (Int.tdiv (wrap64 (3*(l0.length:Int))) 2)) false _ Dl.out).mono ?_);rintro e w' ⟨rfl,⟨nd,rfl⟩⟩))
     go_ret
     exact⟨by first|rfl|(simp[eWn,eWs] <;> rfl)|(simp only[←Bd];first|rfl|(simp[eWn,eWs] <;> rfl))|(simp[*,eWn,eWs] <;> rfl),bw_2⟩
    subst Dm
    rw[ip rfl]at H
    obtain⟨Aj,Bj⟩:∃j_:Int,(wrap64 ((wrap64 (Int.tdiv (wrap64 (3*(l0.length:Int))) 2))+(rd (rd_L1 l0 Ad) Ai)))=j_:=⟨_,rfl⟩
    replace H:(if 0≤(Aj) then(if(Aj)<(Ao.length:Int) then(if rdOf false Ao (Aj)=true then(some false) else(fC.l1 k3 l0 (wrap64 (Int.tdiv (wrap64 (3*(l0.length:Int))) 2)) (Ao.set ((Aj):Int).toNat true) Ad (wrap64 (Ai+1)))) else(none)) else(none))=some r:=by first|(rw[Bj]at H;exact H)|(simp only[Bj]at H ⊢;exact H)
    (try rw[Bj]at Dl)
    have hji22w:(IntKind.i64.wrap ((wrap64 (Int.tdiv (wrap64 (3*(l0.length:Int))) 2))+(rd (rd_L1 l0 Ad) Ai)))=Aj:=(i64_w _).trans Bj
    by_cases Dn:0≤(Aj)
    rotate_left
    ·rw[ig Dn]at H
     exact absurd H (by simp)
    rw[ip Dn]at H
    have Eh:=ode Dn
    clear Dn
    by_cases Do:(Aj)<(Ao.length:Int)
    rotate_left
    ·rw[ig Do]at H
     exact absurd H (by simp)
    rw[ip Do]at H
    have Ei:=ode Do
    clear Do
    obtain⟨bq25,hbq25⟩:∃b_:Bool,b_=(rdOf false Ao (Aj)):=⟨_,rfl⟩
    replace H:(if bq25=true then(some false) else(fC.l1 k3 l0 (wrap64 (Int.tdiv (wrap64 (3*(l0.length:Int))) 2)) (Ao.set ((Aj):Int).toNat true) Ad (wrap64 (Ai+1))))=some r:=by rw[←hbq25]at H;exact H
    have Nbq25:=Az.mk hbq25
    clear hbq25
    by_cases Dp:bq25=true
    ·subst Dp
     rw[ip rfl]at H
     obtain rfl:=Option.some.inj H
     have Ap:0≤(Ad:Int):=od
     have Aq:Ad<(l0.length:Int):=od
     obtain⟨Ba,Bk,Bl,Bm,Ae,Af,Ag⟩:=at_L1 Co.out Ad Ap Aq
     obtain rfl:Bi=Ba:=(by injection Bm)
     replace Ae:=kc HB Ae
     have Ak:=Az.mk Ag
     have Bb:=Az.mk Af
     clear Ag Af
     replace Ap:=ets Ap
     replace Aq:=ets Aq
     have As:0≤(Ai:Int):=od
     have Au:Ai<((rd_L1 l0 Ad).length:Int):=od
     obtain⟨Bs,Bn,Ah⟩:=Kd.at_int Ak.out Ai As Au
     cases Bn
     replace Ah:=kc HB Ah
     replace As:=ets As
     replace Au:=ets Au
     go_wp2_with (first|(go_at_call 42;(with_reducible refine(fR.calls (rd (rd_L1 l0 Ad) Ai) (wrap64 (-(wrap64 (Int.tdiv (wrap64 (3*(l0.length:Int))) 2)))) (wrap64 (Int.tdiv (wrap64 (3*(l0.length:Int))) 2)) true _ Dl.out).mono ?_);rintro e w' ⟨rfl,⟨nd,rfl⟩⟩;obtain⟨Ek,El,Ds⟩:=Kd.R_slice Am.out;subst Ds;have Bo:0≤((Aj):Int):=od;have Bp:(Aj)<(Ao.length:Int):=od;obtain⟨Db,Ck,Ay⟩:=Kd.at_bool (Kd.R_reads' Am.out).2.2 (Aj) Bo Bp;(try rw[←Nbq25.out]at Ay);cases Ck;replace Bo:=ets Bo;replace Bp:=ets Bp))
     go_ret
     exact⟨by first|rfl|(simp[eWn,eWs] <;> rfl)|(simp only[←Bd, ←Bj];first|rfl|(simp[eWn,eWs] <;> rfl))|(simp[*,eWn,eWs] <;> rfl),bw_2⟩
    replace Dp:=Bool.eq_false_iff.mpr Dp
    subst Dp
    rw[ig ff]at H
    obtain⟨Cl,hy⟩:∃y_:List Bool,y_=(Ao.set ((Aj):Int).toNat true):=⟨_,rfl⟩
    replace H:(fC.l1 k3 l0 (wrap64 (Int.tdiv (wrap64 (3*(l0.length:Int))) 2)) Cl Ad (wrap64 (Ai+1)))=some r:=rh
    have Dc:=Az.mk hy
    clear hy
    have H':=Az.mk H
    clear H
    have Ap:0≤(Ad:Int):=od
    have Aq:Ad<(l0.length:Int):=od
    obtain⟨Ba,Bk,Bl,Bm,Ae,Af,Ag⟩:=at_L1 Co.out Ad Ap Aq
    obtain rfl:Bi=Ba:=(by injection Bm)
    replace Ae:=kc HB Ae
    have Ak:=Az.mk Ag
    have Bb:=Az.mk Af
    clear Ag Af
    replace Ap:=ets Ap
    replace Aq:=ets Aq
    have As:0≤(Ai:Int):=od
    have Au:Ai<((rd_L1 l0 Ad).length:Int):=od
    obtain⟨Bs,Bn,Ah⟩:=Kd.at_int Ak.out Ai As Au
    cases Bn
    replace Ah:=kc HB Ah
    replace As:=ets As
    replace Au:=ets Au
    go_wp2_with (first|(go_at_call 42;(with_reducible refine(fR.calls (rd (rd_L1 l0 Ad) Ai) (wrap64 (-(wrap64 (Int.tdiv (wrap64 (3*(l0.length:Int))) 2)))) (wrap64 (Int.tdiv (wrap64 (3*(l0.length:Int))) 2)) true _ Dl.out).mono ?_);rintro e w' ⟨rfl,⟨nd,rfl⟩⟩;(try(rw[drewN_self wr];generalize hq_:World.drewN wr _=wr;have n0_:Az (Kd.R Kd.bool 4 wr w.heap.size (fun _=>True) Ce Ao):=⟨by rw[←hq_];exact(kR Am.out)⟩;have n1_:Az (Below w.heap.size w wr):=⟨by rw[←hq_];exact bw_2⟩;clear Am HB hq_;have Am:=n0_;have HB:=n1_;clear n0_ n1_));obtain⟨Em,Dt,Du⟩:=Kd.R_slice Am.out;subst Du;have Bo:0≤((Aj):Int):=od;have Bp:(Aj)<(Ao.length:Int):=od;obtain⟨Db,Ck,Ay⟩:=Kd.at_bool (Kd.R_reads' Am.out).2.2 (Aj) Bo Bp;(try rw[←Nbq25.out]at Ay);cases Ck;replace Bo:=ets Bo;replace Bp:=ets Bp;have Dv:0≤((Aj):Int):=od;have Dw:((Aj):Int)<((Ao.length:Int):Int):=od;obtain⟨Cm,Eo,Dd,De,gl28,Ep,HG28⟩:=Kd.R_form Am.out (by omega);(first|cases Dd|(injection Dd with ea_ en_ ec_;(first|subst ea_|(injection ea_ with ea_;subst ea_));subst ec_;clear en_));have Dx:=Az.mk De;have Er:=Az.mk HG28;clear De gl28 HG28;(first|simp only[add_plain]at Ay|skip);obtain⟨Dy,Dz⟩:=Kd.R_celln false Am.out ((Aj):Int) Dv Dw;replace Dv:=ets Dv;replace Dw:=ets Dw;obtain⟨hy30_,hz30_⟩:=Kd.R_celln false Am.out ((Aj):Int) (od) (od);have Cn:=Kd.R_putg Am.out ((Aj):Int) true)|((with_reducible refine gate_store (t:=4) (p:=70) rfl ?_);refine store_event (t:=4) (p:=70) (v:=?vo_w31) (w1:=(wr.setCell ⟨Cm,((Aj):Int).toNat,none⟩ (.bool true))) ?hg ?ho ?hn ?hr ?_;(case ho=>rfl);(case hg=>rfl);(case hn=>rfl);(case hr=>first|(go_simp;done)|(go_simp;rfl));intro Ea hw;have hg:wr.grownBy Ea (some Cm):=(by rw[hw];exact Cn.2);have hp_:Kd.R Kd.bool 4 Ea w.heap.size (fun _=>True) (.slice (some ⟨Cm,0,none⟩) Ao.length Dt) Cl:=(by rw[hw,Dc.out];exact Cn.1);clear Cn;replace Am:=Az.mk (hp_);replace HB:=Az.mk ((by rw[hw];exact bwS (HB.out) Dx.out:Below w.heap.size w Ea));clear hg hw hp_))
    go_roundg k3
    case measure=>have:=Df.out;have:=HK2.out;have:=HK3.out;omega
    case rel=>exact⟨(Cl),(wrap64 (Ai+1)),rq2,H',⟨by have:=Df.out;have:=HK2.out;have:=HK3.out;omega⟩,⟨kR Am.out⟩,⟨bw_2⟩⟩
def mE.f (a0:Int) (a1:Int):Option (Int):=if a0>a1 then(some a0) else(some a1)
theorem mE.calls (a0:Int) (a1:Int) (r:Int) (w:World) (h:mE.f a0 a1=some r):
  Calls Try.prog 87 #[.int .i64 a0, .int .i64 a1] w fun e w'=>e= .returned (.int .i64 r)∧Drawn0 w w':=by
 have H:(if a0>a1 then(some a0) else(some a1))=some r:=h
 clear h
 by_cases c3:a0>a1
 ·rw[ip c3]at H
  have Ad:decide (a1<a0)=true:=ode c3
  clear c3
  obtain rfl:=Option.some.inj H
  go_enter Try.func87,Try.ntmps87
  go_wp2
  go_ret
  exact⟨rq2,kd⟩
 rw[ig c3]at H
 have Ad:decide (a1<a0)=false:=decide_eq_false c3
 clear c3
 obtain rfl:=Option.some.inj H
 go_enter Try.func87,Try.ntmps87
 go_wp2
 go_ret
 exact⟨rq2,kd⟩
def gB.f (a0:Int):Option (Int):=(mE.f a0 (wrap64 (-a0))).bind fun t111=>(some t111)
theorem gB.calls (a0:Int) (r:Int) (w:World) (h:gB.f a0=some r):
  Calls Try.prog 70 #[.int .i64 a0] w fun e w'=>e= .returned (.int .i64 r)∧Drawn0 w w':=by
 have H:((mE.f a0 (wrap64 (-a0))).bind fun Ad=>(some Ad))=some r:=h
 clear h
 replace H:=bez H
 obtain⟨Ad,A2,H⟩:=H
 replace H:(some Ad)=some r:=H
 obtain rfl:=Option.some.inj H
 go_enter Try.func70,Try.ntmps70
 go_wp2_with (first|((with_reducible refine gtC (f:=87) rfl ?_);refine clz Try.func87 (some 6) #[.int .i64 a0, .int .i64 (wrap64 (-a0))] ?_;(with_reducible refine(mE.calls a0 (wrap64 (-a0)) Ad _ A2.out).mono ?_);rintro e w' ⟨rfl,⟨nd,rfl⟩⟩;refine⟨_,rfl,?_⟩))
 go_ret
 exact⟨rq2,kd⟩
def gW.f (l0:List (List Int)) (l1:List Int) (a2:Int) (a3:Int):Option (Int):=if 0≤a2 then(if a2<(l0.length:Int) then(if 0≤a3 then(if a3<((rd_L1 l0 a2).length:Int) then((gB.f (rd (rd_L1 l0 a2) a3)).bind fun t114=>(if 0≤(wrap64 (t114 - 1)) then(if(wrap64 (t114 - 1))<(l1.length:Int) then(if 0≤(Int.tmod (wrap64 (a3+1)) 3) then(if(Int.tmod (wrap64 (a3+1)) 3)<((rd_L1 l0 a2).length:Int) then((gB.f (rd (rd_L1 l0 a2) (Int.tmod (wrap64 (a3+1)) 3))).bind fun t118=>(if 0≤(wrap64 (t118 - 1)) then(if(wrap64 (t118 - 1))<(l1.length:Int) then(if 0≤(Int.tmod (wrap64 (a3+2)) 3) then(if(Int.tmod (wrap64 (a3+2)) 3)<((rd_L1 l0 a2).length:Int) then((gB.f (rd (rd_L1 l0 a2) (Int.tmod (wrap64 (a3+2)) 3))).bind fun t122=>(if 0≤(wrap64 (t122 - 1)) then(if(wrap64 (t122 - 1))<(l1.length:Int) then(some (wrap64 ((wrap64 ((rd l1 (wrap64 (t114 - 1)))+(rd l1 (wrap64 (t118 - 1))))) - (rd l1 (wrap64 (t122 - 1)))))) else(none)) else(none))) else(none)) else(none)) else(none)) else(none))) else(none)) else(none)) else(none)) else(none))) else(none)) else(none)) else(none)) else(none)
theorem gW.calls (A0:Option Addr) (c0:Nat) (l0:List (List Int)) (A1:Option Addr) (c1:Nat) (l1:List Int) (a2:Int) (a3:Int) (r:Int) (w:World) (Dr:Kd.C (Kd.slice 3 (Kd.int .i64)) w A0 l0.length l0) (Ds:l0.length≤c0) (Dt:Kd.C (Kd.int .i64) w A1 l1.length l1) (Du:l1.length≤c1) (h:gW.f l0 l1 a2 a3=some r):
  Calls Try.prog 67 #[.slice A0 l0.length c0, .slice A1 l1.length c1, .int .i64 a2, .int .i64 a3] w fun e w'=>e= .returned (.int .i64 r)∧Drawn0 w w':=by
 have Db:=Az.mk Dr
 have Eo:=Az.mk Ds
 clear Dr Ds
 have HR1:=Az.mk Dt
 have Ep:=Az.mk Du
 clear Dt Du
 have H:(if 0≤a2 then(if a2<(l0.length:Int) then(if 0≤a3 then(if a3<((rd_L1 l0 a2).length:Int) then((gB.f (rd (rd_L1 l0 a2) a3)).bind fun Aq=>(if 0≤(wrap64 (Aq - 1)) then(if(wrap64 (Aq - 1))<(l1.length:Int) then(if 0≤(Int.tmod (wrap64 (a3+1)) 3) then(if(Int.tmod (wrap64 (a3+1)) 3)<((rd_L1 l0 a2).length:Int) then((gB.f (rd (rd_L1 l0 a2) (Int.tmod (wrap64 (a3+1)) 3))).bind fun Ae=>(if 0≤(wrap64 (Ae - 1)) then(if(wrap64 (Ae - 1))<(l1.length:Int) then(if 0≤(Int.tmod (wrap64 (a3+2)) 3) then(if(Int.tmod (wrap64 (a3+2)) 3)<((rd_L1 l0 a2).length:Int) then((gB.f (rd (rd_L1 l0 a2) (Int.tmod (wrap64 (a3+2)) 3))).bind fun Ad=>(if 0≤(wrap64 (Ad - 1)) then(if(wrap64 (Ad - 1))<(l1.length:Int) then(some (wrap64 ((wrap64 ((rd l1 (wrap64 (Aq - 1)))+(rd l1 (wrap64 (Ae - 1))))) - (rd l1 (wrap64 (Ad - 1)))))) else(none)) else(none))) else(none)) else(none)) else(none)) else(none))) else(none)) else(none)) else(none)) else(none))) else(none)) else(none)) else(none)) else(none))=some r:=h
 clear h
 by_cases c5:0≤a2
 rotate_left
 ·rw[ig c5]at H
  exact absurd H (by simp)
 rw[ip c5]at H
 have Ej:=ode c5
 clear c5
 by_cases c6:a2<(l0.length:Int)
 rotate_left
 ·rw[ig c6]at H
  exact absurd H (by simp)
 rw[ip c6]at H
 have Ek:=ode c6
 clear c6
 by_cases c7:0≤a3
 rotate_left
 ·rw[ig c7]at H
  exact absurd H (by simp)
 rw[ip c7]at H
 have El:=ode c7
 clear c7
 by_cases c8:a3<((rd_L1 l0 a2).length:Int)
 rotate_left
 ·rw[ig c8]at H
  exact absurd H (by simp)
 rw[ip c8]at H
 have Em:=ode c8
 clear c8
 replace H:=bez H
 obtain⟨Aq,A9,H⟩:=H
 try dsimp only at H
 obtain⟨Af,Ao⟩:∃j_:Int,(wrap64 (Aq - 1))=j_:=⟨_,rfl⟩
 replace H:(if 0≤(Af) then(if(Af)<(l1.length:Int) then(if 0≤(Int.tmod (wrap64 (a3+1)) 3) then(if(Int.tmod (wrap64 (a3+1)) 3)<((rd_L1 l0 a2).length:Int) then((gB.f (rd (rd_L1 l0 a2) (Int.tmod (wrap64 (a3+1)) 3))).bind fun Ae=>(if 0≤(wrap64 (Ae - 1)) then(if(wrap64 (Ae - 1))<(l1.length:Int) then(if 0≤(Int.tmod (wrap64 (a3+2)) 3) then(if(Int.tmod (wrap64 (a3+2)) 3)<((rd_L1 l0 a2).length:Int) then((gB.f (rd (rd_L1 l0 a2) (Int.tmod (wrap64 (a3+2)) 3))).bind fun Ad=>(if 0≤(wrap64 (Ad - 1)) then(if(wrap64 (Ad - 1))<(l1.length:Int) then(some (wrap64 ((wrap64 ((rd l1 (Af))+(rd l1 (wrap64 (Ae - 1))))) - (rd l1 (wrap64 (Ad - 1)))))) else(none)) else(none))) else(none)) else(none)) else(none)) else(none))) else(none)) else(none)) else(none)) else(none))=some r:=by first|(rw[Ao]at H;exact H)|(simp only[Ao]at H ⊢;exact H)
 (try rw[Ao]at A9)
 have hji10w:(IntKind.i64.wrap (Aq - 1))=Af:=(i64_w _).trans Ao
 by_cases Ch:0≤(Af)
 rotate_left
 ·rw[ig Ch]at H
  exact absurd H (by simp)
 rw[ip Ch]at H
 have Dv:=ode Ch
 clear Ch
 by_cases Ci:(Af)<(l1.length:Int)
 rotate_left
 ·rw[ig Ci]at H
  exact absurd H (by simp)
 rw[ip Ci]at H
 have Dw:=ode Ci
 clear Ci
 obtain⟨Ai,Ap⟩:∃j_:Int,(Int.tmod (wrap64 (a3+1)) 3)=j_:=⟨_,rfl⟩
 replace H:(if 0≤(Ai) then(if(Ai)<((rd_L1 l0 a2).length:Int) then((gB.f (rd (rd_L1 l0 a2) (Ai))).bind fun Ae=>(if 0≤(wrap64 (Ae - 1)) then(if(wrap64 (Ae - 1))<(l1.length:Int) then(if 0≤(Int.tmod (wrap64 (a3+2)) 3) then(if(Int.tmod (wrap64 (a3+2)) 3)<((rd_L1 l0 a2).length:Int) then((gB.f (rd (rd_L1 l0 a2) (Int.tmod (wrap64 (a3+2)) 3))).bind fun Ad=>(if 0≤(wrap64 (Ad - 1)) then(if(wrap64 (Ad - 1))<(l1.length:Int) then(some (wrap64 ((wrap64 ((rd l1 (Af))+(rd l1 (wrap64 (Ae - 1))))) - (rd l1 (wrap64 (Ad - 1)))))) else(none)) else(none))) else(none)) else(none)) else(none)) else(none))) else(none)) else(none))=some r:=by first|(rw[Ap]at H;exact H)|(simp only[Ap]at H ⊢;exact H)
 (try rw[Ap]at A9)
 by_cases Cj:0≤(Ai)
 rotate_left
 ·rw[ig Cj]at H
  exact absurd H (by simp)
 rw[ip Cj]at H
 have Dx:=ode Cj
 clear Cj
 by_cases Ck:(Ai)<((rd_L1 l0 a2).length:Int)
 rotate_left
 ·rw[ig Ck]at H
  exact absurd H (by simp)
 rw[ip Ck]at H
 have Dy:=ode Ck
 clear Ck
 replace H:=bez H
 obtain⟨Ae,Cl,H⟩:=H
 try dsimp only at H
 obtain⟨Ag,Ak⟩:∃j_:Int,(wrap64 (Ae - 1))=j_:=⟨_,rfl⟩
 replace H:(if 0≤(Ag) then(if(Ag)<(l1.length:Int) then(if 0≤(Int.tmod (wrap64 (a3+2)) 3) then(if(Int.tmod (wrap64 (a3+2)) 3)<((rd_L1 l0 a2).length:Int) then((gB.f (rd (rd_L1 l0 a2) (Int.tmod (wrap64 (a3+2)) 3))).bind fun Ad=>(if 0≤(wrap64 (Ad - 1)) then(if(wrap64 (Ad - 1))<(l1.length:Int) then(some (wrap64 ((wrap64 ((rd l1 (Af))+(rd l1 (Ag)))) - (rd l1 (wrap64 (Ad - 1)))))) else(none)) else(none))) else(none)) else(none)) else(none)) else(none))=some r:=by first|(rw[Ak]at H;exact H)|(simp only[Ak]at H ⊢;exact H)
 (try rw[Ak]at A9)
 (try rw[Ak]at Cl)
 have hji17w:(IntKind.i64.wrap (Ae - 1))=Ag:=(i64_w _).trans Ak
 by_cases Cm:0≤(Ag)
 rotate_left
 ·rw[ig Cm]at H
  exact absurd H (by simp)
 rw[ip Cm]at H
 have Dz:=ode Cm
 clear Cm
 by_cases Cn:(Ag)<(l1.length:Int)
 rotate_left
 ·rw[ig Cn]at H
  exact absurd H (by simp)
 rw[ip Cn]at H
 have Ea:=ode Cn
 clear Cn
 obtain⟨Aj,Al⟩:∃j_:Int,(Int.tmod (wrap64 (a3+2)) 3)=j_:=⟨_,rfl⟩
 replace H:(if 0≤(Aj) then(if(Aj)<((rd_L1 l0 a2).length:Int) then((gB.f (rd (rd_L1 l0 a2) (Aj))).bind fun Ad=>(if 0≤(wrap64 (Ad - 1)) then(if(wrap64 (Ad - 1))<(l1.length:Int) then(some (wrap64 ((wrap64 ((rd l1 (Af))+(rd l1 (Ag)))) - (rd l1 (wrap64 (Ad - 1)))))) else(none)) else(none))) else(none)) else(none))=some r:=by first|(rw[Al]at H;exact H)|(simp only[Al]at H ⊢;exact H)
 (try rw[Al]at A9)
 (try rw[Al]at Cl)
 by_cases Co:0≤(Aj)
 rotate_left
 ·rw[ig Co]at H
  exact absurd H (by simp)
 rw[ip Co]at H
 have Eb:=ode Co
 clear Co
 by_cases Cp:(Aj)<((rd_L1 l0 a2).length:Int)
 rotate_left
 ·rw[ig Cp]at H
  exact absurd H (by simp)
 rw[ip Cp]at H
 have Ec:=ode Cp
 clear Cp
 replace H:=bez H
 obtain⟨Ad,Ed,H⟩:=H
 try dsimp only at H
 obtain⟨Am,Ah⟩:∃j_:Int,(wrap64 (Ad - 1))=j_:=⟨_,rfl⟩
 replace H:(if 0≤(Am) then(if(Am)<(l1.length:Int) then(some (wrap64 ((wrap64 ((rd l1 (Af))+(rd l1 (Ag)))) - (rd l1 (Am))))) else(none)) else(none))=some r:=by first|(rw[Ah]at H;exact H)|(simp only[Ah]at H ⊢;exact H)
 (try rw[Ah]at A9)
 (try rw[Ah]at Cl)
 (try rw[Ah]at Ed)
 have hji24w:(IntKind.i64.wrap (Ad - 1))=Am:=(i64_w _).trans Ah
 by_cases Cq:0≤(Am)
 rotate_left
 ·rw[ig Cq]at H
  exact absurd H (by simp)
 rw[ip Cq]at H
 have Ee:=ode Cq
 clear Cq
 by_cases Cr:(Am)<(l1.length:Int)
 rotate_left
 ·rw[ig Cr]at H
  exact absurd H (by simp)
 rw[ip Cr]at H
 have Ef:=ode Cr
 clear Cr
 obtain rfl:=Option.some.inj H
 have Bl:0≤(a2:Int):=od
 have Bm:a2<(l0.length:Int):=od
 obtain⟨Bj,Dc,Dd,De,As,Au,Av⟩:=at_L1 Db.out a2 Bl Bm
 cases De
 have Bc:=Az.mk Av
 have Cs:=Az.mk Au
 clear Av Au
 replace Bl:=ets Bl
 replace Bm:=ets Bm
 have Bn:0≤(a3:Int):=od
 have Bo:a3<((rd_L1 l0 a2).length:Int):=od
 obtain⟨Eg,Df,Ct⟩:=Kd.at_int Bc.out a3 Bn Bo
 cases Df
 replace Bn:=ets Bn
 replace Bo:=ets Bo
 go_enter Try.func67,Try.ntmps67
 go_wp2_with (first|((with_reducible refine gtC (f:=70) rfl ?_);refine clz Try.func70 (some 20) #[.int .i64 (rd (rd_L1 l0 a2) a3)] ?_;(with_reducible refine(gB.calls (rd (rd_L1 l0 a2) a3) Aq _ A9.out).mono ?_);rintro e w' ⟨rfl,⟨nd,rfl⟩⟩;refine⟨_,rfl,?_⟩;have Bp:0≤((Af):Int):=od;have Bq:(Af)<(l1.length:Int):=od;obtain⟨Bk,Dg,Cu⟩:=Kd.at_int HR1.out (Af) Bp Bq;cases Dg;replace Bp:=ets Bp;replace Bq:=ets Bq;have Br:0≤(a2:Int):=od;have Bs:a2<(l0.length:Int):=od;obtain⟨Cd,Dh,Di,Dj,Bd,Ax,Ay⟩:=at_L1 Db.out a2 Br Bs;obtain rfl:Bj=Cd:=(by injection Dj);have Bf:=Az.mk Ay;have Cv:=Az.mk Ax;clear Ay Ax;replace Br:=ets Br;replace Bs:=ets Bs;have ea_:=Option.some.inj (As.symm.trans Bd);injection ea_ with ea_ en_ ec_;subst ea_;subst ec_;clear en_;have Bt:0≤((Ai):Int):=od;have Bu:(Ai)<((rd_L1 l0 a2).length:Int):=od;obtain⟨Eh,Dk,Cw⟩:=Kd.at_int Bf.out (Ai) Bt Bu;cases Dk;replace Bt:=ets Bt;replace Bu:=ets Bu)|((with_reducible refine gtC (f:=70) rfl ?_);refine goesL_ (some 34) rfl rfl Try.func70 (by kernel_rfl) rfl #[.int .i64 (rd (rd_L1 l0 a2) (Ai))] rfl (by(try simp only[List.map_toArray,List.map_cons,List.map_nil]);first|done|(simp only[Ap];rfl)|rfl|(simp only[List.length_drop,List.length_take];rfl)) ?_;(with_reducible refine(gB.calls (rd (rd_L1 l0 a2) (Ai)) Ae _ Cl.out).mono ?_);rintro e w' ⟨rfl,⟨nd,rfl⟩⟩;refine⟨_,rfl,?_⟩;have Bv:0≤((Ag):Int):=od;have Bw:(Ag)<(l1.length:Int):=od;obtain⟨Ce,Dl,Cx⟩:=Kd.at_int HR1.out (Ag) Bv Bw;obtain rfl:Bk=Ce:=(by injection Dl);replace Bv:=ets Bv;replace Bw:=ets Bw;have Bx:0≤(a2:Int):=od;have By:a2<(l0.length:Int):=od;obtain⟨Cf,Dm,Dn,Do,Bh,Ba,Bb⟩:=at_L1 Db.out a2 Bx By;obtain rfl:Bj=Cf:=(by injection Do);have Bi:=Az.mk Bb;have Cy:=Az.mk Ba;clear Bb Ba;replace Bx:=ets Bx;replace By:=ets By;have ea_:=Option.some.inj (As.symm.trans Bh);injection ea_ with ea_ en_ ec_;subst ea_;subst ec_;clear en_;have Bz:0≤((Aj):Int):=od;have Ca:(Aj)<((rd_L1 l0 a2).length:Int):=od;obtain⟨Ei,Dp,Cz⟩:=Kd.at_int Bi.out (Aj) Bz Ca;cases Dp;replace Bz:=ets Bz;replace Ca:=ets Ca)|((with_reducible refine gtC (f:=70) rfl ?_);refine goesL_ (some 48) rfl rfl Try.func70 (by kernel_rfl) rfl #[.int .i64 (rd (rd_L1 l0 a2) (Aj))] rfl (by(try simp only[List.map_toArray,List.map_cons,List.map_nil]);first|done|(simp only[Al];rfl)|rfl|(simp only[List.length_drop,List.length_take];rfl)) ?_;(with_reducible refine(gB.calls (rd (rd_L1 l0 a2) (Aj)) Ad _ Ed.out).mono ?_);rintro e w' ⟨rfl,⟨nd,rfl⟩⟩;refine⟨_,rfl,?_⟩;have Cb:0≤((Am):Int):=od;have Cc:(Am)<(l1.length:Int):=od;obtain⟨Cg,Dq,Da⟩:=Kd.at_int HR1.out (Am) Cb Cc;obtain rfl:Bk=Cg:=(by injection Dq);replace Cb:=ets Cb;replace Cc:=ets Cc))
 go_ret
 exact⟨by first|rfl|(simp;done)|(simp only[←Ao, ←Ap, ←Ak, ←Al, ←Ah] <;> (first|rfl|simp))|(simp[*];done),kd⟩
theorem bw_4 {n:Nat}{v v':World} (h:Below n v v':=by repeat(first|(with_reducible first|exact HB.out|apply bwA|apply pbN|apply bwD)|exact HB.out)):Below n v v':=h
theorem ln_4 {P:Prop} (h:P:=by(try simp only[List.map_toArray,List.map_cons,List.map_nil]);first|done|rfl|(simp only[List.length_drop,List.length_take];rfl)):P:=h
mutual
def fN.j0:Nat→List (List Int)→List Int→Bool→Option (Bool)
 |0,_,_,_=>none
 |k+1,x0,x1,x20=>if x20=true then(some false) else(fN.l0 k x0 x1 0)
def fN.l0:Nat→List (List Int)→List Int→Int→Option (Bool)
 |0,_,_,_=>none
 |k+1,x0,x1,x5=>if x5<(x1.length:Int) then(if 0≤x5 then((fR.f (rd x1 x5) 0 200).bind fun t126=>(if t126=true then(fN.l0 k x0 x1 (wrap64 (x5+1))) else(some false))) else(none)) else(fN.l1 k x0 x1 0)
def fN.l1:Nat→List (List Int)→List Int→Int→Option (Bool)
 |0,_,_,_=>none
 |k+1,x0,x1,x6=>if x6<(x0.length:Int) then(fN.l2 k x0 x1 x6 0) else(some true)
def fN.l2:Nat→List (List Int)→List Int→Int→Int→Option (Bool)
 |0,_,_,_,_=>none
 |k+1,x0,x1,x6,x7=>if x7<3 then((gW.f x0 x1 x6 x7).bind fun t127=>(if t127<0 then(some false) else(if(Int.tmod t127 2)=0 then(fN.l2 k x0 x1 x6 (wrap64 (x7+1))) else(some false)))) else(fN.l1 k x0 x1 (wrap64 (x6+1)))
end
def fN.f (k:Nat) (l0:List (List Int)) (l1:List Int):Option (Bool):=(fC.f k l0).bind fun t124=>(if t124=true then(fN.j0 k l0 l1 ((l1.length:Int) != (wrap64 (Int.tdiv (wrap64 (3*(l0.length:Int))) 2)))) else(fN.j0 k l0 l1 true))
theorem fN.calls (k:Nat) (A0:Option Addr) (c0:Nat) (l0:List (List Int)) (A1:Option Addr) (c1:Nat) (l1:List Int) (r:Bool) (w:World) (Bt:Kd.C (Kd.slice 3 (Kd.int .i64)) w A0 l0.length l0) (Bu:l0.length≤c0) (Bv:Kd.C (Kd.int .i64) w A1 l1.length l1) (Bw:l1.length≤c1) (h:fN.f k l0 l1=some r):
  Calls Try.prog 38 #[.slice A0 l0.length c0, .slice A1 l1.length c1] w fun e w'=>e= .returned (.bool r)∧Below w.heap.size w w':=by
 have Bi:=Az.mk Bt
 have Bj:=Az.mk Bu
 clear Bt Bu
 have HR1:=Az.mk Bv
 have Bp:=Az.mk Bw
 clear Bv Bw
 have HB:=Az.mk (Below.refl w.heap.size w)
 have H:((fC.f k l0).bind fun Au=>(if Au=true then(fN.j0 k l0 l1 ((l1.length:Int) != (wrap64 (Int.tdiv (wrap64 (3*(l0.length:Int))) 2)))) else(fN.j0 k l0 l1 true)))=some r:=h
 clear h
 have Bq:=Az.mk H
 clear H
 go_enter Try.func38,Try.ntmps38
 go_upto_region 1 with (fail)
 go_cut [20] (fun Bz wc=>∃(kq:Nat) (Ao:Bool),Bz= .bool Ao∧Az (fN.j0 kq l0 l1 Ao=some r)∧Az (kq≤k)∧Az (Below w.heap.size w wc))
 case first=>
  have H:=Bq.out
  clear Bq
  replace H:=bez H
  obtain⟨Au,A4,H⟩:=H
  try dsimp only at H
  by_cases c5:Au=true
  ·subst c5
   rw[ip rfl]at H
   have H':=Az.mk H
   clear H
   go_wp2_with (first|((with_reducible refine gtC (f:=45) rfl ?_);refine clz Try.func45 (some 10) #[.slice A0 l0.length c0] ?_;(with_reducible refine(fC.calls k _ _ l0 true _ ?Af ?Ag A4.out).mono ?_);(case Af=>exact kC (Kd.C_below Bi.out HB.out));(case Ag=>exact Bj.out);rintro e w6 ⟨rfl,hb⟩;refine⟨_,rfl,?_⟩;replace HB:=Az.mk (bwT bw_4 hb);(try clear hb)))
   go_meet
   case rel=>exact⟨_,(((l1.length:Int) != (wrap64 (Int.tdiv (wrap64 (3*(l0.length:Int))) 2)))),rq2,H',⟨by first|omega|exact Nat.le_refl _⟩,⟨bw_4⟩⟩
  replace c5:=Bool.eq_false_iff.mpr c5
  subst c5
  rw[ig ff]at H
  have H':=Az.mk H
  clear H
  go_wp2_with (first|((with_reducible refine gtC (f:=45) rfl ?_);refine clz Try.func45 (some 10) #[.slice A0 l0.length c0] ?_;(with_reducible refine(fC.calls k _ _ l0 false _ ?Af ?Ag A4.out).mono ?_);(case Af=>exact kC (Kd.C_below Bi.out HB.out));(case Ag=>exact Bj.out);rintro e w7 ⟨rfl,hb⟩;refine⟨_,rfl,?_⟩;replace HB:=Az.mk (bwT bw_4 hb);(try clear hb)))
  go_meet
  case rel=>exact⟨_,(true),rq2,H',⟨by first|omega|exact Nat.le_refl _⟩,⟨bw_4⟩⟩
 clear Bq
 try clear c1
 try clear c5
 obtain⟨kq,Ao,rfl,HA,Bb,HB⟩:=hcut
 cases kq with
 |zero=>exact absurd HA.out (by simp[fN.j0])
 |succ Bx=>
  have H:=HA.out
  clear HA
  simp only[fN.j0]at H
  by_cases c8:Ao=true
  ·subst c8
   rw[ip rfl]at H
   obtain rfl:=Option.some.inj H
   go_wp2
   go_ret
   exact⟨rq1,bw_4⟩
  replace c8:=Bool.eq_false_iff.mpr c8
  subst c8
  rw[ig ff]at H
  have H':=Az.mk H
  clear H
  go_wp2
  go_loopg [5] Bx (fun kq v5 w'=>∃(Ae:Int),v5= .int .i64 Ae∧Az (fN.l0 kq l0 l1 Ae=some r)∧Az (kq≤Bx)∧Az (Below w.heap.size w w'))
  case atStart=>exact⟨(0),rq2,H',⟨Nat.le_refl _⟩,⟨bw_4⟩⟩
  clear H'
  try clear c1
  try clear c5
  try clear c8
  obtain⟨Ae,rfl,HA,HK2,HB⟩:=hrel
  cases gk with
  |zero=>exact absurd HA.out (by simp[fN.l0])
  |succ k2=>
   have H:=HA.out
   clear HA
   simp only[fN.l0]at H
   by_cases c9:Ae<(l1.length:Int)
   ·rw[ip c9]at H
    have Av:=ode c9
    clear c9
    by_cases Bc:0≤Ae
    rotate_left
    ·rw[ig Bc]at H
     exact absurd H (by simp)
    rw[ip Bc]at H
    have Aq:=ode Bc
    clear Bc
    replace H:=bez H
    obtain⟨Br,By,H⟩:=H
    try dsimp only at H
    by_cases Bd:Br=true
    rotate_left
    ·replace Bd:=Bool.eq_false_iff.mpr Bd
     subst Bd
     rw[ig ff]at H
     obtain rfl:=Option.some.inj H
     have Aj:0≤(Ae:Int):=od
     have Ak:Ae<(l1.length:Int):=od
     obtain⟨Bk,Ax,Ad⟩:=Kd.at_int HR1.out Ae Aj Ak
     cases Ax
     replace Ad:=kc HB Ad
     replace Aj:=ets Aj
     replace Ak:=ets Ak
     go_wp2_with (first|((with_reducible refine gtC (f:=42) rfl ?_);refine clz Try.func42 (some 31) #[.int .i64 (rd l1 Ae), .int .i64 0, .int .i64 200] ?_;(with_reducible refine(fR.calls (rd l1 Ae) 0 200 false _ By.out).mono ?_);rintro e w' ⟨rfl,⟨nd,rfl⟩⟩;refine⟨_,rfl,?_⟩))
     go_ret
     exact⟨rq1,bw_4⟩
    subst Bd
    rw[ip rfl]at H
    have H':=Az.mk H
    clear H
    have Aj:0≤(Ae:Int):=od
    have Ak:Ae<(l1.length:Int):=od
    obtain⟨Bk,Ax,Ad⟩:=Kd.at_int HR1.out Ae Aj Ak
    cases Ax
    replace Ad:=kc HB Ad
    replace Aj:=ets Aj
    replace Ak:=ets Ak
    go_wp2_with (first|((with_reducible refine gtC (f:=42) rfl ?_);refine clz Try.func42 (some 31) #[.int .i64 (rd l1 Ae), .int .i64 0, .int .i64 200] ?_;(with_reducible refine(fR.calls (rd l1 Ae) 0 200 true _ By.out).mono ?_);rintro e w' ⟨rfl,⟨nd,rfl⟩⟩;refine⟨_,rfl,?_⟩))
    go_roundg k2
    case measure=>have:=Bb.out;have:=HK2.out;omega
    case rel=>exact⟨(wrap64 (Ae+1)),rq2,H',⟨by have:=Bb.out;have:=HK2.out;omega⟩,⟨bw_4⟩⟩
   rw[ig c9]at H
   have Av:=decide_eq_false c9
   clear c9
   have H':=Az.mk H
   clear H
   go_wp2
   go_loopg [6] k2 (fun kq v6 w'=>∃(Ah:Int),v6= .int .i64 Ah∧Az (fN.l1 kq l0 l1 Ah=some r)∧Az (kq≤k2)∧Az (Below w.heap.size w w'))
   case atStart=>exact⟨(0),rq2,H',⟨Nat.le_refl _⟩,⟨bw_4⟩⟩
   clear H'
   try clear c1
   try clear c5
   try clear c8
   try clear c9
   try clear Av
   try clear Bc
   try clear Aq
   try clear Bd
   try clear Ad
   try clear Aj
   try clear Ak
   obtain⟨Ah,rfl,HA,HK3,HB⟩:=hrel
   cases gk with
   |zero=>exact absurd HA.out (by simp[fN.l1])
   |succ k3=>
    have H:=HA.out
    clear HA
    simp only[fN.l1]at H
    by_cases Ay:Ah<(l0.length:Int)
    rotate_left
    ·rw[ig Ay]at H
     have As:=decide_eq_false Ay
     clear Ay
     obtain rfl:=Option.some.inj H
     go_wp2
     go_ret
     exact⟨rq1,bw_4⟩
    rw[ip Ay]at H
    have As:=ode Ay
    clear Ay
    have H':=Az.mk H
    clear H
    go_wp2
    go_loopg [7] k3 (fun kq v7 w'=>∃(Ai:Int),v7= .int .i64 Ai∧Az (fN.l2 kq l0 l1 Ah Ai=some r)∧Az (kq≤k3)∧Az (Below w.heap.size w w'))
    case atStart=>exact⟨(0),rq2,H',⟨Nat.le_refl _⟩,⟨bw_4⟩⟩
    clear H'
    try clear c1
    try clear c5
    try clear c8
    try clear c9
    try clear Av
    try clear Bc
    try clear Aq
    try clear Bd
    try clear Ay
    try clear As
    try clear Ad
    try clear Aj
    try clear Ak
    obtain⟨Ai,rfl,HA,HK4,HB⟩:=hrel
    cases gk with
    |zero=>exact absurd HA.out (by simp[fN.l2])
    |succ k4=>
     have H:=HA.out
     clear HA
     simp only[fN.l2]at H
     by_cases Bf:Ai<3
     rotate_left
     ·rw[ig Bf]at H
      have Bl:=decide_eq_false Bf
      clear Bf
      have H':=Az.mk H
      clear H
      go_wp2
      go_roundg k4
      case measure=>have:=Bb.out;have:=HK2.out;have:=HK3.out;have:=HK4.out;omega
      case rel=>exact⟨(wrap64 (Ah+1)),rq2,H',⟨by have:=Bb.out;have:=HK2.out;have:=HK3.out;have:=HK4.out;omega⟩,⟨bw_4⟩⟩
     rw[ip Bf]at H
     have Bl:=ode Bf
     clear Bf
     replace H:=bez H
     obtain⟨Ap,Bs,H⟩:=H
     try dsimp only at H
     by_cases Bh:Ap<0
     ·rw[ip Bh]at H
      have Bm:=ode Bh
      clear Bh
      obtain rfl:=Option.some.inj H
      go_wp2_with (first|((with_reducible refine gtC (f:=67) rfl ?_);refine clz Try.func67 (some 47) #[.slice A0 l0.length c0, .slice A1 l1.length c1, .int .i64 Ah, .int .i64 Ai] ?_;(with_reducible refine(gW.calls _ _ l0 _ _ l1 Ah Ai Ap _ ?Af ?Ag ?Al ?Am Bs.out).mono ?_);(case Af=>exact kC (Kd.C_below Bi.out HB.out));(case Ag=>exact Bj.out);(case Al=>exact kC (Kd.C_below HR1.out HB.out));(case Am=>exact Bp.out);rintro e w' ⟨rfl,⟨nd,rfl⟩⟩;refine⟨_,rfl,?_⟩))
      go_ret
      exact⟨rq1,bw_4⟩
     rw[ig Bh]at H
     have Bm:=decide_eq_false Bh
     clear Bh
     by_cases Ba:(Int.tmod Ap 2)=0
     rotate_left
     ·rw[ig Ba]at H
      have Bn:=beq_eq_false_iff_ne.mpr Ba
      have Bo:=bne_iff_ne.mpr Ba
      obtain rfl:=Option.some.inj H
      go_wp2_with (first|((with_reducible refine gtC (f:=67) rfl ?_);refine clz Try.func67 (some 47) #[.slice A0 l0.length c0, .slice A1 l1.length c1, .int .i64 Ah, .int .i64 Ai] ?_;(with_reducible refine(gW.calls _ _ l0 _ _ l1 Ah Ai Ap _ ?Af ?Ag ?Al ?Am Bs.out).mono ?_);(case Af=>exact kC (Kd.C_below Bi.out HB.out));(case Ag=>exact Bj.out);(case Al=>exact kC (Kd.C_below HR1.out HB.out));(case Am=>exact Bp.out);rintro e w' ⟨rfl,⟨nd,rfl⟩⟩;refine⟨_,rfl,?_⟩))
      go_ret
      exact⟨rq1,bw_4⟩
     rw[ip Ba]at H
     have Bn:=beq_iff_eq.mpr Ba
     have Bo:=bne_eq_false_iff_eq.mpr Ba
     clear Ba
     have H':=Az.mk H
     clear H
     go_wp2_with (first|((with_reducible refine gtC (f:=67) rfl ?_);refine clz Try.func67 (some 47) #[.slice A0 l0.length c0, .slice A1 l1.length c1, .int .i64 Ah, .int .i64 Ai] ?_;(with_reducible refine(gW.calls _ _ l0 _ _ l1 Ah Ai Ap _ ?Af ?Ag ?Al ?Am Bs.out).mono ?_);(case Af=>exact kC (Kd.C_below Bi.out HB.out));(case Ag=>exact Bj.out);(case Al=>exact kC (Kd.C_below HR1.out HB.out));(case Am=>exact Bp.out);rintro e w' ⟨rfl,⟨nd,rfl⟩⟩;refine⟨_,rfl,?_⟩))
     go_roundg k4
     case measure=>have:=Bb.out;have:=HK2.out;have:=HK3.out;have:=HK4.out;omega
     case rel=>exact⟨(wrap64 (Ai+1)),rq2,H',⟨by have:=Bb.out;have:=HK2.out;have:=HK3.out;have:=HK4.out;omega⟩,⟨bw_4⟩⟩
theorem bw_5 {n:Nat}{v v':World} (h:Below n v v':=by repeat(first|(with_reducible first|exact HB.out|apply bwA|apply pbN|apply bwD)|exact HB.out)):Below n v v':=h
theorem ln_5 {P:Prop} (h:P:=by(try simp only[List.map_toArray,List.map_cons,List.map_nil]);first|done|rfl|(simp only[List.length_drop,List.length_take];rfl)):P:=h
def gD.l0:Nat→List Int→Int→Option (Int)
 |0,_,_=>none
 |k+1,x0,x1=>if 0≤x1 then(if x1<(x0.length:Int) then(if(rd x0 x1)=x1 then(some x1) else(gD.l0 k x0 (rd x0 x1))) else(none)) else(none)
def gD.f (k:Nat) (l0:List Int) (a1:Int):Option (Int):=gD.l0 k l0 a1
theorem gD.calls (k:Nat) (A0:Option Addr) (c0:Nat) (l0:List Int) (a1:Int) (r:Int) (w:World) (Au:Kd.C (Kd.int .i64) w A0 l0.length l0) (Av:l0.length≤c0) (h:gD.f k l0 a1=some r):
  Calls Try.prog 69 #[.slice A0 l0.length c0, .int .i64 a1] w fun e w'=>e= .returned (.int .i64 r)∧Drawn0 w w':=by
 have Ao:=Az.mk Au
 have Ba:=Az.mk Av
 clear Au Av
 have H:(gD.l0 k l0 a1)=some r:=h
 clear h
 have H':=Az.mk H
 clear H
 go_enter Try.func69,Try.ntmps69
 go_wp2
 go_loopg [1] k (fun kq v1 w'=>∃(Ad:Int),v1= .int .i64 Ad∧Az (gD.l0 kq l0 Ad=some r)∧Az (kq≤k)∧Drawn0 w w')
 case atStart=>exact⟨(a1),rq2,H',⟨Nat.le_refl _⟩,kd⟩
 clear H'
 obtain⟨Ad,rfl,HA,HK1,⟨m1,rfl⟩⟩:=hrel
 cases gk with
 |zero=>exact absurd HA.out (by simp[gD.l0])
 |succ k1=>
  have H:=HA.out
  clear HA
  simp only[gD.l0]at H
  by_cases c3:0≤Ad
  rotate_left
  ·rw[ig c3]at H
   exact absurd H (by simp)
  rw[ip c3]at H
  have Ax:=ode c3
  clear c3
  by_cases c4:Ad<(l0.length:Int)
  rotate_left
  ·rw[ig c4]at H
   exact absurd H (by simp)
  rw[ip c4]at H
  have Ay:=ode c4
  clear c4
  by_cases c5:(rd l0 Ad)=Ad
  ·rw[ip c5]at H
   have Ap:=beq_iff_eq.mpr c5
   have Aq:=bne_eq_false_iff_eq.mpr c5
   clear c5
   obtain rfl:=Option.some.inj H
   have Ae:0≤(Ad:Int):=od
   have Af:Ad<(l0.length:Int):=od
   obtain⟨Ah,Ai,Ag⟩:=Kd.at_int Ao.out Ad Ae Af
   cases Ai
   replace Ae:=ets Ae
   replace Af:=ets Af
   go_wp2
   go_ret
   exact⟨rq2,kd⟩
  rw[ig c5]at H
  have Ap:=beq_eq_false_iff_ne.mpr c5
  have Aq:=bne_iff_ne.mpr c5
  have H':=Az.mk H
  clear H
  have Ae:0≤(Ad:Int):=od
  have Af:Ad<(l0.length:Int):=od
  obtain⟨Ah,Ai,Ag⟩:=Kd.at_int Ao.out Ad Ae Af
  cases Ai
  replace Ae:=ets Ae
  replace Af:=ets Af
  have Aj:0≤(Ad:Int):=od
  have Ak:Ad<(l0.length:Int):=od
  obtain⟨Al,As,Am⟩:=Kd.at_int Ao.out Ad Aj Ak
  obtain rfl:Ah=Al:=(by injection As)
  replace Aj:=ets Aj
  replace Ak:=ets Ak
  go_wp2
  go_roundg k1
  case measure=>have:=HK1.out;omega
  case rel=>exact⟨(rd l0 Ad),rq2,H',⟨by have:=HK1.out;omega⟩,kd⟩
def gR.f (a0:Bool):Option (Int):=if a0=true then(some 1) else(some 0)
theorem gR.calls (a0:Bool) (r:Int) (w:World) (h:gR.f a0=some r):
  Calls Try.prog 71 #[.bool a0] w fun e w'=>e= .returned (.int .i64 r)∧Drawn0 w w':=by
 have H:(if a0=true then(some 1) else(some 0))=some r:=h
 clear h
 by_cases c2:a0=true
 ·subst c2
  rw[ip rfl]at H
  obtain rfl:=Option.some.inj H
  go_enter Try.func71,Try.ntmps71
  go_wp2
  go_ret
  exact⟨rq2,kd⟩
 replace c2:=Bool.eq_false_iff.mpr c2
 subst c2
 rw[ig ff]at H
 obtain rfl:=Option.some.inj H
 go_enter Try.func71,Try.ntmps71
 go_wp2
 go_ret
 exact⟨rq2,kd⟩
mutual
def fO.l0:Nat→List (List Int)→List Int→Int→Option (List Int)
 |0,_,_,_=>none
 |k+1,x0,x3,x4=>if x4≤(wrap64 ((wrap64 (3*(x0.length:Int)))+1)) then(if x3.length<17592186044416 then(fO.l0 k x0 (x3 ++ [x4]) (wrap64 (x4+1))) else(none)) else(fO.l1 k x0 x3 0)
def fO.l1:Nat→List (List Int)→List Int→Int→Option (List Int)
 |0,_,_,_=>none
 |k+1,x0,x3,x5=>if x5<(x0.length:Int) then(fO.l2 k x0 x3 x5 0) else(some x3)
def fO.l2:Nat→List (List Int)→List Int→Int→Int→Option (List Int)
 |0,_,_,_,_=>none
 |k+1,x0,x3,x5,x6=>if x6<3 then(if 0≤x5 then(if x5<(x0.length:Int) then(if 0≤x6 then(if x6<((rd_L1 x0 x5).length:Int) then(if 0≤(Int.tmod (wrap64 (x6+1)) 3) then(if(Int.tmod (wrap64 (x6+1)) 3)<((rd_L1 x0 x5).length:Int) then((gB.f (rd (rd_L1 x0 x5) x6)).bind fun t140=>((gR.f (decide ((rd (rd_L1 x0 x5) x6)>0))).bind fun t141=>((gD.f k x3 (wrap64 ((wrap64 (2*t140))+t141))).bind fun t142=>((gB.f (rd (rd_L1 x0 x5) (Int.tmod (wrap64 (x6+1)) 3))).bind fun t143=>((gR.f (decide ((rd (rd_L1 x0 x5) (Int.tmod (wrap64 (x6+1)) 3))<0))).bind fun t144=>((gD.f k x3 (wrap64 ((wrap64 (2*t143))+t144))).bind fun t145=>(if 0≤t142 then(if t142<(x3.length:Int) then(fO.l2 k x0 (x3.set (t142:Int).toNat t145) x5 (wrap64 (x6+1))) else(none)) else(none)))))))) else(none)) else(none)) else(none)) else(none)) else(none)) else(none)) else(fO.l1 k x0 x3 (wrap64 (x5+1)))
end
def fO.f (k:Nat) (l0:List (List Int)):Option (List Int):=fO.l0 k l0 (([]:List Int)) 0
theorem fO.calls (k:Nat) (A0:Option Addr) (c0:Nat) (l0:List (List Int)) (r:List Int) (w:World) (Dl:Kd.C (Kd.slice 3 (Kd.int .i64)) w A0 l0.length l0) (Dm:l0.length≤c0) (h:fO.f k l0=some r):
  Calls Try.prog 68 #[.slice A0 l0.length c0] w fun e w'=>∃v0_:Value,e= .returned (v0_)∧Kd.R (Kd.int .i64) 3 w' w.heap.size (fun _=>True) v0_ r∧Below w.heap.size w w':=by
 have Dn:=Az.mk Dl
 have Ej:=Az.mk Dm
 clear Dl Dm
 have HB:=Az.mk (Below.refl w.heap.size w)
 have H:(fO.l0 k l0 (([]:List Int)) 0)=some r:=h
 clear h
 obtain⟨Ca,hy⟩:∃y_:List Int,y_=(([]:List Int)):=⟨_,rfl⟩
 replace H:(fO.l0 k l0 Ca 0)=some r:=rh
 have Bn:=Az.mk hy
 clear hy
 have H':=Az.mk H
 clear H
 go_enter Try.func68,Try.ntmps68
 go_wp2_with (first|((with_reducible refine gtD (N:=11) rfl ?_);refine Kd.R_lit (Kd.int .i64) _ 3 ?hg (N:=11) ?hd (xs:=([]:List Int)) (inner:=[]) (ok:=fun _=>True) (okp:=fun _=>True) ?hr ?hp (fun _ hk=>hk) trivial (Below.refl _ _) (Nat.le_refl _) (by simp) ?_;(case hd=>rfl);(case hg=>rfl);(case hr=>first|(go_simp;done)|(go_simp;rfl));(case hp=>exact(Reps.none _ _));intro Dx w2 Cb hb hg_ hnew_;clear hg_ hnew_;(first|rw[←Bn.out]at Cb|(simp only[Int.reduceToNat]at Cb;rw[←Bn.out]at Cb));have Cc:=Az.mk (Kd.R_lower Cb (bwZ bw_5));replace HB:=Az.mk (bwT bw_5 hb);clear hb Cb))
 go_loopg [3,4] k (fun kq v3 v4 w'=>∃(Am:List Int) (Aj:Int),v4= .int .i64 Aj∧Az (fO.l0 kq l0 Am Aj=some r)∧Az (kq≤k)∧Az (Kd.R (Kd.int .i64) 3 w' w.heap.size (fun _=>True) v3 Am)∧Az (Below w.heap.size w w'))
 case atStart=>exact⟨(Ca),(0),rq2,H',⟨Nat.le_refl _⟩,⟨kR Cc.out⟩,⟨bw_5⟩⟩
 clear H'
 obtain⟨Am,Aj,rfl,HA,HK1,Ad,HB⟩:=hrel
 cases gk with
 |zero=>exact absurd HA.out (by simp[fO.l0])
 |succ k1=>
  have H:=HA.out
  clear HA
  simp only[fO.l0]at H
  by_cases c4:Aj≤(wrap64 ((wrap64 (3*(l0.length:Int)))+1))
  ·rw[ip c4]at H
   have Bo:=ode c4
   clear c4
   by_cases c5:Am.length<17592186044416
   rotate_left
   ·rw[ig c5]at H
    exact absurd H (by simp)
   rw[ip c5]at H
   have LMc5:=Az.mk c5
   clear c5
   obtain⟨Cd,hy⟩:∃y_:List Int,y_=(Am ++ [Aj]):=⟨_,rfl⟩
   replace H:(fO.l0 k1 l0 Cd (wrap64 (Aj+1)))=some r:=rh
   have Ce:=Az.mk hy
   clear hy
   have H':=Az.mk H
   clear H
   go_wp2_with (first|((with_reducible refine gate_builtin (b:= .append) (xs:= #[.tmp 20, .tmp 22]) rfl ?_);at_builtin;refine Kd.R_append (Kd.int .i64) (w0:=w) w.heap.size rfl (.tmp 20) (.tmp 22) 25 3 (.int .i64 0) 8 rfl Try.underlying25 info3 rfl (by decide) (by omega) u3 Am Aj [.int .i64 Aj] (fun _=>True) (fun _=>False) rfl rfl ?aP (fun _ hk=>hk.elim) ?aF ?aO ?aB ?aS ?aL ?_;(case aP=>exact rfl);(case aB=>exact bw_5);(case aF=>exact(fun _ _=>trivial));(case aO=>exact(kR Ad.out));(case aS=>exact(bwZ bw_5));(case aL=>have:=LMc5.out;omega);intro Dy w6 ho hb hg hat;rw[←Ce.out]at ho;have n0_:=Az.mk (hb);have n1_:=Az.mk (ho);clear HB;clear Ad;have HB:=n0_;have Cf:=n1_;clear n0_ n1_;clear ho hb hg hat))
   go_roundg k1
   case measure=>have:=HK1.out;omega
   case rel=>exact⟨(Cd),(wrap64 (Aj+1)),rq2,H',⟨by have:=HK1.out;omega⟩,⟨kR Cf.out⟩,⟨bw_5⟩⟩
  rw[ig c4]at H
  have Bo:=decide_eq_false c4
  clear c4
  have H':=Az.mk H
  clear H
  go_wp2
  go_loopg [5] k1 (fun kq v5 w'=>∃(Bk:List Int) (Ae:Int),v5= .int .i64 Ae∧Az (fO.l1 kq l0 Bk Ae=some r)∧Az (kq≤k1)∧Az (Kd.R (Kd.int .i64) 3 w' w.heap.size (fun _=>True) u3 Bk)∧Az (Below w.heap.size w w'))
  case atStart=>exact⟨(Am),(0),rq2,H',⟨Nat.le_refl _⟩,⟨kR Ad.out⟩,⟨bw_5⟩⟩
  clear H'
  try clear c4
  try clear Bo
  try clear c5
  obtain⟨Bk,Ae,rfl,HA,HK2,Ad,HB⟩:=hrel
  cases gk with
  |zero=>exact absurd HA.out (by simp[fO.l1])
  |succ k2=>
   have H:=HA.out
   clear HA
   simp only[fO.l1]at H
   by_cases c7:Ae<(l0.length:Int)
   rotate_left
   ·rw[ig c7]at H
    have Cg:=decide_eq_false c7
    clear c7
    obtain rfl:=Option.some.inj H
    go_wp2
    go_ret
    exact⟨_,rq1,kR Ad.out,bw_5⟩
   rw[ip c7]at H
   have Cg:=ode c7
   clear c7
   have H':=Az.mk H
   clear H
   go_wp2
   go_loopg [6] k2 (fun kq v6 w'=>∃(Af:List Int) (Ag:Int),v6= .int .i64 Ag∧Az (fO.l2 kq l0 Af Ae Ag=some r)∧Az (kq≤k2)∧Az (Kd.R (Kd.int .i64) 3 w' w.heap.size (fun _=>True) u3 Af)∧Az (Below w.heap.size w w'))
   case atStart=>exact⟨(Bk),(0),rq2,H',⟨Nat.le_refl _⟩,⟨kR Ad.out⟩,⟨bw_5⟩⟩
   clear H'
   try clear c4
   try clear Bo
   try clear c5
   try clear c7
   try clear Cg
   obtain⟨Af,Ag,rfl,HA,HK3,Ad,HB⟩:=hrel
   cases gk with
   |zero=>exact absurd HA.out (by simp[fO.l2])
   |succ k3=>
    have H:=HA.out
    clear HA
    simp only[fO.l2]at H
    by_cases c8:Ag<3
    rotate_left
    ·rw[ig c8]at H
     have Cv:=decide_eq_false c8
     clear c8
     have H':=Az.mk H
     clear H
     go_wp2
     go_roundg k3
     case measure=>have:=HK1.out;have:=HK2.out;have:=HK3.out;omega
     case rel=>exact⟨(Af),(wrap64 (Ae+1)),rq2,H',⟨by have:=HK1.out;have:=HK2.out;have:=HK3.out;omega⟩,⟨kR Ad.out⟩,⟨bw_5⟩⟩
    rw[ip c8]at H
    have Cv:=ode c8
    clear c8
    by_cases c9:0≤Ae
    rotate_left
    ·rw[ig c9]at H
     exact absurd H (by simp)
    rw[ip c9]at H
    have Dz:=ode c9
    clear c9
    by_cases Cm:Ae<(l0.length:Int)
    rotate_left
    ·rw[ig Cm]at H
     exact absurd H (by simp)
    rw[ip Cm]at H
    have Do:=ode Cm
    clear Cm
    by_cases Cn:0≤Ag
    rotate_left
    ·rw[ig Cn]at H
     exact absurd H (by simp)
    rw[ip Cn]at H
    have Dp:=ode Cn
    clear Cn
    by_cases Co:Ag<((rd_L1 l0 Ae).length:Int)
    rotate_left
    ·rw[ig Co]at H
     exact absurd H (by simp)
    rw[ip Co]at H
    have Dq:=ode Co
    clear Co
    obtain⟨Ai,Ap⟩:∃j_:Int,(Int.tmod (wrap64 (Ag+1)) 3)=j_:=⟨_,rfl⟩
    replace H:(if 0≤(Ai) then(if(Ai)<((rd_L1 l0 Ae).length:Int) then((gB.f (rd (rd_L1 l0 Ae) Ag)).bind fun Bc=>((gR.f (decide ((rd (rd_L1 l0 Ae) Ag)>0))).bind fun Bd=>((gD.f k3 Af (wrap64 ((wrap64 (2*Bc))+Bd))).bind fun Ah=>((gB.f (rd (rd_L1 l0 Ae) (Ai))).bind fun Bf=>((gR.f (decide ((rd (rd_L1 l0 Ae) (Ai))<0))).bind fun Bh=>((gD.f k3 Af (wrap64 ((wrap64 (2*Bf))+Bh))).bind fun Ba=>(if 0≤Ah then(if Ah<(Af.length:Int) then(fO.l2 k3 l0 (Af.set (Ah:Int).toNat Ba) Ae (wrap64 (Ag+1))) else(none)) else(none)))))))) else(none)) else(none))=some r:=by first|(rw[Ap]at H;exact H)|(simp only[Ap]at H ⊢;exact H)
    by_cases Cp:0≤(Ai)
    rotate_left
    ·rw[ig Cp]at H
     exact absurd H (by simp)
    rw[ip Cp]at H
    have Dr:=ode Cp
    clear Cp
    by_cases Cq:(Ai)<((rd_L1 l0 Ae).length:Int)
    rotate_left
    ·rw[ig Cq]at H
     exact absurd H (by simp)
    rw[ip Cq]at H
    have Ds:=ode Cq
    clear Cq
    replace H:=bez H
    obtain⟨Bc,Ea,H⟩:=H
    try dsimp only at H
    replace H:=bez H
    obtain⟨Bd,Eb,H⟩:=H
    try dsimp only at H
    replace H:=bez H
    obtain⟨Ah,Ec,H⟩:=H
    try dsimp only at H
    replace H:=bez H
    obtain⟨Bf,Ed,H⟩:=H
    try dsimp only at H
    replace H:=bez H
    obtain⟨Bh,Ee,H⟩:=H
    try dsimp only at H
    replace H:=bez H
    obtain⟨Ba,Ef,H⟩:=H
    try dsimp only at H
    by_cases Cr:0≤Ah
    rotate_left
    ·rw[ig Cr]at H
     exact absurd H (by simp)
    rw[ip Cr]at H
    have Dt:=ode Cr
    clear Cr
    by_cases Cs:Ah<(Af.length:Int)
    rotate_left
    ·rw[ig Cs]at H
     exact absurd H (by simp)
    rw[ip Cs]at H
    have Du:=ode Cs
    clear Cs
    obtain⟨Bp,hy⟩:∃y_:List Int,y_=(Af.set (Ah:Int).toNat Ba):=⟨_,rfl⟩
    replace H:(fO.l2 k3 l0 Bp Ae (wrap64 (Ag+1)))=some r:=rh
    have Ch:=Az.mk hy
    clear hy
    have H':=Az.mk H
    clear H
    have Bq:0≤(Ae:Int):=od
    have Br:Ae<(l0.length:Int):=od
    obtain⟨Ci,Cw,Cx,Cy,Ak,Aq,As⟩:=at_L1 Dn.out Ae Bq Br
    cases Cy
    replace Ak:=kc HB Ak
    have Bl:=Az.mk As
    have Ct:=Az.mk Aq
    clear As Aq
    replace Bq:=ets Bq
    replace Br:=ets Br
    have Bs:0≤(Ag:Int):=od
    have Bt:Ag<((rd_L1 l0 Ae).length:Int):=od
    obtain⟨Dv,Cz,Au⟩:=Kd.at_int Bl.out Ag Bs Bt
    cases Cz
    replace Au:=kc HB Au
    replace Bs:=ets Bs
    replace Bt:=ets Bt
    have Bu:0≤(Ae:Int):=od
    have Bv:Ae<(l0.length:Int):=od
    obtain⟨Cj,Da,Db,Dc,Al,Av,Ax⟩:=at_L1 Dn.out Ae Bu Bv
    obtain rfl:Ci=Cj:=(by injection Dc)
    replace Al:=kc HB Al
    have Bm:=Az.mk Ax
    have Cu:=Az.mk Av
    clear Ax Av
    replace Bu:=ets Bu
    replace Bv:=ets Bv
    have ea_:=Option.some.inj (Ak.symm.trans Al)
    injection ea_ with ea_ en_ ec_
    subst ea_
    subst ec_
    clear en_
    have Bw:0≤((Ai):Int):=od
    have Bx:(Ai)<((rd_L1 l0 Ae).length:Int):=od
    obtain⟨Dw,Dd,Ay⟩:=Kd.at_int Bm.out (Ai) Bw Bx
    cases Dd
    replace Ay:=kc HB Ay
    replace Bw:=ets Bw
    replace Bx:=ets Bx
    go_wp2_with (first|((with_reducible refine gtC (f:=70) rfl ?_);refine clz Try.func70 (some 52) #[.int .i64 (rd (rd_L1 l0 Ae) Ag)] ?_;(with_reducible refine(gB.calls (rd (rd_L1 l0 Ae) Ag) Bc _ Ea.out).mono ?_);rintro e w' ⟨rfl,⟨nd,rfl⟩⟩;refine⟨_,rfl,?_⟩;(try(rw[drewN_self wr];generalize hq_:World.drewN wr _=wr;have n0_:Az (Kd.R (Kd.int .i64) 3 wr w.heap.size (fun _=>True) u3 Af):=⟨by rw[←hq_];exact(kR Ad.out)⟩;have n1_:Az (Below w.heap.size w wr):=⟨by rw[←hq_];exact bw_5⟩;clear Ad HB hq_;have Ad:=n0_;have HB:=n1_;clear n0_ n1_)))|((with_reducible refine gtC (f:=71) rfl ?_);refine clz Try.func71 (some 56) #[.bool (decide ((rd (rd_L1 l0 Ae) Ag)>0))] ?_;(with_reducible refine(gR.calls (decide ((rd (rd_L1 l0 Ae) Ag)>0)) Bd _ Eb.out).mono ?_);rintro e w' ⟨rfl,⟨nd,rfl⟩⟩;refine⟨_,rfl,?_⟩;(try(rw[drewN_self wr];generalize hq_:World.drewN wr _=wr;have n0_:Az (Kd.R (Kd.int .i64) 3 wr w.heap.size (fun _=>True) u3 Af):=⟨by rw[←hq_];exact(kR Ad.out)⟩;have n1_:Az (Below w.heap.size w wr):=⟨by rw[←hq_];exact bw_5⟩;clear Ad HB hq_;have Ad:=n0_;have HB:=n1_;clear n0_ n1_));obtain⟨Bb,Ao,De⟩:=Kd.R_slice Ad.out;subst De)|((with_reducible refine gtC (f:=69) rfl ?_);refine clz Try.func69 (some 58) #[.slice Bb Af.length Ao, .int .i64 (wrap64 ((wrap64 (2*Bc))+Bd))] ?_;(with_reducible refine(gD.calls k3 _ _ Af (wrap64 ((wrap64 (2*Bc))+Bd)) Ah _ ?Bi ?Bj Ec.out).mono ?_);(case Bi=>exact kC (Kd.R_reads' Ad.out).2.2);(case Bj=>exact(Kd.R_reads' Ad.out).2.1);rintro e w' ⟨rfl,⟨nd,rfl⟩⟩;refine⟨_,rfl,?_⟩;(try(rw[drewN_self wr];generalize hq_:World.drewN wr _=wr;have n0_:Az (Kd.R (Kd.int .i64) 3 wr w.heap.size (fun _=>True) (.slice Bb Af.length Ao) Af):=⟨by rw[←hq_];exact(kR Ad.out)⟩;have n1_:Az (Below w.heap.size w wr):=⟨by rw[←hq_];exact bw_5⟩;clear Ad HB hq_;have Ad:=n0_;have HB:=n1_;clear n0_ n1_)))|((with_reducible refine gtC (f:=70) rfl ?_);refine goesL_ (some 61) rfl rfl Try.func70 (by kernel_rfl) rfl #[.int .i64 (rd (rd_L1 l0 Ae) (Ai))] rfl (by(try simp only[List.map_toArray,List.map_cons,List.map_nil]);first|done|(simp only[Ap];rfl)|rfl|(simp only[List.length_drop,List.length_take];rfl)) ?_;(with_reducible refine(gB.calls (rd (rd_L1 l0 Ae) (Ai)) Bf _ Ed.out).mono ?_);rintro e w' ⟨rfl,⟨nd,rfl⟩⟩;refine⟨_,rfl,?_⟩;(try(rw[drewN_self wr];generalize hq_:World.drewN wr _=wr;have n0_:Az (Kd.R (Kd.int .i64) 3 wr w.heap.size (fun _=>True) (.slice Bb Af.length Ao) Af):=⟨by rw[←hq_];exact(kR Ad.out)⟩;have n1_:Az (Below w.heap.size w wr):=⟨by rw[←hq_];exact bw_5⟩;clear Ad HB hq_;have Ad:=n0_;have HB:=n1_;clear n0_ n1_)))|((with_reducible refine gtC (f:=71) rfl ?_);refine goesL_ (some 65) rfl rfl Try.func71 (by kernel_rfl) rfl #[.bool (decide ((rd (rd_L1 l0 Ae) (Ai))<0))] rfl (by(try simp only[List.map_toArray,List.map_cons,List.map_nil]);first|done|(simp only[Ap];rfl)|rfl|(simp only[List.length_drop,List.length_take];rfl)) ?_;(with_reducible refine(gR.calls (decide ((rd (rd_L1 l0 Ae) (Ai))<0)) Bh _ Ee.out).mono ?_);rintro e w' ⟨rfl,⟨nd,rfl⟩⟩;refine⟨_,rfl,?_⟩;(try(rw[drewN_self wr];generalize hq_:World.drewN wr _=wr;have n0_:Az (Kd.R (Kd.int .i64) 3 wr w.heap.size (fun _=>True) (.slice Bb Af.length Ao) Af):=⟨by rw[←hq_];exact(kR Ad.out)⟩;have n1_:Az (Below w.heap.size w wr):=⟨by rw[←hq_];exact bw_5⟩;clear Ad HB hq_;have Ad:=n0_;have HB:=n1_;clear n0_ n1_)))|((with_reducible refine gtC (f:=69) rfl ?_);refine clz Try.func69 (some 67) #[.slice Bb Af.length Ao, .int .i64 (wrap64 ((wrap64 (2*Bf))+Bh))] ?_;(with_reducible refine(gD.calls k3 _ _ Af (wrap64 ((wrap64 (2*Bf))+Bh)) Ba _ ?Bi ?Bj Ef.out).mono ?_);(case Bi=>exact kC (Kd.R_reads' Ad.out).2.2);(case Bj=>exact(Kd.R_reads' Ad.out).2.1);rintro e w' ⟨rfl,⟨nd,rfl⟩⟩;refine⟨_,rfl,?_⟩;(try(rw[drewN_self wr];generalize hq_:World.drewN wr _=wr;have n0_:Az (Kd.R (Kd.int .i64) 3 wr w.heap.size (fun _=>True) (.slice Bb Af.length Ao) Af):=⟨by rw[←hq_];exact(kR Ad.out)⟩;have n1_:Az (Below w.heap.size w wr):=⟨by rw[←hq_];exact bw_5⟩;clear Ad HB hq_;have Ad:=n0_;have HB:=n1_;clear n0_ n1_));have Df:0≤(Ah:Int):=od;have Dg:(Ah:Int)<((Af.length:Int):Int):=od;obtain⟨By,Eg,Ck,Cl,gl24,Eh,HG24⟩:=Kd.R_form Ad.out (by omega);(first|cases Ck|(injection Ck with ea_ en_ ec_;(first|subst ea_|(injection ea_ with ea_;subst ea_));subst ec_;clear en_));have Dh:=Az.mk Cl;have Ei:=Az.mk HG24;clear Cl gl24 HG24;obtain⟨Di,Dj⟩:=Kd.R_celln 0 Ad.out (Ah:Int) Df Dg;replace Df:=ets Df;replace Dg:=ets Dg;obtain⟨hy26_,hz26_⟩:=Kd.R_celln 0 Ad.out (Ah:Int) (od) (od);have Bz:=Kd.R_putg Ad.out (Ah:Int) Ba)|((with_reducible refine gate_store (t:=3) (p:=71) rfl ?_);refine store_event (t:=3) (p:=71) (v:=?vo_w27) (w1:=(wr.setCell ⟨By,(Ah:Int).toNat,none⟩ (.int .i64 Ba))) ?hg ?ho ?hn ?hr ?_;(case ho=>rfl);(case hg=>rfl);(case hn=>rfl);(case hr=>first|(go_simp;done)|(go_simp;rfl));intro Dk hw;have hg:wr.grownBy Dk (some By):=(by rw[hw];exact Bz.2);have hp_:Kd.R (Kd.int .i64) 3 Dk w.heap.size (fun _=>True) (.slice (some ⟨By,0,none⟩) Af.length Ao) Bp:=(by rw[hw,Ch.out];exact Bz.1);clear Bz;replace Ad:=Az.mk (hp_);replace HB:=Az.mk ((by rw[hw];exact bwS (HB.out) Dh.out:Below w.heap.size w Dk));clear hg hw hp_))
    go_roundg k3
    case measure=>have:=HK1.out;have:=HK2.out;have:=HK3.out;omega
    case rel=>exact⟨(Bp),(wrap64 (Ag+1)),rq2,H',⟨by have:=HK1.out;have:=HK2.out;have:=HK3.out;omega⟩,⟨kR Ad.out⟩,⟨bw_5⟩⟩
theorem bw_6 {n:Nat}{v v':World} (h:Below n v v':=by repeat(first|(with_reducible first|exact HB.out|apply bwA|apply pbN|apply bwD)|exact HB.out)):Below n v v':=h
theorem ln_6 {P:Prop} (h:P:=by(try simp only[List.map_toArray,List.map_cons,List.map_nil]);first|done|rfl|(simp only[List.length_drop,List.length_take];rfl)):P:=h
def gL.l0:Nat→List (List Int)→List Int→Int→List Int→Int→Option (List Int)
 |0,_,_,_,_,_=>none
 |k+1,x0,x7,x9,x10,x11=>if x11≤(wrap64 (Int.tdiv (wrap64 (3*(x0.length:Int))) 2)) then((gD.f k x7 (wrap64 (2*x11))).bind fun t158=>((gR.f (t158== x9)).bind fun t159=>((gD.f k x7 (wrap64 ((wrap64 (2*x11))+1))).bind fun t160=>((gR.f (t160== x9)).bind fun t161=>(if x10.length<17592186044416 then(gL.l0 k x0 x7 x9 (x10 ++ [wrap64 (t159+t161)]) (wrap64 (x11+1))) else(none)))))) else(some x10)
def gL.f (k:Nat) (l0:List (List Int)) (a1:Int) (a2:Int):Option (List Int):=(fO.f k l0).bind fun t147=>(if 0≤a1 then(if a1<(l0.length:Int) then(if 0≤a2 then(if a2<((rd_L1 l0 a1).length:Int) then((gB.f (rd (rd_L1 l0 a1) a2)).bind fun t152=>((gR.f (decide ((rd (rd_L1 l0 a1) a2)>0))).bind fun t153=>((gD.f k t147 (wrap64 ((wrap64 (2*t152))+t153))).bind fun t154=>(gL.l0 k l0 t147 t154 (([]:List Int)) 1)))) else(none)) else(none)) else(none)) else(none))
theorem gL.calls (k:Nat) (A0:Option Addr) (c0:Nat) (l0:List (List Int)) (a1:Int) (a2:Int) (r:List Int) (w:World) (Ce:Kd.C (Kd.slice 3 (Kd.int .i64)) w A0 l0.length l0) (Cf:l0.length≤c0) (h:gL.f k l0 a1 a2=some r):
  Calls Try.prog 40 #[.slice A0 l0.length c0, .int .i64 a1, .int .i64 a2] w fun e w'=>∃v0_:Value,e= .returned (v0_)∧Kd.R (Kd.int .i64) 3 w' w.heap.size (fun _=>True) v0_ r∧Below w.heap.size w w':=by
 have Cg:=Az.mk Ce
 have Cl:=Az.mk Cf
 clear Ce Cf
 have HB:=Az.mk (Below.refl w.heap.size w)
 have H:((fO.f k l0).bind fun Ad=>(if 0≤a1 then(if a1<(l0.length:Int) then(if 0≤a2 then(if a2<((rd_L1 l0 a1).length:Int) then((gB.f (rd (rd_L1 l0 a1) a2)).bind fun Av=>((gR.f (decide ((rd (rd_L1 l0 a1) a2)>0))).bind fun Ax=>((gD.f k Ad (wrap64 ((wrap64 (2*Av))+Ax))).bind fun Ai=>(gL.l0 k l0 Ad Ai (([]:List Int)) 1)))) else(none)) else(none)) else(none)) else(none)))=some r:=h
 clear h
 replace H:=bez H
 obtain⟨Ad,A4,H⟩:=H
 try dsimp only at H
 by_cases c5:0≤a1
 rotate_left
 ·rw[ig c5]at H
  exact absurd H (by simp)
 rw[ip c5]at H
 have Bv:=ode c5
 clear c5
 by_cases c6:a1<(l0.length:Int)
 rotate_left
 ·rw[ig c6]at H
  exact absurd H (by simp)
 rw[ip c6]at H
 have Bw:=ode c6
 clear c6
 by_cases c7:0≤a2
 rotate_left
 ·rw[ig c7]at H
  exact absurd H (by simp)
 rw[ip c7]at H
 have Bx:=ode c7
 clear c7
 by_cases c8:a2<((rd_L1 l0 a1).length:Int)
 rotate_left
 ·rw[ig c8]at H
  exact absurd H (by simp)
 rw[ip c8]at H
 have By:=ode c8
 clear c8
 replace H:=bez H
 obtain⟨Av,A9,H⟩:=H
 try dsimp only at H
 replace H:=bez H
 obtain⟨Ax,Cm,H⟩:=H
 try dsimp only at H
 replace H:=bez H
 obtain⟨Ai,Cn,H⟩:=H
 try dsimp only at H
 obtain⟨Bn,hy⟩:∃y_:List Int,y_=(([]:List Int)):=⟨_,rfl⟩
 replace H:(gL.l0 k l0 Ad Ai Bn 1)=some r:=rh
 have Bj:=Az.mk hy
 clear hy
 have H':=Az.mk H
 clear H
 go_enter Try.func40,Try.ntmps40
 go_wp2_with (first|((with_reducible refine gtC (f:=68) rfl ?_);refine clz Try.func68 (some 13) #[.slice A0 l0.length c0] ?_;(with_reducible refine(fO.calls k _ _ l0 Ad _ ?Af ?Ag A4.out).mono ?_);(case Af=>exact kC Cg.out);(case Ag=>exact Cl.out);rintro e Cw ⟨Co,rfl,Ch,hb⟩;refine⟨_,rfl,?_⟩;have Ah:=Az.mk (Kd.R_lower Ch (bwZ bw_6));replace HB:=Az.mk (bwT bw_6 hb);(try clear hb);(try clear Ch);have Ba:0≤(a1:Int):=od;have Bb:a1<(l0.length:Int):=od;obtain⟨Ci,Bz,Ca,Cb,Ak,Ao,Ap⟩:=at_L1 Cg.out a1 Ba Bb;cases Cb;replace Ak:=kc HB Ak;have Bc:=Az.mk Ap;have Bt:=Az.mk Ao;clear Ap Ao;replace Ba:=ets Ba;replace Bb:=ets Bb;have Bd:0≤(a2:Int):=od;have Bf:a2<((rd_L1 l0 a1).length:Int):=od;obtain⟨Cj,Cc,Al⟩:=Kd.at_int Bc.out a2 Bd Bf;cases Cc;replace Al:=kc HB Al;replace Bd:=ets Bd;replace Bf:=ets Bf)|((with_reducible refine gtC (f:=70) rfl ?_);refine clz Try.func70 (some 23) #[.int .i64 (rd (rd_L1 l0 a1) a2)] ?_;(with_reducible refine(gB.calls (rd (rd_L1 l0 a1) a2) Av _ A9.out).mono ?_);rintro e w' ⟨rfl,⟨nd,rfl⟩⟩;refine⟨_,rfl,?_⟩)|((with_reducible refine gtC (f:=71) rfl ?_);refine clz Try.func71 (some 27) #[.bool (decide ((rd (rd_L1 l0 a1) a2)>0))] ?_;(with_reducible refine(gR.calls (decide ((rd (rd_L1 l0 a1) a2)>0)) Ax _ Cm.out).mono ?_);rintro e w' ⟨rfl,⟨nd,rfl⟩⟩;refine⟨_,rfl,?_⟩;obtain⟨Aq,As,Cd⟩:=Kd.R_slice Ah.out;subst Cd)|((with_reducible refine gtC (f:=69) rfl ?_);refine clz Try.func69 (some 29) #[.slice Aq Ad.length As, .int .i64 (wrap64 ((wrap64 (2*Av))+Ax))] ?_;(with_reducible refine(gD.calls k _ _ Ad (wrap64 ((wrap64 (2*Av))+Ax)) Ai _ ?Af ?Ag Cn.out).mono ?_);(case Af=>exact kC (Kd.R_reads' Ah.out).2.2);(case Ag=>exact(Kd.R_reads' Ah.out).2.1);rintro e w' ⟨rfl,⟨nd,rfl⟩⟩;refine⟨_,rfl,?_⟩)|((with_reducible refine gtD (N:=30) rfl ?_);refine Kd.R_lit (Kd.int .i64) _ 3 ?hg (N:=30) ?hd (xs:=([]:List Int)) (inner:=[]) (ok:=fun _=>True) (okp:=fun _=>True) ?hr ?hp (fun _ hk=>hk) trivial (Below.refl _ _) (Nat.le_refl _) (by simp) ?_;(case hd=>rfl);(case hg=>rfl);(case hr=>first|(go_simp;done)|(go_simp;rfl));(case hp=>exact(Reps.none _ _));intro Cp Cx Au hb hg_ hnew_;clear hg_ hnew_;(first|rw[←Bj.out]at Au|(simp only[Int.reduceToNat]at Au;rw[←Bj.out]at Au));have Bo:=Az.mk (Kd.R_lower (Kd.R_new' Au (Kd.R_lt (kR Ah.out))) (bwZ bw_6));replace Ah:=Az.mk (Kd.R_elder' (kR Ah.out) (Kd.R_base Au) hb);replace HB:=Az.mk (bwT bw_6 hb);clear hb Au))
 go_loopg [10,11] k (fun kq Ck Cq w'=>∃(Aj:List Int) (Ae:Int),Cq= .int .i64 Ae∧Az (gL.l0 kq l0 Ad Ai Aj Ae=some r)∧Az (kq≤k)∧Az (Kd.R (Kd.int .i64) 3 w' w.heap.size (fun k_=>some k_≠(Ck:Value).ownBlock) (.slice Aq Ad.length As) Ad)∧Az (Kd.R (Kd.int .i64) 3 w' w.heap.size (fun k_=>some k_≠((.slice Aq Ad.length As):Value).ownBlock) Ck Aj)∧Az (Below w.heap.size w w'))
 case atStart=>exact⟨(Bn),(1),rq2,H',⟨Nat.le_refl _⟩,⟨by(with_reducible repeat(first|apply Kd.R_alloc|apply Kd.R_drewN|apply Kd.R_drew));exact Kd.R_mono Ah.out (fun _ hk=>hk.2)⟩,⟨by(with_reducible repeat(first|apply Kd.R_alloc|apply Kd.R_drewN|apply Kd.R_drew));exact Kd.R_mono Bo.out (fun _ hk=>hk.2)⟩,⟨bw_6⟩⟩
 clear H'
 try clear c5
 try clear Bv
 try clear c6
 try clear Bw
 try clear c7
 try clear Bx
 try clear c8
 try clear By
 try clear Ak
 try clear Al
 try clear Ba
 try clear Bd
 try clear Bb
 try clear Bf
 obtain⟨Aj,Ae,rfl,HA,HK1,Am,Ay,HB⟩:=hrel
 cases gk with
 |zero=>exact absurd HA.out (by simp[gL.l0])
 |succ k1=>
  have H:=HA.out
  clear HA
  simp only[gL.l0]at H
  by_cases Bm:Ae≤(wrap64 (Int.tdiv (wrap64 (3*(l0.length:Int))) 2))
  rotate_left
  ·rw[ig Bm]at H
   have Bp:=decide_eq_false Bm
   clear Bm
   obtain rfl:=Option.some.inj H
   go_wp2
   go_ret
   exact⟨_,rq1,by(with_reducible repeat(first|apply Kd.R_alloc|apply Kd.R_drewN|apply Kd.R_drew));exact Kd.R_mono Ay.out (fun _ hk=>trivial),bw_6⟩
  rw[ip Bm]at H
  have Bp:=ode Bm
  clear Bm
  replace H:=bez H
  obtain⟨Bk,Cr,H⟩:=H
  try dsimp only at H
  replace H:=bez H
  obtain⟨Bh,Cs,H⟩:=H
  try dsimp only at H
  replace H:=bez H
  obtain⟨Bl,Ct,H⟩:=H
  try dsimp only at H
  replace H:=bez H
  obtain⟨Bi,Cu,H⟩:=H
  try dsimp only at H
  by_cases Bu:Aj.length<17592186044416
  rotate_left
  ·rw[ig Bu]at H
   exact absurd H (by simp)
  rw[ip Bu]at H
  have LMc21:=Az.mk Bu
  clear Bu
  obtain⟨Bq,hy⟩:∃y_:List Int,y_=(Aj ++ [wrap64 (Bh+Bi)]):=⟨_,rfl⟩
  replace H:(gL.l0 k1 l0 Ad Ai Bq (wrap64 (Ae+1)))=some r:=rh
  have Br:=Az.mk hy
  clear hy
  have H':=Az.mk H
  clear H
  go_wp2_with (first|((with_reducible refine gtC (f:=69) rfl ?_);refine clz Try.func69 (some 43) #[.slice Aq Ad.length As, .int .i64 (wrap64 (2*Ae))] ?_;(with_reducible refine(gD.calls k1 _ _ Ad (wrap64 (2*Ae)) Bk _ ?Af ?Ag Cr.out).mono ?_);(case Af=>exact kC (Kd.R_reads' Am.out).2.2);(case Ag=>exact(Kd.R_reads' Am.out).2.1);rintro e w' ⟨rfl,⟨nd,rfl⟩⟩;refine⟨_,rfl,?_⟩)|((with_reducible refine gtC (f:=71) rfl ?_);refine clz Try.func71 (some 46) #[.bool (Bk== Ai)] ?_;(with_reducible refine(gR.calls (Bk== Ai) Bh _ Cs.out).mono ?_);rintro e w' ⟨rfl,⟨nd,rfl⟩⟩;refine⟨_,rfl,?_⟩)|((with_reducible refine gtC (f:=69) rfl ?_);refine clz Try.func69 (some 51) #[.slice Aq Ad.length As, .int .i64 (wrap64 ((wrap64 (2*Ae))+1))] ?_;(with_reducible refine(gD.calls k1 _ _ Ad (wrap64 ((wrap64 (2*Ae))+1)) Bl _ ?Af ?Ag Ct.out).mono ?_);(case Af=>exact kC (Kd.R_reads' Am.out).2.2);(case Ag=>exact(Kd.R_reads' Am.out).2.1);rintro e w' ⟨rfl,⟨nd,rfl⟩⟩;refine⟨_,rfl,?_⟩)|((with_reducible refine gtC (f:=71) rfl ?_);refine clz Try.func71 (some 54) #[.bool (Bl== Ai)] ?_;(with_reducible refine(gR.calls (Bl== Ai) Bi _ Cu.out).mono ?_);rintro e w' ⟨rfl,⟨nd,rfl⟩⟩;refine⟨_,rfl,?_⟩)|((with_reducible refine gate_builtin (b:= .append) (xs:= #[.tmp 39, .tmp 56]) rfl ?_);at_builtin;refine Kd.R_append (Kd.int .i64) (w0:=w) w.heap.size rfl (.tmp 39) (.tmp 56) 25 3 (.int .i64 0) 8 rfl Try.underlying25 info3 rfl (by decide) (by omega) u10 Aj (wrap64 (Bh+Bi)) [.int .i64 (wrap64 (Bh+Bi))] (fun k_=>some k_≠(.slice Aq Ad.length As:Value).ownBlock) (fun _=>False) rfl rfl ?aP (fun _ hk=>hk.elim) ?aF ?aO ?aB ?aS ?aL ?_;(case aP=>exact rfl);(case aB=>exact bw_6);(case aF=>exact(fun k_ hk=>Kd.fresh' (Kd.R_lt (kR Am.out)) k_ hk));(case aO=>exact(kR Ay.out));(case aS=>exact(bwZ bw_6));(case aL=>have:=LMc21.out;omega);intro Cv Cy ho hb hg hat;rw[←Br.out]at ho;have n0_:=Az.mk (Kd.R_after (ok:=(fun _=>True)) (by(with_reducible repeat(first|apply Kd.R_alloc|apply Kd.R_drewN|apply Kd.R_drew));exact Kd.R_mono Am.out (fun _ hk=>⟨trivial,hk⟩)) hg hat);have n1_:=Az.mk (hb);have n2_:=Az.mk (ho);clear Am;clear HB;clear Ay;have Am:=n0_;have HB:=n1_;have Bs:=n2_;clear n0_ n1_ n2_;clear ho hb hg hat))
  go_roundg k1
  case measure=>have:=HK1.out;omega
  case rel=>exact⟨(Bq),(wrap64 (Ae+1)),rq2,H',⟨by have:=HK1.out;omega⟩,⟨by(with_reducible repeat(first|apply Kd.R_alloc|apply Kd.R_drewN|apply Kd.R_drew));exact Kd.R_mono Am.out (fun _ hk=>hk.2)⟩,⟨kR Bs.out⟩,⟨bw_6⟩⟩
def gI.l0:Nat→ByteArray→Int→List ByteArray→Int→Int→Option (List ByteArray)
 |0,_,_,_,_,_=>none
 |k+1,x0,x1,x5,x6,x7=>if x7≤(x0.size:Int) then(if x7=(x0.size:Int) then(if 0≤x6 then(if x6≤x7 then(if x5.length<8796093022208 then(gI.l0 k x0 x1 (x5 ++ [x0.extract (x6:Int).toNat (x7:Int).toNat]) (wrap64 (x7+1)) (wrap64 (x7+1))) else(none)) else(none)) else(none)) else(if 0≤x7 then(if x7<(x0.size:Int) then(if(bt x0 x7)=x1 then(if 0≤x6 then(if x6≤x7 then(if x5.length<8796093022208 then(gI.l0 k x0 x1 (x5 ++ [x0.extract (x6:Int).toNat (x7:Int).toNat]) (wrap64 (x7+1)) (wrap64 (x7+1))) else(none)) else(none)) else(none)) else(gI.l0 k x0 x1 x5 x6 (wrap64 (x7+1)))) else(none)) else(none))) else(some x5)
def gI.f (k:Nat) (a0:ByteArray) (a1:Int):Option (List ByteArray):=gI.l0 k a0 a1 (([]:List ByteArray)) 0 0
theorem gI.calls (k:Nat) (a0:ByteArray) (a1:Int) (r:List ByteArray) (w:World) (h:gI.f k a0 a1=some r):
  Calls Try.prog 89 #[.string a0, .int .u8 a1] w fun e w'=>∃v0_:Value,e= .returned (v0_)∧Kd.R Kd.string 9 w' w.heap.size (fun _=>True) v0_ r∧Below w.heap.size w w':=by
 have HB:=Az.mk (Below.refl w.heap.size w)
 have H:(gI.l0 k a0 a1 (([]:List ByteArray)) 0 0)=some r:=h
 clear h
 obtain⟨Aj,hy⟩:∃y_:List ByteArray,y_=(([]:List ByteArray)):=⟨_,rfl⟩
 replace H:(gI.l0 k a0 a1 Aj 0 0)=some r:=rh
 have Ah:=Az.mk hy
 clear hy
 have H':=Az.mk H
 clear H
 go_enter Try.func89,Try.ntmps89
 go_wp2_with (first|((with_reducible refine gtD (N:=8) rfl ?_);refine Kd.R_lit Kd.string _ 9 ?hg (N:=8) ?hd (xs:=([]:List ByteArray)) (inner:=[]) (ok:=fun _=>True) (okp:=fun _=>True) ?hr ?hp (fun _ hk=>hk) trivial (Below.refl _ _) (Nat.le_refl _) (by simp) ?_;(case hd=>rfl);(case hg=>rfl);(case hr=>first|(go_simp;done)|(go_simp;rfl));(case hp=>exact(Reps.none _ _));intro Bu w3 Ak hb hg_ hnew_;clear hg_ hnew_;(first|rw[←Ah.out]at Ak|(simp only[Int.reduceToNat]at Ak;rw[←Ah.out]at Ak));have Al:=Az.mk (Kd.R_lower Ak (bwZ bw_6));replace HB:=Az.mk (bwT bw_6 hb);clear hb Ak))
 go_loopg [5,6,7] k (fun kq v5 v6 v7 w'=>∃(Af:List ByteArray) (Ae:Int) (Ad:Int),v6= .int .i64 Ae∧v7= .int .i64 Ad∧Az (gI.l0 kq a0 a1 Af Ae Ad=some r)∧Az (kq≤k)∧Az (Kd.R Kd.string 9 w' w.heap.size (fun _=>True) v5 Af)∧Az (Below w.heap.size w w'))
 case atStart=>exact⟨(Aj),(0),(0),rq2,rq2,H',⟨Nat.le_refl _⟩,⟨kR Al.out⟩,⟨bw_6⟩⟩
 clear H'
 obtain⟨Af,Ae,Ad,rfl,rfl,HA,HK1,Ag,HB⟩:=hrel
 cases gk with
 |zero=>exact absurd HA.out (by simp[gI.l0])
 |succ k1=>
  have H:=HA.out
  clear HA
  simp only[gI.l0]at H
  by_cases c5:Ad≤(a0.size:Int)
  rotate_left
  ·rw[ig c5]at H
   have Bj:=decide_eq_false c5
   clear c5
   obtain rfl:=Option.some.inj H
   go_wp2
   go_ret
   exact⟨_,rq1,kR Ag.out,bw_6⟩
  rw[ip c5]at H
  have Bj:=ode c5
  clear c5
  by_cases c6:Ad=(a0.size:Int)
  ·rw[ip c6]at H
   have Bk:=beq_iff_eq.mpr c6
   have Bl:=bne_eq_false_iff_eq.mpr c6
   clear c6
   by_cases c7:0≤Ae
   rotate_left
   ·rw[ig c7]at H
    exact absurd H (by simp)
   rw[ip c7]at H
   have Bv:=ets c7
   have Bw:=ode c7
   clear c7
   by_cases c8:Ae≤Ad
   rotate_left
   ·rw[ig c8]at H
    exact absurd H (by simp)
   rw[ip c8]at H
   have Bx:=ets c8
   have By:=ode c8
   clear c8
   have Bz:=ets (od:Ad≤(a0.size:Int))
   by_cases Bd:Af.length<8796093022208
   rotate_left
   ·rw[ig Bd]at H
    exact absurd H (by simp)
   rw[ip Bd]at H
   have LMc10:=Az.mk Bd
   clear Bd
   obtain⟨Am,hy⟩:∃y_:List ByteArray,y_=(Af ++ [a0.extract (Ae:Int).toNat (Ad:Int).toNat]):=⟨_,rfl⟩
   replace H:(gI.l0 k1 a0 a1 Am (wrap64 (Ad+1)) (wrap64 (Ad+1)))=some r:=rh
   have Ao:=Az.mk hy
   clear hy
   have H':=Az.mk H
   clear H
   go_wp2_with (first|((with_reducible refine gate_builtin (b:= .append) (xs:= #[.tmp 26, .tmp 31]) rfl ?_);at_builtin;refine Kd.R_append Kd.string (w0:=w) w.heap.size rfl (.tmp 26) (.tmp 31) 78 9 (.string ⟨#[]⟩) 16 rfl Try.underlying78 info9 rfl (by decide) (by omega) u5 Af (a0.extract (Ae:Int).toNat (Ad:Int).toNat) [.string (a0.extract (Ae:Int).toNat (Ad:Int).toNat)] (fun _=>True) (fun _=>False) rfl rfl ?aP (fun _ hk=>hk.elim) ?aF ?aO ?aB ?aS ?aL ?_;(case aP=>exact rfl);(case aB=>exact bw_6);(case aF=>exact(fun _ _=>trivial));(case aO=>exact(kR Ag.out));(case aS=>exact(bwZ bw_6));(case aL=>have:=LMc10.out;omega);intro Ca Cc ho hb hg hat;rw[←Ao.out]at ho;have n0_:=Az.mk (hb);have n1_:=Az.mk (ho);clear HB;clear Ag;have HB:=n0_;have Ap:=n1_;clear n0_ n1_;clear ho hb hg hat))
   go_roundg k1
   case measure=>have:=HK1.out;omega
   case rel=>exact⟨(Am),(wrap64 (Ad+1)),(wrap64 (Ad+1)),rq2,rq2,H',⟨by have:=HK1.out;omega⟩,⟨kR Ap.out⟩,⟨bw_6⟩⟩
  rw[ig c6]at H
  have Bk:=beq_eq_false_iff_ne.mpr c6
  have Bl:=bne_iff_ne.mpr c6
  by_cases Bf:0≤Ad
  rotate_left
  ·rw[ig Bf]at H
   exact absurd H (by simp)
  rw[ip Bf]at H
  have Bn:=ode Bf
  clear Bf
  by_cases Bh:Ad<(a0.size:Int)
  rotate_left
  ·rw[ig Bh]at H
   exact absurd H (by simp)
  rw[ip Bh]at H
  have Bo:=ode Bh
  clear Bh
  by_cases Ai:(bt a0 Ad)=a1
  rotate_left
  ·rw[ig Ai]at H
   have Aq:=beq_eq_false_iff_ne.mpr Ai
   have As:=bne_iff_ne.mpr Ai
   have H':=Az.mk H
   clear H
   have Au:0≤(Ad:Int):=od
   have Av:Ad<(a0.size:Int):=od
   have Bm:=bt_at a0 Ad
   replace Au:=ets Au
   replace Av:=ets Av
   go_wp2
   go_roundg k1
   case measure=>have:=HK1.out;omega
   case rel=>exact⟨(Af),(Ae),(wrap64 (Ad+1)),rq2,rq2,H',⟨by have:=HK1.out;omega⟩,⟨kR Ag.out⟩,⟨bw_6⟩⟩
  rw[ip Ai]at H
  have Aq:=beq_iff_eq.mpr Ai
  have As:=bne_eq_false_iff_eq.mpr Ai
  clear Ai
  by_cases Ax:0≤Ae
  rotate_left
  ·rw[ig Ax]at H
   exact absurd H (by simp)
  rw[ip Ax]at H
  have Bp:=ets Ax
  have Bq:=ode Ax
  clear Ax
  by_cases Ay:Ae≤Ad
  rotate_left
  ·rw[ig Ay]at H
   exact absurd H (by simp)
  rw[ip Ay]at H
  have Br:=ets Ay
  have Bs:=ode Ay
  clear Ay
  have Bt:=ets (od:Ad≤(a0.size:Int))
  by_cases Bi:Af.length<8796093022208
  rotate_left
  ·rw[ig Bi]at H
   exact absurd H (by simp)
  rw[ip Bi]at H
  have LMc19:=Az.mk Bi
  clear Bi
  obtain⟨Ba,hy⟩:∃y_:List ByteArray,y_=(Af ++ [a0.extract (Ae:Int).toNat (Ad:Int).toNat]):=⟨_,rfl⟩
  replace H:(gI.l0 k1 a0 a1 Ba (wrap64 (Ad+1)) (wrap64 (Ad+1)))=some r:=rh
  have Bb:=Az.mk hy
  clear hy
  have H':=Az.mk H
  clear H
  have Au:0≤(Ad:Int):=od
  have Av:Ad<(a0.size:Int):=od
  have Bm:=bt_at a0 Ad
  replace Au:=ets Au
  replace Av:=ets Av
  go_wp2_with (first|((with_reducible refine gate_builtin (b:= .append) (xs:= #[.tmp 26, .tmp 31]) rfl ?_);at_builtin;refine Kd.R_append Kd.string (w0:=w) w.heap.size rfl (.tmp 26) (.tmp 31) 78 9 (.string ⟨#[]⟩) 16 rfl Try.underlying78 info9 rfl (by decide) (by omega) u5 Af (a0.extract (Ae:Int).toNat (Ad:Int).toNat) [.string (a0.extract (Ae:Int).toNat (Ad:Int).toNat)] (fun _=>True) (fun _=>False) rfl rfl ?aP (fun _ hk=>hk.elim) ?aF ?aO ?aB ?aS ?aL ?_;(case aP=>exact rfl);(case aB=>exact bw_6);(case aF=>exact(fun _ _=>trivial));(case aO=>exact(kR Ag.out));(case aS=>exact(bwZ bw_6));(case aL=>have:=LMc19.out;omega);intro Cb Cd ho hb hg hat;rw[←Bb.out]at ho;have n0_:=Az.mk (hb);have n1_:=Az.mk (ho);clear HB;clear Ag;have HB:=n0_;have Bc:=n1_;clear n0_ n1_;clear ho hb hg hat))
  go_roundg k1
  case measure=>have:=HK1.out;omega
  case rel=>exact⟨(Ba),(wrap64 (Ad+1)),(wrap64 (Ad+1)),rq2,rq2,H',⟨by have:=HK1.out;omega⟩,⟨kR Bc.out⟩,⟨bw_6⟩⟩
theorem bw_7 {n:Nat}{v v':World} (h:Below n v v':=by repeat(first|(with_reducible first|exact HB.out|apply bwA|apply pbN|apply bwD)|exact HB.out)):Below n v v':=h
mutual
def fL.l0:Nat→List (List Int)→List ByteArray→Int→Option ((List (List Int)) × Bool)
 |0,_,_,_=>none
 |k+1,x4,x5,x6=>if x6<(x5.length:Int) then(fL.l1 k x4 x5 x6 (([]:List Int)) 0) else((fC.f k x4).bind fun t180=>(if t180=true then(some (x4,true)) else(some ((([]:List (List Int))),false))))
def fL.l1:Nat→List (List Int)→List ByteArray→Int→List Int→Int→Option ((List (List Int)) × Bool)
 |0,_,_,_,_,_=>none
 |k+1,x4,x5,x6,x7,x8=>if 0≤x6 then(if x6<(x5.length:Int) then(if x8<((rdOf ByteArray.empty x5 x6).size:Int) then(if 0≤x8 then(if(bt (rdOf ByteArray.empty x5 x6) x8) ≥ 97 then(fL.j2 k x4 x5 x6 x7 x8 (bt (rdOf ByteArray.empty x5 x6) x8) (decide ((bt (rdOf ByteArray.empty x5 x6) x8)≤105))) else(fL.j2 k x4 x5 x6 x7 x8 (bt (rdOf ByteArray.empty x5 x6) x8) false)) else(none)) else(if x4.length<5864062014805 then(fL.l0 k (x4 ++ [x7]) x5 (wrap64 (x6+1))) else(none))) else(none)) else(none)
def fL.j2:Nat→List (List Int)→List ByteArray→Int→List Int→Int→Int→Bool→Option ((List (List Int)) × Bool)
 |0,_,_,_,_,_,_,_=>none
 |k+1,x4,x5,x6,x7,x8,x9,x36=>if x36=true then(if x7.length<17592186044416 then(fL.l1 k x4 x5 x6 (x7 ++ [wrap64 ((wrap64 ((wrap64 (x9)) - 97))+1)]) (wrap64 (x8+1))) else(none)) else(if x9 ≥ 65 then(if x9≤73 then(if x7.length<17592186044416 then(fL.l1 k x4 x5 x6 (x7 ++ [wrap64 (-(wrap64 ((wrap64 ((wrap64 (x9)) - 65))+1)))]) (wrap64 (x8+1))) else(none)) else(some ((([]:List (List Int))),false))) else(some ((([]:List (List Int))),false)))
end
def fL.f (k:Nat) (a0:ByteArray):Option ((List (List Int)) × Bool):=(gI.f k a0 32).bind fun t177=>(fL.l0 k (([]:List (List Int))) t177 0)
theorem fL.calls (k:Nat) (a0:ByteArray) (r1:List (List Int)) (r2:Bool) (w:World) (h:fL.f k a0=some (r1,r2)):
  Calls Try.prog 78 #[.string a0] w fun e w'=>∃v0_:Value,e= .returned (.tuple #[v0_, .bool r2])∧Kd.S (Kd.slice 3 (Kd.int .i64)) 25 w' w.heap.size (fun _=>True) v0_ r1∧Below w.heap.size w w':=by
 have HB:=Az.mk (Below.refl w.heap.size w)
 have H:((gI.f k a0 32).bind fun Ad=>(fL.l0 k (([]:List (List Int))) Ad 0))=some (r1,r2):=h
 clear h
 obtain⟨Bx,hy⟩:∃y_:List (List Int),y_=(([]:List (List Int))):=⟨_,rfl⟩
 replace H:((gI.f k a0 32).bind fun Ad=>(fL.l0 k Bx Ad 0))=some (r1,r2):=rh
 have Bj:=Az.mk hy
 clear hy
 replace H:=bez H
 obtain⟨Ad,A2,H⟩:=H
 try dsimp only at H
 have H':=Az.mk H
 clear H
 go_enter Try.func78,Try.ntmps78
 go_wp2_with (first|((with_reducible refine gtD (N:=10) rfl ?_);refine Kd.S_lit (Kd.slice 3 (Kd.int .i64)) _ 25 ?hg (N:=10) ?hd (xs:=([]:List (List Int))) (inner:=[]) (ok:=fun _=>True) (okp:=fun _=>True) ?hr ?hp (fun _ hk=>hk) trivial (Below.refl _ _) (Nat.le_refl _) (by simp) ?_;(case hd=>rfl);(case hg=>rfl);(case hr=>first|(go_simp;done)|(go_simp;rfl));(case hp=>exact(Reps.none _ _));intro Dz w3 By hb hg_ hnew_;clear hg_ hnew_;(first|rw[←Bj.out]at By|(simp only[Int.reduceToNat]at By;rw[←Bj.out]at By));have Ax:=Az.mk (Kd.S_lower By (bwZ bw_7));replace HB:=Az.mk (bwT bw_7 hb);clear hb By)|((with_reducible refine gtC (f:=89) rfl ?_);refine clz Try.func89 (some 12) #[.string a0, .int .u8 32] ?_;(with_reducible refine(gI.calls k a0 32 Ad _ A2.out).mono ?_);rintro e w5 ⟨Dg,rfl,Dw,hb⟩;refine⟨_,rfl,?_⟩;replace Ax:=Az.mk (Kd.S_below (kS Ax.out) hb);have Bz:=Az.mk (Kd.R_lower Dw (bwZ bw_7));replace HB:=Az.mk (bwT bw_7 hb);(try clear hb);(try clear Dw)))
 go_loopg [4,6] k (fun kq v4 v6 w'=>∃(Aj:List (List Int)) (Ae:Int),v6= .int .i64 Ae∧Az (fL.l0 kq Aj Ad Ae=some (r1,r2))∧Az (kq≤k)∧Az (Kd.S (Kd.slice 3 (Kd.int .i64)) 25 w' w.heap.size (fun _=>True) v4 Aj)∧Az (Kd.R Kd.string 9 w' w.heap.size (fun _=>True) Dg Ad)∧Az (Below w.heap.size w w'))
 case atStart=>exact⟨(Bx),(0),rq2,H',⟨Nat.le_refl _⟩,⟨kS Ax.out⟩,⟨kR Bz.out⟩,⟨bw_7⟩⟩
 clear H'
 obtain⟨Aj,Ae,rfl,HA,HK1,Af,Ag,HB⟩:=hrel
 cases gk with
 |zero=>exact absurd HA.out (by simp[fL.l0])
 |succ k1=>
  have H:=HA.out
  clear HA
  simp only[fL.l0]at H
  by_cases c6:Ae<(Ad.length:Int)
  rotate_left
  ·rw[ig c6]at H
   have Bp:=decide_eq_false c6
   clear c6
   replace H:=bez H
   obtain⟨Dh,Dx,H⟩:=H
   try dsimp only at H
   by_cases Cz:Dh=true
   ·subst Cz
    rw[ip rfl]at H
    simp only[Option.some.injEq,Prod.mk.injEq]at H
    obtain⟨rfl,rfl⟩:=H
    obtain⟨Ea,Eb,Di⟩:=Kd.R_slice Ag.out
    subst Di
    obtain⟨Dj,Dk,Dl⟩:=Kd.S_slice Af.out
    subst Dl
    go_wp2_with (first|((with_reducible refine gtC (f:=45) rfl ?_);refine clz Try.func45 (some 70) #[.slice Dj Aj.length Dk] ?_;(with_reducible refine(fC.calls k1 _ _ Aj true _ ?Ay ?Ba Dx.out).mono ?_);(case Ay=>exact kC (Kd.S_reads' Af.out).2.2);(case Ba=>exact(Kd.S_reads' Af.out).2.1);rintro e Ep ⟨rfl,hb⟩;refine⟨_,rfl,?_⟩;replace Af:=Az.mk (Kd.S_below (kS Af.out) hb);replace Ag:=Az.mk (Kd.R_below (kR Ag.out) hb);replace HB:=Az.mk (bwT bw_7 hb);(try clear hb)))
    go_ret2
    exact⟨_,rq1,kS Af.out,bw_7⟩
   replace Cz:=Bool.eq_false_iff.mpr Cz
   subst Cz
   rw[ig ff]at H
   obtain⟨Dm,hy⟩:∃y_:List (List Int),y_=(([]:List (List Int))):=⟨_,rfl⟩
   replace H:(some (Dm,false))=some (r1,r2):=rh
   have Bk:=Az.mk hy
   clear hy
   simp only[Option.some.injEq,Prod.mk.injEq]at H
   obtain⟨rfl,rfl⟩:=H
   obtain⟨Ec,Ed,Dn⟩:=Kd.R_slice Ag.out
   subst Dn
   obtain⟨Do,Dp,Dq⟩:=Kd.S_slice Af.out
   subst Dq
   go_wp2_with (first|((with_reducible refine gtC (f:=45) rfl ?_);refine clz Try.func45 (some 70) #[.slice Do Aj.length Dp] ?_;(with_reducible refine(fC.calls k1 _ _ Aj false _ ?Ay ?Ba Dx.out).mono ?_);(case Ay=>exact kC (Kd.S_reads' Af.out).2.2);(case Ba=>exact(Kd.S_reads' Af.out).2.1);rintro e Er ⟨rfl,hb⟩;refine⟨_,rfl,?_⟩;replace Af:=Az.mk (Kd.S_below (kS Af.out) hb);replace Ag:=Az.mk (Kd.R_below (kR Ag.out) hb);replace HB:=Az.mk (bwT bw_7 hb);(try clear hb))|((with_reducible refine gtD (N:=72) rfl ?_);refine Kd.S_lit (Kd.slice 3 (Kd.int .i64)) _ 25 ?hg (N:=72) ?hd (xs:=([]:List (List Int))) (inner:=[]) (ok:=fun _=>True) (okp:=fun _=>True) ?hr ?hp (fun _ hk=>hk) trivial (Below.refl _ _) (Nat.le_refl _) (by simp) ?_;(case hd=>rfl);(case hg=>rfl);(case hr=>first|(go_simp;done)|(go_simp;rfl));(case hp=>exact(Reps.none _ _));intro Ee Es As hb hg_ hnew_;clear hg_ hnew_;(first|rw[←Bk.out]at As|(simp only[Int.reduceToNat]at As;rw[←Bk.out]at As));replace Ag:=Az.mk (Kd.R_below (kR Ag.out) hb);have Ca:=Az.mk (Kd.S_lower (Kd.S_new' As (Kd.S_lt (kS Af.out))) (bwZ bw_7));replace Af:=Az.mk (Kd.S_elder' (kS Af.out) (Kd.S_base As) hb);replace HB:=Az.mk (bwT bw_7 hb);clear hb As))
   go_ret2
   exact⟨_,rq1,by(with_reducible repeat(first|apply Kd.S_alloc|apply Kd.S_drewN|apply Kd.S_drew));exact Kd.S_mono Ca.out (fun _ hk=>trivial),bw_7⟩
  rw[ip c6]at H
  have Bp:=ode c6
  clear c6
  obtain⟨Cb,hy⟩:∃y_:List Int,y_=(([]:List Int)):=⟨_,rfl⟩
  replace H:(fL.l1 k1 Aj Ad Ae Cb 0)=some (r1,r2):=rh
  have Bl:=Az.mk hy
  clear hy
  have H':=Az.mk H
  clear H
  obtain⟨Ef,Dy,Eg⟩:=Kd.R_slice Ag.out
  subst Eg
  go_wp2_with (first|((with_reducible refine gtD (N:=19) rfl ?_);refine Kd.R_lit (Kd.int .i64) _ 3 ?hg (N:=19) ?hd (xs:=([]:List Int)) (inner:=[]) (ok:=fun _=>True) (okp:=fun _=>True) ?hr ?hp (fun _ hk=>hk) trivial (Below.refl _ _) (Nat.le_refl _) (by simp) ?_;(case hd=>rfl);(case hg=>rfl);(case hr=>first|(go_simp;done)|(go_simp;rfl));(case hp=>exact(Reps.none _ _));intro Eh w8 Bu hb hg_ hnew_;clear hg_ hnew_;(first|rw[←Bl.out]at Bu|(simp only[Int.reduceToNat]at Bu;rw[←Bl.out]at Bu));replace Af:=Az.mk (Kd.S_elder' (kS Af.out) (Kd.R_base Bu) hb);replace Ag:=Az.mk (Kd.R_below (kR Ag.out) hb);have Cc:=Az.mk (Kd.R_lower Bu (bwZ bw_7));replace HB:=Az.mk (bwT bw_7 hb);clear hb Bu))
  go_loopg [7,8] k1 (fun kq v7 v8 w'=>∃(Ak:List Int) (Ah:Int),v8= .int .i64 Ah∧Az (fL.l1 kq Aj Ad Ae Ak Ah=some (r1,r2))∧Az (kq≤k1)∧Az (Kd.S (Kd.slice 3 (Kd.int .i64)) 25 w' w.heap.size (fun k_=>some k_≠(v7:Value).ownBlock) u4 Aj)∧Az (Kd.R Kd.string 9 w' w.heap.size (fun _=>True) (.slice Ef Ad.length Dy) Ad)∧Az (Kd.R (Kd.int .i64) 3 w' w.heap.size (fun _=>True) v7 Ak)∧Az (Below w.heap.size w w'))
  case atStart=>exact⟨(Cb),(0),rq2,H',⟨Nat.le_refl _⟩,⟨by(with_reducible repeat(first|apply Kd.S_alloc|apply Kd.S_drewN|apply Kd.S_drew));exact Kd.S_mono Af.out (fun _ hk=>hk.2)⟩,⟨kR Ag.out⟩,⟨kR Cc.out⟩,⟨bw_7⟩⟩
  clear H'
  try clear c6
  try clear Bp
  obtain⟨Ak,Ah,rfl,HA,HK2,Af,Ag,Ai,HB⟩:=hrel
  cases gk with
  |zero=>exact absurd HA.out (by simp[fL.l1])
  |succ k2=>
   have H:=HA.out
   clear HA
   simp only[fL.l1]at H
   by_cases Cd:0≤Ae
   rotate_left
   ·rw[ig Cd]at H
    exact absurd H (by simp)
   rw[ip Cd]at H
   have Ce:=ode Cd
   clear Cd
   by_cases Cf:Ae<(Ad.length:Int)
   rotate_left
   ·rw[ig Cf]at H
    exact absurd H (by simp)
   rw[ip Cf]at H
   have Cg:=ode Cf
   clear Cf
   by_cases Bq:Ah<((rdOf ByteArray.empty Ad Ae).size:Int)
   rotate_left
   ·rw[ig Bq]at H
    have Bm:=decide_eq_false Bq
    clear Bq
    by_cases Da:Aj.length<5864062014805
    rotate_left
    ·rw[ig Da]at H
     exact absurd H (by simp)
    rw[ip Da]at H
    have LMc28:=Az.mk Da
    clear Da
    obtain⟨Ch,hy⟩:∃y_:List (List Int),y_=(Aj ++ [Ak]):=⟨_,rfl⟩
    replace H:(fL.l0 k2 Ch Ad (wrap64 (Ae+1)))=some (r1,r2):=rh
    have Ci:=Az.mk hy
    clear hy
    have H':=Az.mk H
    clear H
    have Ao:0≤(Ae:Int):=od
    have Ap:Ae<(Ad.length:Int):=od
    obtain⟨Bb,Br,Aq⟩:=Kd.at_string (Kd.R_reads' Ag.out).2.2 Ae Ao Ap
    cases Br
    replace Ao:=ets Ao
    replace Ap:=ets Ap
    obtain⟨Cj,Ck,Dr⟩:=Kd.R_slice Ai.out
    subst Dr
    go_wp2_with (first|((with_reducible refine gate_builtin (b:= .append) (xs:= #[.tmp 65, .tmp 67]) rfl ?_);at_builtin;refine Kd.S_append (Kd.slice 3 (Kd.int .i64)) (w0:=w) w.heap.size rfl (.tmp 65) (.tmp 67) 24 25 (.slice none 0 0) 24 rfl Try.underlying24 info25 rfl (by decide) (by omega) u4 Aj Ak [.slice Cj Ak.length Ck] (fun _=>True) (fun k_=>some k_=(.slice Cj Ak.length Ck:Value).ownBlock) rfl rfl ?aP (fun k_ hk_=>((Kd.R_mono (ok':=fun k_=>((fun _=>True)) k_∧some k_≠(u4:Value).ownBlock) (Kd.R_apart' (Ai.out) (Kd.S_typed Af.out) (by decide)) (fun k_ hk=>⟨trivial,hk.2⟩))).1 k_ hk_.symm) ?aF ?aO ?aB ?aS ?aL ?_;(case aP=>exact Kd.M_row (Kd.R_mono (Kd.R_tight rfl (Kd.R_mono (ok':=fun k_=>((fun _=>True)) k_∧some k_≠(u4:Value).ownBlock) (Kd.R_apart' (Ai.out) (Kd.S_typed Af.out) (by decide)) (fun k_ hk=>⟨trivial,hk.2⟩))) (fun _ h_=>h_)));(case aB=>exact bw_7);(case aF=>exact(fun _ _=>trivial));(case aO=>exact(by(with_reducible repeat(first|apply Kd.S_alloc|apply Kd.S_drewN|apply Kd.S_drew));exact Kd.S_mono Af.out (fun k_ hk=>⟨trivial,fun e_=>hk e_⟩)));(case aS=>exact(bwZ bw_7));(case aL=>have:=LMc28.out;omega);intro Ei Et ho hb hg hat;rw[←Ci.out]at ho;have n0_:=Az.mk (Kd.R_over' (kR Ag.out) (Kd.S_typed (kS Af.out)) (by decide) hg);have n1_:=Az.mk (hb);have n2_:=Az.mk (ho);clear Ag;clear HB;clear Af;clear Ai;have Ag:=n0_;have HB:=n1_;have Cl:=n2_;clear n0_ n1_ n2_;clear ho hb hg hat))
    go_roundg k2
    case measure=>have:=HK1.out;have:=HK2.out;omega
    case rel=>exact⟨(Ch),(wrap64 (Ae+1)),rq2,H',⟨by have:=HK1.out;have:=HK2.out;omega⟩,⟨kS Cl.out⟩,⟨kR Ag.out⟩,⟨bw_7⟩⟩
   rw[ip Bq]at H
   have Bm:=ode Bq
   clear Bq
   by_cases Cm:0≤Ah
   rotate_left
   ·rw[ig Cm]at H
    exact absurd H (by simp)
   rw[ip Cm]at H
   have Cn:=ode Cm
   clear Cm
   have Bs:=Az.mk H
   clear H
   have Ao:0≤(Ae:Int):=od
   have Ap:Ae<(Ad.length:Int):=od
   obtain⟨Bb,Br,Aq⟩:=Kd.at_string (Kd.R_reads' Ag.out).2.2 Ae Ao Ap
   cases Br
   replace Ao:=ets Ao
   replace Ap:=ets Ap
   have Bc:0≤(Ae:Int):=od
   have Bd:Ae<(Ad.length:Int):=od
   obtain⟨Co,Ds,Bf⟩:=Kd.at_string (Kd.R_reads' Ag.out).2.2 Ae Bc Bd
   obtain rfl:Bb=Co:=(by injection Ds)
   replace Bc:=ets Bc
   replace Bd:=ets Bd
   have Db:0≤(Ah:Int):=od
   have Dc:Ah<((rdOf ByteArray.empty Ad Ae).size:Int):=od
   have Dt:=bt_at (rdOf ByteArray.empty Ad Ae) Ah
   replace Db:=ets Db
   replace Dc:=ets Dc
   go_upto_region 12 with (fail)
   go_cut [36] (fun Ej wc=>∃(kq:Nat) (Am:Bool),Ej= .bool Am∧Az (fL.j2 kq Aj Ad Ae Ak Ah (bt (rdOf ByteArray.empty Ad Ae) Ah) Am=some (r1,r2))∧Az (kq≤k2)∧Az (Kd.S (Kd.slice 3 (Kd.int .i64)) 25 wc w.heap.size (fun k_=>some k_≠(u7:Value).ownBlock) u4 Aj)∧Az (Kd.R Kd.string 9 wc w.heap.size (fun _=>True) (.slice (some Bb) Ad.length Dy) Ad)∧Az (Kd.R (Kd.int .i64) 3 wc w.heap.size (fun _=>True) u7 Ak)∧Az (Below w.heap.size w wc))
   case first=>
    have H:=Bs.out
    clear Bs
    by_cases Bt:(bt (rdOf ByteArray.empty Ad Ae) Ah) ≥ 97
    ·rw[ip Bt]at H
     have Al:decide (97≤(bt (rdOf ByteArray.empty Ad Ae) Ah))=true:=ode Bt
     clear Bt
     (first|rw[Al]|(simp only[i64_w,i32_w];rw[Al])|skip)
     have H':=Az.mk H
     clear H
     go_wp2
     go_meet
     case rel=>exact⟨_,(decide ((bt (rdOf ByteArray.empty Ad Ae) Ah)≤105)),rq2,H',⟨by have:=HK1.out;have:=HK2.out;first|omega|exact Nat.le_refl _⟩,⟨kS Af.out⟩,⟨kR Ag.out⟩,⟨kR Ai.out⟩,⟨bw_7⟩⟩
    rw[ig Bt]at H
    have Al:decide (97≤(bt (rdOf ByteArray.empty Ad Ae) Ah))=false:=decide_eq_false Bt
    clear Bt
    (first|rw[Al]|(simp only[i64_w,i32_w];rw[Al])|skip)
    have H':=Az.mk H
    clear H
    go_wp2
    go_meet
    case rel=>exact⟨_,(false),rq2,H',⟨by have:=HK1.out;have:=HK2.out;first|omega|exact Nat.le_refl _⟩,⟨kS Af.out⟩,⟨kR Ag.out⟩,⟨kR Ai.out⟩,⟨bw_7⟩⟩
   clear Bs
   try clear c6
   try clear Bp
   try clear Cd
   try clear Ce
   try clear Cf
   try clear Cg
   try clear Bq
   try clear Bm
   try clear Cm
   try clear Cn
   try clear Db
   try clear Dc
   try clear Dt
   try clear Bt
   try clear Al
   try clear Aq
   try clear Bf
   try clear Db
   try clear Ao
   try clear Bc
   try clear Dc
   try clear Ap
   try clear Bd
   obtain⟨kq,Am,rfl,HA,Bh,Af,Ag,Ai,HB⟩:=hcut
   cases kq with
   |zero=>exact absurd HA.out (by simp[fL.j2])
   |succ Bi=>
    have H:=HA.out
    clear HA
    simp only[fL.j2]at H
    by_cases Dd:Am=true
    ·subst Dd
     rw[ip rfl]at H
     by_cases De:Ak.length<17592186044416
     rotate_left
     ·rw[ig De]at H
      exact absurd H (by simp)
     rw[ip De]at H
     have LMc18:=Az.mk De
     clear De
     obtain⟨Cp,hy⟩:∃y_:List Int,y_=(Ak ++ [wrap64 ((wrap64 ((wrap64 ((bt (rdOf ByteArray.empty Ad Ae) Ah))) - 97))+1)]):=⟨_,rfl⟩
     replace H:(fL.l1 Bi Aj Ad Ae Cp (wrap64 (Ah+1)))=some (r1,r2):=rh
     have Cq:=Az.mk hy
     clear hy
     have H':=Az.mk H
     clear H
     go_wp2_with (first|((with_reducible refine gate_builtin (b:= .append) (xs:= #[.tmp 43, .tmp 48]) rfl ?_);at_builtin;refine Kd.R_append (Kd.int .i64) (w0:=w) w.heap.size rfl (.tmp 43) (.tmp 48) 25 3 (.int .i64 0) 8 rfl Try.underlying25 info3 rfl (by decide) (by omega) u7 Ak (wrap64 ((wrap64 ((wrap64 ((bt (rdOf ByteArray.empty Ad Ae) Ah))) - 97))+1)) [.int .i64 (wrap64 ((wrap64 ((wrap64 ((bt (rdOf ByteArray.empty Ad Ae) Ah))) - 97))+1))] (fun _=>True) (fun _=>False) rfl rfl ?aP (fun _ hk=>hk.elim) ?aF ?aO ?aB ?aS ?aL ?_;(case aP=>exact rfl);(case aB=>exact bw_7);(case aF=>exact(fun _ _=>trivial));(case aO=>exact(kR Ai.out));(case aS=>exact(bwZ bw_7));(case aL=>have:=LMc18.out;omega);intro Ek Eu ho hb hg hat;rw[←Cq.out]at ho;have n0_:=Az.mk (Kd.S_after (ok:=(fun _=>True)) (by(with_reducible repeat(first|apply Kd.S_alloc|apply Kd.S_drewN|apply Kd.S_drew));exact Kd.S_mono Af.out (fun _ hk=>⟨trivial,hk⟩)) hg hat);have n1_:=Az.mk (Kd.R_over' (kR Ag.out) (Kd.R_typed (kR Ai.out)) (by decide) hg);have n2_:=Az.mk (hb);have n3_:=Az.mk (ho);clear Af;clear Ag;clear HB;clear Ai;have Af:=n0_;have Ag:=n1_;have HB:=n2_;have Cr:=n3_;clear n0_ n1_ n2_ n3_;clear ho hb hg hat))
     go_roundg Bi
     case measure=>have:=HK1.out;have:=HK2.out;have:=Bh.out;omega
     case rel=>exact⟨(Cp),(wrap64 (Ah+1)),rq2,H',⟨by have:=HK1.out;have:=HK2.out;have:=Bh.out;omega⟩,⟨by(with_reducible repeat(first|apply Kd.S_alloc|apply Kd.S_drewN|apply Kd.S_drew));exact Kd.S_mono Af.out (fun _ hk=>hk.2)⟩,⟨kR Ag.out⟩,⟨kR Cr.out⟩,⟨bw_7⟩⟩
    replace Dd:=Bool.eq_false_iff.mpr Dd
    subst Dd
    rw[ig ff]at H
    by_cases Bv:(bt (rdOf ByteArray.empty Ad Ae) Ah) ≥ 65
    rotate_left
    ·rw[ig Bv]at H
     have Cs:decide (65≤(bt (rdOf ByteArray.empty Ad Ae) Ah))=false:=decide_eq_false Bv
     clear Bv
     obtain⟨Du,hy⟩:∃y_:List (List Int),y_=(([]:List (List Int))):=⟨_,rfl⟩
     replace H:(some (Du,false))=some (r1,r2):=rh
     have Bn:=Az.mk hy
     clear hy
     simp only[Option.some.injEq,Prod.mk.injEq]at H
     obtain⟨rfl,rfl⟩:=H
     go_wp2_with (first|((with_reducible refine gtD (N:=35) rfl ?_);refine Kd.S_lit (Kd.slice 3 (Kd.int .i64)) _ 25 ?hg (N:=35) ?hd (xs:=([]:List (List Int))) (inner:=[]) (ok:=fun _=>True) (okp:=fun _=>True) ?hr ?hp (fun _ hk=>hk) trivial (Below.refl _ _) (Nat.le_refl _) (by simp) ?_;(case hd=>rfl);(case hg=>rfl);(case hr=>first|(go_simp;done)|(go_simp;rfl));(case hp=>exact(Reps.none _ _));intro El Ev Au hb hg_ hnew_;clear hg_ hnew_;(first|rw[←Bn.out]at Au|(simp only[Int.reduceToNat]at Au;rw[←Bn.out]at Au));replace Ag:=Az.mk (Kd.R_below (kR Ag.out) hb);have Ct:=Az.mk (Kd.S_lower (Kd.S_new' (Kd.S_new' Au (Kd.S_lt (kS Af.out))) (Kd.R_lt (kR Ai.out))) (bwZ bw_7));replace Af:=Az.mk (Kd.S_elder' (kS Af.out) (Kd.S_base Au) hb);replace Ai:=Az.mk (Kd.R_below (kR Ai.out) hb);replace HB:=Az.mk (bwT bw_7 hb);clear hb Au))
     go_ret2
     exact⟨_,rq1,by(with_reducible repeat(first|apply Kd.S_alloc|apply Kd.S_drewN|apply Kd.S_drew));exact Kd.S_mono Ct.out (fun _ hk=>trivial),bw_7⟩
    rw[ip Bv]at H
    have Cs:decide (65≤(bt (rdOf ByteArray.empty Ad Ae) Ah))=true:=ode Bv
    clear Bv
    by_cases Bw:(bt (rdOf ByteArray.empty Ad Ae) Ah)≤73
    rotate_left
    ·rw[ig Bw]at H
     have Cu:=decide_eq_false Bw
     clear Bw
     obtain⟨Dv,hy⟩:∃y_:List (List Int),y_=(([]:List (List Int))):=⟨_,rfl⟩
     replace H:(some (Dv,false))=some (r1,r2):=rh
     have Bo:=Az.mk hy
     clear hy
     simp only[Option.some.injEq,Prod.mk.injEq]at H
     obtain⟨rfl,rfl⟩:=H
     go_wp2_with (first|((with_reducible refine gtD (N:=35) rfl ?_);refine Kd.S_lit (Kd.slice 3 (Kd.int .i64)) _ 25 ?hg (N:=35) ?hd (xs:=([]:List (List Int))) (inner:=[]) (ok:=fun _=>True) (okp:=fun _=>True) ?hr ?hp (fun _ hk=>hk) trivial (Below.refl _ _) (Nat.le_refl _) (by simp) ?_;(case hd=>rfl);(case hg=>rfl);(case hr=>first|(go_simp;done)|(go_simp;rfl));(case hp=>exact(Reps.none _ _));intro Em Ew Av hb hg_ hnew_;clear hg_ hnew_;(first|rw[←Bo.out]at Av|(simp only[Int.reduceToNat]at Av;rw[←Bo.out]at Av));replace Ag:=Az.mk (Kd.R_below (kR Ag.out) hb);have Cv:=Az.mk (Kd.S_lower (Kd.S_new' (Kd.S_new' Av (Kd.S_lt (kS Af.out))) (Kd.R_lt (kR Ai.out))) (bwZ bw_7));replace Af:=Az.mk (Kd.S_elder' (kS Af.out) (Kd.S_base Av) hb);replace Ai:=Az.mk (Kd.R_below (kR Ai.out) hb);replace HB:=Az.mk (bwT bw_7 hb);clear hb Av))
     go_ret2
     exact⟨_,rq1,by(with_reducible repeat(first|apply Kd.S_alloc|apply Kd.S_drewN|apply Kd.S_drew));exact Kd.S_mono Cv.out (fun _ hk=>trivial),bw_7⟩
    rw[ip Bw]at H
    have Cu:=ode Bw
    clear Bw
    by_cases Df:Ak.length<17592186044416
    rotate_left
    ·rw[ig Df]at H
     exact absurd H (by simp)
    rw[ip Df]at H
    have LMc22:=Az.mk Df
    clear Df
    obtain⟨Cw,hy⟩:∃y_:List Int,y_=(Ak ++ [wrap64 (-(wrap64 ((wrap64 ((wrap64 ((bt (rdOf ByteArray.empty Ad Ae) Ah))) - 65))+1)))]):=⟨_,rfl⟩
    replace H:(fL.l1 Bi Aj Ad Ae Cw (wrap64 (Ah+1)))=some (r1,r2):=rh
    have Cx:=Az.mk hy
    clear hy
    have H':=Az.mk H
    clear H
    go_wp2_with (first|((with_reducible refine gate_builtin (b:= .append) (xs:= #[.tmp 57, .tmp 63]) rfl ?_);at_builtin;refine Kd.R_append (Kd.int .i64) (w0:=w) w.heap.size rfl (.tmp 57) (.tmp 63) 25 3 (.int .i64 0) 8 rfl Try.underlying25 info3 rfl (by decide) (by omega) u7 Ak (wrap64 (-(wrap64 ((wrap64 ((wrap64 ((bt (rdOf ByteArray.empty Ad Ae) Ah))) - 65))+1)))) [.int .i64 (wrap64 (-(wrap64 ((wrap64 ((wrap64 ((bt (rdOf ByteArray.empty Ad Ae) Ah))) - 65))+1))))] (fun _=>True) (fun _=>False) rfl rfl ?aP (fun _ hk=>hk.elim) ?aF ?aO ?aB ?aS ?aL ?_;(case aP=>exact rfl);(case aB=>exact bw_7);(case aF=>exact(fun _ _=>trivial));(case aO=>exact(kR Ai.out));(case aS=>exact(bwZ bw_7));(case aL=>have:=LMc22.out;omega);intro Eo Ex ho hb hg hat;rw[←Cx.out]at ho;have n0_:=Az.mk (Kd.S_after (ok:=(fun _=>True)) (by(with_reducible repeat(first|apply Kd.S_alloc|apply Kd.S_drewN|apply Kd.S_drew));exact Kd.S_mono Af.out (fun _ hk=>⟨trivial,hk⟩)) hg hat);have n1_:=Az.mk (Kd.R_over' (kR Ag.out) (Kd.R_typed (kR Ai.out)) (by decide) hg);have n2_:=Az.mk (hb);have n3_:=Az.mk (ho);clear Af;clear Ag;clear HB;clear Ai;have Af:=n0_;have Ag:=n1_;have HB:=n2_;have Cy:=n3_;clear n0_ n1_ n2_ n3_;clear ho hb hg hat))
    go_roundg Bi
    case measure=>have:=HK1.out;have:=HK2.out;have:=Bh.out;omega
    case rel=>exact⟨(Cw),(wrap64 (Ah+1)),rq2,H',⟨by have:=HK1.out;have:=HK2.out;have:=Bh.out;omega⟩,⟨by(with_reducible repeat(first|apply Kd.S_alloc|apply Kd.S_drewN|apply Kd.S_drew));exact Kd.S_mono Af.out (fun _ hk=>hk.2)⟩,⟨kR Ag.out⟩,⟨kR Cy.out⟩,⟨bw_7⟩⟩
end Go.Proofs.Ytbpnjlemjapnnaa.P

-- The walks, cut and laid together by this session's tools (prune.py, sq2.py, min.py: shorter names, no needless spaces). Not trusted: Lean checks it.
import Derived.Test.YtbpnjlemjapnnaaKWZip
import Derived.Test.YtbpnjlemjapnnaaKPx22
namespace Go.Proofs.Ytbpnjlemjapnnaa.P
open Go.RowKit Go.Proofs.YtbpnjlemjapnnaaW.PrintWords Go.Proofs.YtbpnjlemjapnnaaW.PrintLast Go.Proofs.YtbpnjlemjapnnaaW.PrintMore
attribute [local go_sem] max2_int min2_int max_two min_two max_three min_three max_four min_four   -- for this text's walks alone
set_option linter.unusedVariables false
set_option linter.unusedSimpArgs false
set_option maxHeartbeats 8000000
set_option maxRecDepth 100000
open Option renaming bind_eq_some_iff → be
theorem z26_0 {p:Prop} (h:p:=by first|exact Kd.C_drewN (Kd.C_below HR1.out HB.out) _|exact Kd.C_below HR1.out HB.out):p:=h
def cornerOf (c:Int):Int:=if Int.tmod c 3=2 then wrap64 (wrap64 (Int.tdiv c 3)*3)else wrap64 (wrap64 (wrap64 (Int.tdiv c 3)*3)+Int.tmod (wrap64 (c+1)) 3)
mutual
def fH.l0:Nat→List (List Int)→List Int→List Int→Bool→Option (List Int × Bool)
 |0,_,_,_,_=>none
 |k+1,t,up,out,again=>if again=true then(fH.l1 k t up out 0 false) else(some (out,true))
def fH.l1:Nat→List (List Int)→List Int→List Int→Int→Bool→Option (List Int × Bool)
 |0,_,_,_,_,_=>none
 |k+1,t,up,out,c,again=>if c<wrap64 (3*(t.length:Int)) then(if again=true then(fH.l0 k t up out again) else((fY.l0 k t out up (cornerOf c) 0).bind fun b=>(if b=true then((gF.f k t (cornerOf c)).bind fun y=>(fH.l2 k t up out c y 0)) else(fH.l1 k t up out (wrap64 (c+1)) again)))) else(fH.l0 k t up out again)
def fH.l2:Nat→List (List Int)→List Int→List Int→Int→List Int→Int→Option (List Int × Bool)
 |0,_,_,_,_,_,_=>none
 |k+1,t,up,out,c,y,e=>if e<(y.length:Int) then(if 0≤e then(if e<(out.length:Int) then(fH.l2 k t up (out.set e.toNat (wrap64 (rd out e - rd y e))) c y (wrap64 (e+1)))else none)else none) else(fH.l1 k t up out (wrap64 (c+1)) true)
end
def fH.f (k:Nat) (t:List (List Int)) (x:List Int):Option (List Int × Bool):=(fP.f k t x).bind fun b=>(if b=true then((fZ.f k t).bind fun up=>((jK.f x).bind fun out=>(fH.l0 k t up out true))) else(some (([]:List Int),false)))
set_option maxHeartbeats 16000000 in
theorem fH.calls (k:Nat) (A0:Option Addr) (c0:Nat) (l0:List (List Int)) (A1:Option Addr) (c1:Nat) (l1:List Int) (r1:List Int) (r2:Bool) (w:World) (Am:Kd.C (Kd.slice 3 (Kd.int .i64)) w A0 l0.length l0) (Ao:l0.length≤c0) (Ap:Kd.C (Kd.int .i64) w A1 l1.length l1) (Aq:l1.length≤c1) (h:fH.f k l0 l1=some (r1,r2)):
  Calls Try.prog 10 #[.slice A0 l0.length c0, .slice A1 l1.length c1] w fun e w'=>∃v0_:Value,e= .returned (.tuple #[v0_, .bool r2])∧Kd.R (Kd.int .i64) 3 w' w.heap.size (fun _=>True) v0_ r1∧Below w.heap.size w w':=by
 have Ai:=Az.mk Am
 have Ah:=Az.mk Ao
 have Aj:=Az.mk Ap
 have HXC:=Az.mk Aq
 clear Am Ao Ap Aq
 obtain⟨r,hr⟩:∃r_:List Int × Bool,(r1,r2)=r_:=⟨_,rfl⟩
 have HR:=Az.mk hr
 rw[hr]at h
 clear hr
 unfold fH.f at h
 replace h:=be.mp h
 obtain⟨bf,T1,h⟩:=h
 have T1:=Az.mk T1
 by_cases b1:bf=true
 rotate_left
 ·rw[ig b1]at h
  replace b1:=Bool.eq_false_iff.mpr b1
  subst b1
  obtain rfl:=Option.some.inj h
  obtain⟨rfl,rfl⟩:=Prod.mk.injEq .. ▸ HR.out
  go_enter Try.func10,Try.ntmps10
  go_wp2_with (first
   |(go_at_call 28;refine(fP.calls k A0 c0 l0 A1 c1 l1 false _ (by first|exact Kd.C_drewN Ai.out _|exact Ai.out) Ah.out (by first|exact Kd.C_drewN Aj.out _|exact Aj.out) HXC.out T1.out).mono ?_;rintro e W0 ⟨rfl,hb⟩;have HBa:=Az.mk hb;clear hb T1))
  go_ret2
  exact⟨_,rfl,Kd.R_nil _ _ _ _ _,by first|exact HBa.out|exact pbN HBa.out _⟩
 subst b1
 rw[ip rfl]at h
 replace h:=be.mp h
 obtain⟨up,T2,h⟩:=h
 replace h:=be.mp h
 obtain⟨out,T3,h⟩:=h
 have T2:=Az.mk T2
 have T3:=Az.mk T3
 have H':=Az.mk h
 clear h
 have HB0:=Az.mk (Below.refl w.heap.size w)
 obtain⟨L3,hL3⟩:∃j_:Int,wrap64 (3*(l0.length:Int))=j_:=⟨_,rfl⟩
 have hL3w:IntKind.i64.wrap (3*(l0.length:Int))=L3:=(i64_w _).trans hL3
 go_enter Try.func10,Try.ntmps10
 go_wp2_with (first
  |(go_at_call 28;refine(fP.calls k A0 c0 l0 A1 c1 l1 true _ (by first|exact Kd.C_drewN Ai.out _|exact Ai.out) Ah.out (by first|exact Kd.C_drewN Aj.out _|exact Aj.out) HXC.out T1.out).mono ?_;rintro e W0 ⟨rfl,hb⟩;have HBa:=Az.mk (bwT (by first|exact pbN HB0.out _|exact HB0.out) hb);clear hb T1 HB0)
  |(go_at_call 29;refine(fZ.calls k A0 c0 l0 up _ (by first|exact Kd.C_drewN (Kd.C_below Ai.out HBa.out) _|exact Kd.C_below Ai.out HBa.out) Ah.out T2.out).mono ?_;rintro e W1 ⟨p,AJ,cJ,rfl,hj,hb⟩;have HB1:=Az.mk (bwT (by first|exact pbN HBa.out _|exact HBa.out) hb);have As:=Az.mk (hj.lower (by first|exact HBa.out.size|exact(pbN HBa.out _).size));have HR1:=Az.mk (Kd.C_below Ai.out HB1.out);have Ak:=Az.mk (Kd.C_below Aj.out HB1.out);clear hj hb T2 HBa Ai Aj)
  |(go_at_call 30;refine(jK.calls A1 c1 l1 out _ (by first|exact Kd.C_drewN Ak.out _|exact Ak.out) HXC.out T3.out).mono ?_;rintro e W2 ⟨v,rfl,ho,hb⟩;have HO:=Az.mk (Kd.R_lower (base':=W1.heap.size) ho (by first|exact Nat.le_refl _));have HB:=Az.mk (bwT (by first|exact Below.refl _ _|exact pbN (Below.refl _ _) _) hb);clear ho hb T3 Ak;obtain⟨AO,cO,eO⟩:=Kd.R_slice HO.out;generalize out.length=nO at eO;subst eO))
 go_loopg [8] k (fun kq v8 w'=>∃(Ag:List Int) (ag:Bool),v8= .bool ag∧Az (fH.l0 kq l0 up Ag ag=some r)∧Az (kq≤k)∧Az (Kd.R (Kd.int .i64) 3 w' W1.heap.size (fun _=>True) (.slice AO nO cO) Ag)∧Az (Below W1.heap.size W1 w'))
 case atStart=>exact⟨out,true,rfl,H',⟨Nat.le_refl _⟩,HO,HB⟩
 clear H' HO HB
 obtain⟨Ag,ag,rfl,HA,HK1,HO,HB⟩:=hrel
 cases gk with
 |zero=>exact absurd HA.out (by simp[fH.l0])
 |succ k1=>
  have H:=HA.out
  clear HA
  simp only[fH.l0]at H
  by_cases b2:ag=true
  rotate_left
  ·rw[ig b2]at H
   replace b2:=Bool.eq_false_iff.mpr b2
   subst b2
   obtain rfl:=Option.some.inj H
   obtain⟨rfl,rfl⟩:=Prod.mk.injEq .. ▸ HR.out
   go_wp2
   go_ret2
   exact⟨_,rfl,Kd.R_lower HO.out HB1.out.size,bwT HB1.out HB.out⟩
  subst b2
  rw[ip rfl]at H
  have H':=Az.mk H
  clear H
  go_wp2
  go_loopg [8,9] k1 (fun kq v8 v9 w'=>∃(Ad:List Int) (ag:Bool) (c_1:Int),v8= .bool ag∧v9= .int .i64 c_1∧Az (fH.l1 kq l0 up Ad c_1 ag=some r)∧Az (kq≤k1)∧Az (Kd.R (Kd.int .i64) 3 w' W1.heap.size (fun _=>True) (.slice AO nO cO) Ad)∧Az (Below W1.heap.size W1 w'))
  case atStart=>exact⟨Ag,false,0,rfl,rfl,H',⟨Nat.le_refl _⟩,HO,HB⟩
  clear H' HO HB
  obtain⟨Ad,ag,c_1,rfl,rfl,HA,HK2,HO,HB⟩:=hrel
  cases gk with
  |zero=>exact absurd HA.out (by simp[fH.l1])
  |succ k2=>
   have H:=HA.out
   clear HA
   simp only[fH.l1]at H
   rw[hL3]at H
   by_cases d1:c_1<L3
   rotate_left
   ·rw[ig d1]at H
    have d1b:decide (c_1<L3)=false:=decide_eq_false d1
    clear d1
    have H':=Az.mk H
    clear H
    go_wp2
    go_roundg k2
    case measure=>have:=HK1.out;have:=HK2.out;omega
    case rel=>exact⟨Ad,ag,rfl,H',⟨by have:=HK1.out;have:=HK2.out;omega⟩,HO,HB⟩
   rw[ip d1]at H
   have d1b:=ode d1
   replace d1:=ets d1
   by_cases d2:ag=true
   ·subst d2
    rw[ip rfl]at H
    have H':=Az.mk H
    clear H
    go_wp2
    go_roundg k2
    case measure=>have:=HK1.out;have:=HK2.out;omega
    case rel=>exact⟨Ad,true,rfl,H',⟨by have:=HK1.out;have:=HK2.out;omega⟩,HO,HB⟩
   rw[ig d2]at H
   replace d2:=Bool.eq_false_iff.mpr d2
   subst d2
   by_cases m2:Int.tmod c_1 3=2
   ·have em:cornerOf c_1=wrap64 (wrap64 (Int.tdiv c_1 3)*3):=by unfold cornerOf;rw[ip m2]
    have m2b:(Int.tmod c_1 3== 2)=true:=beq_iff_eq.mpr m2
    rw[em]at H
    clear em m2
    have HJ:=Az.mk (As.out.below HB.out)
    replace H:=be.mp H
    obtain⟨b,T1,H⟩:=H
    have T1:=Az.mk T1
    by_cases bb:b=true
    rotate_left
    ·rw[ig bb]at H
     replace bb:=Bool.eq_false_iff.mpr bb
     subst bb
     have H':=Az.mk H
     clear H
     go_wp2_with (first
      |(go_at_call 31;refine(fY.callsn k2 A0 c0 l0 AO cO Ad nO (Kd.R_reads' HO.out).1 w.heap.size p AJ cJ up _ false _ z26_0 Ah.out (by first|exact Kd.C_drewN (Kd.R_reads' HO.out).2.2 _|exact(Kd.R_reads' HO.out).2.2) (Nat.le_trans (Nat.le_of_eq (Kd.R_reads' HO.out).1.symm) (Kd.R_reads' HO.out).2.1) (by first|exact HJ.out.drewN _|exact HJ.out) T1.out).mono ?_;rintro e W3 ⟨rfl,hb⟩;have HB3:=Az.mk (bwT (by first|exact pbN HB.out _|exact HB.out) hb);have Af:=Az.mk (Kd.R_below (by first|exact Kd.R_drewN HO.out _|exact HO.out) hb);clear hb T1 HB HO HJ;have HB:=HB3;have HO:=Af;clear HB3 Af))
     go_roundg k2
     case measure=>have:=HK1.out;have:=HK2.out;omega
     case rel=>exact⟨Ad,false,_,rfl,rfl,H',⟨by have:=HK2.out;omega⟩,HO,HB⟩
    subst bb
    rw[ip rfl]at H
    replace H:=be.mp H
    obtain⟨ys,T2,H⟩:=H
    have T2:=Az.mk T2
    have H':=Az.mk H
    clear H
    go_wp2_with (first
     |(go_at_call 31;refine(fY.callsn k2 A0 c0 l0 AO cO Ad nO (Kd.R_reads' HO.out).1 w.heap.size p AJ cJ up _ true _ z26_0 Ah.out (by first|exact Kd.C_drewN (Kd.R_reads' HO.out).2.2 _|exact(Kd.R_reads' HO.out).2.2) (Nat.le_trans (Nat.le_of_eq (Kd.R_reads' HO.out).1.symm) (Kd.R_reads' HO.out).2.1) (by first|exact HJ.out.drewN _|exact HJ.out) T1.out).mono ?_;rintro e W3 ⟨rfl,hb⟩;have HB3:=Az.mk (bwT (by first|exact pbN HB.out _|exact HB.out) hb);have Af:=Az.mk (Kd.R_below (by first|exact Kd.R_drewN HO.out _|exact HO.out) hb);clear hb T1 HB HO HJ;have HB:=HB3;have HO:=Af;clear HB3 Af)
     |(go_at_call 32;refine(gF.calls k2 A0 c0 l0 _ ys _ z26_0 Ah.out T2.out).mono ?_;rintro e W4 ⟨vy,rfl,ho,hb⟩;have HB3:=Az.mk (bwT (by first|exact pbN HB.out _|exact HB.out) hb);have Af:=Az.mk (Kd.R_below (by first|exact Kd.R_drewN HO.out _|exact HO.out) hb);have HY:=Az.mk (Kd.R_lower (Kd.R_new' ho (Kd.R_lt (by first|exact Kd.R_drewN HO.out _|exact HO.out))) (by first|exact HB.out.size|exact(pbN HB.out _).size));clear ho hb T2 HB HO;have HB:=HB3;have HO:=Af;clear HB3 Af;obtain⟨AY,cY,eY⟩:=Kd.R_slice HY.out;subst eY))
    go_loopg [55] k2 (fun kq Al w'=>∃(Ae:List Int) (e_1:Int),Al= .int .i64 e_1∧Az (fH.l2 kq l0 up Ae c_1 ys e_1=some r)∧Az (kq≤k2)∧Az (Kd.R (Kd.int .i64) 3 w' W1.heap.size (fun _=>True) (.slice AO nO cO) Ae)∧Az (Kd.R (Kd.int .i64) 3 w' W1.heap.size (fun k_=>True∧some k_≠(Value.slice AO nO cO).ownBlock) (.slice AY ys.length cY) ys)∧Az (Below W1.heap.size W1 w'))
    case atStart=>exact⟨Ad,0,rfl,H',⟨Nat.le_refl _⟩,HO,HY,HB⟩
    clear H' HO HY HB
    obtain⟨Ae,e_1,rfl,HA,HK3,HO,HY,HB⟩:=hrel
    cases gk with
    |zero=>exact absurd HA.out (by simp[fH.l2])
    |succ k3=>
     have H:=HA.out
     clear HA
     simp only[fH.l2]at H
     by_cases f1:e_1<(ys.length:Int)
     rotate_left
     ·rw[ig f1]at H
      have f1b:decide (e_1<(ys.length:Int))=false:=decide_eq_false f1
      clear f1
      have H':=Az.mk H
      clear H
      go_wp2
      go_roundg k3
      case measure=>have:=HK1.out;have:=HK2.out;have:=HK3.out;omega
      case rel=>exact⟨Ae,true,_,rfl,rfl,H',⟨by have:=HK2.out;have:=HK3.out;omega⟩,HO,HB⟩
     rw[ip f1]at H
     by_cases f0:0≤e_1
     rotate_left
     ·rw[ig f0]at H
      exact absurd H (by simp)
     rw[ip f0]at H
     by_cases f2:e_1<(Ae.length:Int)
     rotate_left
     ·rw[ig f2]at H
      exact absurd H (by simp)
     rw[ip f2]at H
     have H':=Az.mk H
     clear H
     obtain⟨ady,ey,hy⟩:=Kd.at_int (Kd.R_reads' HY.out).2.2 e_1 f0 f1
     subst ey
     obtain⟨g,eg⟩:=row_some HO.out f0 f2
     subst eg
     obtain⟨hx,hf,zn,fin⟩:=row_at HO.out HB.out f0 f2
     have f1b:=ode f1
     replace f0:=ets f0
     replace f1:=ets f1
     replace f2:=ets f2
     replace zn:=ets zn
     go_wp2
     go_roundg k3
     case measure=>have:=HK1.out;have:=HK2.out;have:=HK3.out;omega
     case rel=>exact⟨_,_,rfl,H',⟨by have:=HK3.out;omega⟩,⟨(fin.out _ _ (by first|exact⟨_,rfl⟩|exact Drawn0.refl _)).1⟩,⟨Kd.R_far (p:=⟨g,e_1.toNat,none⟩) HY.out (fun k_ hk_ e_=>hk_.2 (by rw[e_];rfl)) _⟩,⟨(fin.out _ _ (by first|exact⟨_,rfl⟩|exact Drawn0.refl _)).2⟩⟩
   have em:cornerOf c_1=wrap64 (wrap64 (wrap64 (Int.tdiv c_1 3)*3)+Int.tmod (wrap64 (c_1+1)) 3):=by unfold cornerOf;rw[ig m2]
   have m2b:(Int.tmod c_1 3== 2)=false:=beq_eq_false_iff_ne.mpr m2
   rw[em]at H
   clear em m2
   have HJ:=Az.mk (As.out.below HB.out)
   replace H:=be.mp H
   obtain⟨b,T1,H⟩:=H
   have T1:=Az.mk T1
   by_cases bb:b=true
   rotate_left
   ·rw[ig bb]at H
    replace bb:=Bool.eq_false_iff.mpr bb
    subst bb
    have H':=Az.mk H
    clear H
    go_wp2_with (first
     |(go_at_call 31;refine(fY.callsn k2 A0 c0 l0 AO cO Ad nO (Kd.R_reads' HO.out).1 w.heap.size p AJ cJ up _ false _ z26_0 Ah.out (by first|exact Kd.C_drewN (Kd.R_reads' HO.out).2.2 _|exact(Kd.R_reads' HO.out).2.2) (Nat.le_trans (Nat.le_of_eq (Kd.R_reads' HO.out).1.symm) (Kd.R_reads' HO.out).2.1) (by first|exact HJ.out.drewN _|exact HJ.out) T1.out).mono ?_;rintro e W3 ⟨rfl,hb⟩;have HB3:=Az.mk (bwT (by first|exact pbN HB.out _|exact HB.out) hb);have Af:=Az.mk (Kd.R_below (by first|exact Kd.R_drewN HO.out _|exact HO.out) hb);clear hb T1 HB HO HJ;have HB:=HB3;have HO:=Af;clear HB3 Af))
    go_roundg k2
    case measure=>have:=HK1.out;have:=HK2.out;omega
    case rel=>exact⟨Ad,false,_,rfl,rfl,H',⟨by have:=HK2.out;omega⟩,HO,HB⟩
   subst bb
   rw[ip rfl]at H
   replace H:=be.mp H
   obtain⟨ys,T2,H⟩:=H
   have T2:=Az.mk T2
   have H':=Az.mk H
   clear H
   go_wp2_with (first
    |(go_at_call 31;refine(fY.callsn k2 A0 c0 l0 AO cO Ad nO (Kd.R_reads' HO.out).1 w.heap.size p AJ cJ up _ true _ z26_0 Ah.out (by first|exact Kd.C_drewN (Kd.R_reads' HO.out).2.2 _|exact(Kd.R_reads' HO.out).2.2) (Nat.le_trans (Nat.le_of_eq (Kd.R_reads' HO.out).1.symm) (Kd.R_reads' HO.out).2.1) (by first|exact HJ.out.drewN _|exact HJ.out) T1.out).mono ?_;rintro e W3 ⟨rfl,hb⟩;have HB3:=Az.mk (bwT (by first|exact pbN HB.out _|exact HB.out) hb);have Af:=Az.mk (Kd.R_below (by first|exact Kd.R_drewN HO.out _|exact HO.out) hb);clear hb T1 HB HO HJ;have HB:=HB3;have HO:=Af;clear HB3 Af)
    |(go_at_call 32;refine(gF.calls k2 A0 c0 l0 _ ys _ z26_0 Ah.out T2.out).mono ?_;rintro e W4 ⟨vy,rfl,ho,hb⟩;have HB3:=Az.mk (bwT (by first|exact pbN HB.out _|exact HB.out) hb);have Af:=Az.mk (Kd.R_below (by first|exact Kd.R_drewN HO.out _|exact HO.out) hb);have HY:=Az.mk (Kd.R_lower (Kd.R_new' ho (Kd.R_lt (by first|exact Kd.R_drewN HO.out _|exact HO.out))) (by first|exact HB.out.size|exact(pbN HB.out _).size));clear ho hb T2 HB HO;have HB:=HB3;have HO:=Af;clear HB3 Af;obtain⟨AY,cY,eY⟩:=Kd.R_slice HY.out;subst eY))
   go_loopg [55] k2 (fun kq Al w'=>∃(Ae:List Int) (e_1:Int),Al= .int .i64 e_1∧Az (fH.l2 kq l0 up Ae c_1 ys e_1=some r)∧Az (kq≤k2)∧Az (Kd.R (Kd.int .i64) 3 w' W1.heap.size (fun _=>True) (.slice AO nO cO) Ae)∧Az (Kd.R (Kd.int .i64) 3 w' W1.heap.size (fun k_=>True∧some k_≠(Value.slice AO nO cO).ownBlock) (.slice AY ys.length cY) ys)∧Az (Below W1.heap.size W1 w'))
   case atStart=>exact⟨Ad,0,rfl,H',⟨Nat.le_refl _⟩,HO,HY,HB⟩
   clear H' HO HY HB
   obtain⟨Ae,e_1,rfl,HA,HK3,HO,HY,HB⟩:=hrel
   cases gk with
   |zero=>exact absurd HA.out (by simp[fH.l2])
   |succ k3=>
    have H:=HA.out
    clear HA
    simp only[fH.l2]at H
    by_cases f1:e_1<(ys.length:Int)
    rotate_left
    ·rw[ig f1]at H
     have f1b:decide (e_1<(ys.length:Int))=false:=decide_eq_false f1
     clear f1
     have H':=Az.mk H
     clear H
     go_wp2
     go_roundg k3
     case measure=>have:=HK1.out;have:=HK2.out;have:=HK3.out;omega
     case rel=>exact⟨Ae,true,_,rfl,rfl,H',⟨by have:=HK2.out;have:=HK3.out;omega⟩,HO,HB⟩
    rw[ip f1]at H
    by_cases f0:0≤e_1
    rotate_left
    ·rw[ig f0]at H
     exact absurd H (by simp)
    rw[ip f0]at H
    by_cases f2:e_1<(Ae.length:Int)
    rotate_left
    ·rw[ig f2]at H
     exact absurd H (by simp)
    rw[ip f2]at H
    have H':=Az.mk H
    clear H
    obtain⟨ady,ey,hy⟩:=Kd.at_int (Kd.R_reads' HY.out).2.2 e_1 f0 f1
    subst ey
    obtain⟨g,eg⟩:=row_some HO.out f0 f2
    subst eg
    obtain⟨hx,hf,zn,fin⟩:=row_at HO.out HB.out f0 f2
    have f1b:=ode f1
    replace f0:=ets f0
    replace f1:=ets f1
    replace f2:=ets f2
    replace zn:=ets zn
    go_wp2
    go_roundg k3
    case measure=>have:=HK1.out;have:=HK2.out;have:=HK3.out;omega
    case rel=>exact⟨_,_,rfl,H',⟨by have:=HK3.out;omega⟩,⟨(fin.out _ _ (by first|exact⟨_,rfl⟩|exact Drawn0.refl _)).1⟩,⟨Kd.R_far (p:=⟨g,e_1.toNat,none⟩) HY.out (fun k_ hk_ e_=>hk_.2 (by rw[e_];rfl)) _⟩,⟨(fin.out _ _ (by first|exact⟨_,rfl⟩|exact Drawn0.refl _)).2⟩⟩
theorem bw_27 {n:Nat}{v v':World} (h:Below n v v':=by repeat(first|(with_reducible first|exact HB.out|apply bwA|apply pbN|apply bwD)|exact HB.out)):Below n v v':=h
mutual
def fV.l0:Nat→List Int→List (List Int)→List Bool→Int→Int→Option ((List (List Int)))
 |0,_,_,_,_,_=>none
 |k+1,x0,x3,x4,x13,x14=>if x14<x13 then(if 0≤x14 then(if x14<(x4.length:Int) then(if rdOf false x4 x14=true then(fV.l0 k x0 x3 x4 x13 (wrap64 (x14+1))) else(fV.l1 k x0 x3 x4 (([]:List Int)) x14 x13 x14)) else(none)) else(none)) else(some x3)
def fV.l1:Nat→List Int→List (List Int)→List Bool→List Int→Int→Int→Int→Option ((List (List Int)))
 |0,_,_,_,_,_,_,_=>none
 |k+1,x0,x3,x4,x6,x7,x13,x14=>if 0≤x7 then(if x7<(x4.length:Int) then(if rdOf false x4 x7=true then(if x3.length<5864062014805 then(fV.l0 k x0 (x3 ++ [x6]) x4 x13 (wrap64 (x14+1))) else(none)) else(if x6.length<17592186044416 then(if x7<(x0.length:Int) then(fV.l1 k x0 x3 (x4.set (x7:Int).toNat true) (x6 ++ [x7]) (rd x0 x7) x13 x14) else(none)) else(none))) else(none)) else(none)
end
def fV.f (k:Nat) (l0:List Int):Option ((List (List Int))):=if 0≤(l0.length:Int) then(if((l0.length:Int):Int).toNat≤281474976710656 then(fV.l0 k l0 (([]:List (List Int))) (List.replicate ((l0.length:Int):Int).toNat false) (l0.length:Int) 0) else(none)) else(none)
theorem fV.calls (k:Nat) (A0:Option Addr) (c0:Nat) (l0:List Int) (r:List (List Int)) (w:World) (Dl:Kd.C (Kd.int .i64) w A0 l0.length l0) (Dm:l0.length≤c0) (h:fV.f k l0=some r):
  Calls Try.prog 33 #[.slice A0 l0.length c0] w fun e w'=>∃v0_:Value,e= .returned (v0_)∧Kd.S (Kd.slice 3 (Kd.int .i64)) 25 w' w.heap.size (fun _=>True) v0_ r∧Below w.heap.size w w':=by
 have Dr:=Az.mk Dl
 have Ec:=Az.mk Dm
 clear Dl Dm
 have HB:=Az.mk (Below.refl w.heap.size w)
 have H:(if 0≤(l0.length:Int) then(if((l0.length:Int):Int).toNat≤281474976710656 then(fV.l0 k l0 (([]:List (List Int))) (List.replicate ((l0.length:Int):Int).toNat false) (l0.length:Int) 0) else(none)) else(none))=some r:=h
 clear h
 obtain⟨Bj,hy⟩:∃y_:List (List Int),y_=(([]:List (List Int))):=⟨_,rfl⟩
 replace H:(if 0≤(l0.length:Int) then(if((l0.length:Int):Int).toNat≤281474976710656 then(fV.l0 k l0 Bj (List.replicate ((l0.length:Int):Int).toNat false) (l0.length:Int) 0) else(none)) else(none))=some r:=rh
 have Bb:=Az.mk hy
 clear hy
 by_cases c2:0≤(l0.length:Int)
 rotate_left
 ·rw[ig c2]at H
  exact absurd H (by simp)
 rw[ip c2]at H
 have Bz:=ets c2
 have Ca:=ode c2
 clear c2
 by_cases c3:((l0.length:Int):Int).toNat≤281474976710656
 rotate_left
 ·rw[ig c3]at H
  exact absurd H (by simp)
 rw[ip c3]at H
 have Cb:=ets c3
 have Cc:=ode c3
 clear c3
 obtain⟨Bo,hy⟩:∃y_:List Bool,y_=(List.replicate ((l0.length:Int):Int).toNat false):=⟨_,rfl⟩
 replace H:(fV.l0 k l0 Bj Bo (l0.length:Int) 0)=some r:=rh
 have Bc:=Az.mk hy
 clear hy
 have H':=Az.mk H
 clear H
 go_enter Try.func33,Try.ntmps33
 try go_wp2
 replace HB:=Az.mk (bwD HB.out)
 refine start_ (n:=6) (S:=fun w'=>True) (ds:=[]) #[false,false,false,false,false,false] (by kernel_rfl) rfl rfl trivial (fun hHeld=>?_)
 generalize w.drew=w4 at HB hHeld ⊢
 refine pure_ (i:=1) (N:=some 9) (v:=?_) (a':=?_) #[false,true,false,false,false,false] rfl rfl (by kernel_rfl) (fun _ _ _ h=>h) (Or.inl ⟨by rfl,?_⟩) ?_ ?_
 rotate_left
 ·intro w'
  go_simp
  with_reducible rfl
 rotate_left
 ·exact acq
 refine pure_ (i:=2) (N:=some 10) (v:=?_) (a':=?_) #[false,true,true,false,false,false] rfl rfl (by kernel_rfl) (fun _ _ _ h=>h) (Or.inl ⟨by rfl,?_⟩) ?_ ?_
 rotate_left
 ·intro w'
  go_simp
  with_reducible rfl
 rotate_left
 ·exact acq
 refine join_ (σ:=Value × Value) 1 #[true,true,true,true,true,false] (fun s_=>[(8,s_.1),(11,s_.2),(3,s_.1)]) (fun s_ w'=>(Kd.S (Kd.slice 3 (Kd.int .i64)) 25 w' w.heap.size (fun _=>True) s_.1 Bj)∧(Kd.R Kd.bool 4 w' w.heap.size (fun _=>True) s_.2 Bo)∧(Below w.heap.size w w')) ?_ ?_
 rotate_left
 ·intro hCont
  refine two_ (i:=0) (j:=3) (Ni:=some 8) (Nj:=some 11) #[true,true,true,false,false,false] #[false,true,true,true,false,false] rfl rfl rfl rfl (by kernel_rfl) (by decide) (by decide) (fun K hK=>?_) (fun K hK=>?_)
  ·skip
   refine Kd.S_lit_step (Kd.slice 3 (Kd.int .i64)) _ 25 ?hg (N:=8) ?hd (xs:=([]:List (List Int))) (inner:=[]) (ok:=fun _=>True) (okp:=fun _=>True) ?hr ?hp (fun _ hk=>hk) trivial (Below.refl _ _) (Nat.le_refl _) (by simp) ?_;(case hd=>rfl);(case hg=>rfl);(case hr=>first|(go_simp;done)|(go_simp;rfl));(case hp=>exact(Reps.none _ _))
   intro Bk w5 Bl hb hg_ hnew_
   clear hg_ hnew_
   (first|rw[←Bb.out]at Bl|(simp only[Int.reduceToNat]at Bl;rw[←Bb.out]at Bl))
   have Ap:=Az.mk (Kd.S_lower Bl (bwZ bw_27));replace HB:=Az.mk (bwT bw_27 hb)
   clear hb Bl
   refine hK.out _ _ trivial (fun hHeld=>?_)
   clear hK K
   refine norm_ (a':=?_) ?_ ?_
   rotate_left
   ·show Act.put _ (some 8) _=_
    exact acq
   refine pure_ (i:=4) (N:=some 3) (v:=?_) (a':=?_) #[true,true,true,false,true,false] rfl rfl (by kernel_rfl) (fun _ _ _ h=>h) (Or.inl ⟨by rfl,?_⟩) ?_ ?_
   rotate_left
   ·intro w'
    go_simp
    with_reducible rfl
   rotate_left
   ·exact acq
   refine one_ (i:=3) (N:=some 11) #[true,true,true,true,true,false] rfl rfl (by kernel_rfl) (by decide) (fun K hK=>?_)
   refine Kd.R_make_step Kd.bool _ 4 (by rfl) (N:=11) rfl 72 _ _ rfl (l0.length:Int) rfl rfl Try.underlying72 (.bool false) 1 info4 rfl (by decide) (by omega) false (ok:=fun _=>True) (okp:=fun _=>True) rfl (fun _ hk=>hk) trivial (od) (Nat.le_trans (Nat.mul_le_mul_right _ (od:(l0.length:Int).toNat≤281474976710656)) (by omega)) (Below.refl _ _) (Nat.le_refl _) ?_
   intro Bh w7 Bm hb hg_ hnew_
   clear hg_ hnew_
   (first|rw[←Bc.out]at Bm|(simp only[Int.reduceToNat]at Bm;rw[←Bc.out]at Bm))
   replace Ap:=Az.mk (Kd.S_below (kS Ap.out) hb);have Aq:=Az.mk (Kd.R_lower Bm (bwZ bw_27));replace HB:=Az.mk (bwT bw_27 hb)
   clear hb Bm
   refine hK.out _ _ trivial (fun hHeld=>?_)
   clear hK K
   refine norm_ (a':=?_) ?_ ?_
   rotate_left
   ·show Act.put _ (some 11) _=_
    exact acq
   exact norm_ (by simp only[putAll,Act.put,List.setIfInBounds_toArray,List.set_cons_zero,List.set_cons_succ]) (hCont (Bk,Bh) _ ⟨(kS Ap.out),(kR Aq.out),bw_27⟩)
  skip
  refine Kd.R_make_step Kd.bool _ 4 (by rfl) (N:=11) rfl 72 _ _ rfl (l0.length:Int) rfl rfl Try.underlying72 (.bool false) 1 info4 rfl (by decide) (by omega) false (ok:=fun _=>True) (okp:=fun _=>True) rfl (fun _ hk=>hk) trivial (od) (Nat.le_trans (Nat.mul_le_mul_right _ (od:(l0.length:Int).toNat≤281474976710656)) (by omega)) (Below.refl _ _) (Nat.le_refl _) ?_
  intro Bh w5 Bl hb hg_ hnew_
  clear hg_ hnew_
  (first|rw[←Bc.out]at Bl|(simp only[Int.reduceToNat]at Bl;rw[←Bc.out]at Bl))
  have Aq:=Az.mk (Kd.R_lower Bl (bwZ bw_27));replace HB:=Az.mk (bwT bw_27 hb)
  clear hb Bl
  refine hK.out _ _ trivial (fun hHeld=>?_)
  clear hK K
  refine norm_ (a':=?_) ?_ ?_
  rotate_left
  ·show Act.put _ (some 11) _=_
   exact acq
  refine one_ (i:=0) (N:=some 8) #[true,true,true,true,false,false] rfl rfl (by kernel_rfl) (by decide) (fun K hK=>?_)
  refine Kd.S_lit_step (Kd.slice 3 (Kd.int .i64)) _ 25 ?hg (N:=8) ?hd (xs:=([]:List (List Int))) (inner:=[]) (ok:=fun _=>True) (okp:=fun _=>True) ?hr ?hp (fun _ hk=>hk) trivial (Below.refl _ _) (Nat.le_refl _) (by simp) ?_;(case hd=>rfl);(case hg=>rfl);(case hr=>first|(go_simp;done)|(go_simp;rfl));(case hp=>exact(Reps.none _ _))
  intro Bk w7 Bm hb hg_ hnew_
  clear hg_ hnew_
  (first|rw[←Bb.out]at Bm|(simp only[Int.reduceToNat]at Bm;rw[←Bb.out]at Bm))
  replace Aq:=Az.mk (Kd.R_below (kR Aq.out) hb);have Ap:=Az.mk (Kd.S_lower Bm (bwZ bw_27));replace HB:=Az.mk (bwT bw_27 hb)
  clear hb Bm
  refine hK.out _ _ trivial (fun hHeld=>?_)
  clear hK K
  refine norm_ (a':=?_) ?_ ?_
  rotate_left
  ·show Act.put _ (some 8) _=_
   exact acq
  refine pure_ (i:=4) (N:=some 3) (v:=?_) (a':=?_) #[true,true,true,true,true,false] rfl rfl (by kernel_rfl) (fun _ _ _ h=>h) (Or.inl ⟨by rfl,?_⟩) ?_ ?_
  rotate_left
  ·intro w'
   go_simp
   with_reducible rfl
  rotate_left
  ·exact acq
  exact norm_ (by simp only[putAll,Act.put,List.setIfInBounds_toArray,List.set_cons_zero,List.set_cons_succ]) (hCont (Bk,Bh) _ ⟨(kS Ap.out),(kR Aq.out),bw_27⟩)
 rintro ⟨Bk,Bh⟩ w9 ⟨h0_,h1_,h2_⟩
 have n0_:Az (Kd.S (Kd.slice 3 (Kd.int .i64)) 25 w9 w.heap.size (fun _=>True) Bk Bj):=⟨h0_⟩
 have n1_:Az (Kd.R Kd.bool 4 w9 w.heap.size (fun _=>True) Bh Bo):=⟨h1_⟩
 have n2_:Az (Below w.heap.size w w9):=⟨h2_⟩
 clear HB
 clear h0_ h1_ h2_
 have Ap:=n0_
 have Aq:=n1_
 have HB:=n2_
 clear n0_ n1_ n2_
 have hHeld:=trivial
 refine norm_ (a':=?_) ?_ ?_
 rotate_left
 ·simp only[putAll,Act.put,List.setIfInBounds_toArray,List.set_cons_zero,List.set_cons_succ]
  rfl
 refine pure_ (i:=5) (N:=some 4) (v:=?_) (a':=?_) #[true,true,true,true,true,true] rfl rfl (by kernel_rfl) (fun _ _ _ h=>h) (Or.inl ⟨by rfl,?_⟩) ?_ ?_
 rotate_left
 ·intro w'
  go_simp
  with_reducible rfl
 rotate_left
 ·exact acq
 refine done_ (by kernel_rfl) ?_
 try go_wp2
 go_loopg [3,14] k (fun kq v3 Ds w'=>∃(Ag:List (List Int)) (Am:List Bool) (Ad:Int),Ds= .int .i64 Ad∧Az (fV.l0 kq l0 Ag Am (l0.length:Int) Ad=some r)∧Az (kq≤k)∧Az (Kd.S (Kd.slice 3 (Kd.int .i64)) 25 w' w.heap.size (fun _=>True) v3 Ag)∧Az (Kd.R Kd.bool 4 w' w.heap.size (fun _=>True) Bh Am)∧Az (Below w.heap.size w w'))
 case atStart=>exact⟨(Bj),(Bo),(0),rq2,H',⟨Nat.le_refl _⟩,⟨kS Ap.out⟩,⟨kR Aq.out⟩,⟨bw_27⟩⟩
 clear H'
 try clear c2
 try clear Bz
 try clear Ca
 try clear c3
 try clear Cb
 try clear Cc
 obtain⟨Ag,Am,Ad,rfl,HA,HK1,Ah,Af,HB⟩:=hrel
 cases gk with
 |zero=>exact absurd HA.out (by simp[fV.l0])
 |succ k1=>
  have H:=HA.out
  clear HA
  simp only[fV.l0]at H
  by_cases Bt:Ad<(l0.length:Int)
  rotate_left
  ·rw[ig Bt]at H
   have Br:=decide_eq_false Bt
   clear Bt
   obtain rfl:=Option.some.inj H
   go_wp2
   go_ret
   exact⟨_,rq1,kS Ah.out,bw_27⟩
  rw[ip Bt]at H
  have Br:=ode Bt
  clear Bt
  by_cases Cd:0≤Ad
  rotate_left
  ·rw[ig Cd]at H
   exact absurd H (by simp)
  rw[ip Cd]at H
  have Ce:=ode Cd
  clear Cd
  by_cases Cf:Ad<(Am.length:Int)
  rotate_left
  ·rw[ig Cf]at H
   exact absurd H (by simp)
  rw[ip Cf]at H
  have Cg:=ode Cf
  clear Cf
  obtain⟨bq13,hbq13⟩:∃b_:Bool,b_=(rdOf false Am Ad):=⟨_,rfl⟩
  replace H:(if bq13=true then(fV.l0 k1 l0 Ag Am (l0.length:Int) (wrap64 (Ad+1))) else(fV.l1 k1 l0 Ag Am (([]:List Int)) Ad (l0.length:Int) Ad))=some r:=by rw[←hbq13]at H;exact H
  have Nbq13:=Az.mk hbq13
  clear hbq13
  by_cases Ch:bq13=true
  ·subst Ch
   rw[ip rfl]at H
   have H':=Az.mk H
   clear H
   obtain⟨Dt,Du,Db⟩:=Kd.R_slice Af.out
   subst Db
   have Au:0≤(Ad:Int):=od
   have Av:Ad<(Am.length:Int):=od
   obtain⟨Bd,Bu,Ao⟩:=Kd.at_bool (Kd.R_reads' Af.out).2.2 Ad Au Av
   (try rw[←Nbq13.out]at Ao)
   cases Bu
   replace Au:=ets Au
   replace Av:=ets Av
   go_wp2
   go_roundg k1
   case measure=>have:=HK1.out;omega
   case rel=>exact⟨(Ag),(Am),(wrap64 (Ad+1)),rq2,H',⟨by have:=HK1.out;omega⟩,⟨kS Ah.out⟩,⟨kR Af.out⟩,⟨bw_27⟩⟩
  replace Ch:=Bool.eq_false_iff.mpr Ch
  subst Ch
  rw[ig ff]at H
  obtain⟨Ci,hy⟩:∃y_:List Int,y_=(([]:List Int)):=⟨_,rfl⟩
  replace H:(fV.l1 k1 l0 Ag Am Ci Ad (l0.length:Int) Ad)=some r:=rh
  have Bs:=Az.mk hy
  clear hy
  have H':=Az.mk H
  clear H
  obtain⟨Dv,Bp,Dc⟩:=Kd.R_slice Af.out
  subst Dc
  have Au:0≤(Ad:Int):=od
  have Av:Ad<(Am.length:Int):=od
  obtain⟨Bd,Bu,Ao⟩:=Kd.at_bool (Kd.R_reads' Af.out).2.2 Ad Au Av
  (try rw[←Nbq13.out]at Ao)
  cases Bu
  replace Au:=ets Au
  replace Av:=ets Av
  go_wp2_with (first|((with_reducible refine gtD (N:=21) rfl ?_);refine Kd.R_lit (Kd.int .i64) _ 3 ?hg (N:=21) ?hd (xs:=([]:List Int)) (inner:=[]) (ok:=fun _=>True) (okp:=fun _=>True) ?hr ?hp (fun _ hk=>hk) trivial (Below.refl _ _) (Nat.le_refl _) (by simp) ?_;(case hd=>rfl);(case hg=>rfl);(case hr=>first|(go_simp;done)|(go_simp;rfl));(case hp=>exact(Reps.none _ _));intro Dw Ed Bi hb hg_ hnew_;clear hg_ hnew_;(first|rw[←Bs.out]at Bi|(simp only[Int.reduceToNat]at Bi;rw[←Bs.out]at Bi));replace Ah:=Az.mk (Kd.S_elder' (kS Ah.out) (Kd.R_base Bi) hb);replace Af:=Az.mk (Kd.R_below (kR Af.out) hb);have Cj:=Az.mk (Kd.R_lower Bi (bwZ bw_27));replace HB:=Az.mk (bwT bw_27 hb);clear hb Bi))
  go_loopg [6,7] k1 (fun kq v6 v7 w'=>∃(Ak:List Bool) (Al:List Int) (Ae:Int),v7= .int .i64 Ae∧Az (fV.l1 kq l0 Ag Ak Al Ae (l0.length:Int) Ad=some r)∧Az (kq≤k1)∧Az (Kd.S (Kd.slice 3 (Kd.int .i64)) 25 w' w.heap.size (fun k_=>some k_≠(v6:Value).ownBlock) u3 Ag)∧Az (Kd.R Kd.bool 4 w' w.heap.size (fun _=>True) (.slice (some Bd) Am.length Bp) Ak)∧Az (Kd.R (Kd.int .i64) 3 w' w.heap.size (fun _=>True) v6 Al)∧Az (Below w.heap.size w w'))
  case atStart=>exact⟨(Am),(Ci),(Ad),rq2,H',⟨Nat.le_refl _⟩,⟨by(with_reducible repeat(first|apply Kd.S_alloc|apply Kd.S_drewN|apply Kd.S_drew));exact Kd.S_mono Ah.out (fun _ hk=>hk.2)⟩,⟨kR Af.out⟩,⟨kR Cj.out⟩,⟨bw_27⟩⟩
  clear H'
  try clear c2
  try clear Bz
  try clear Ca
  try clear c3
  try clear Cb
  try clear Cc
  try clear Bt
  try clear Br
  try clear Cd
  try clear Ce
  try clear Cf
  try clear Cg
  try clear Ch
  try clear Ao
  try clear Au
  try clear Av
  obtain⟨Ak,Al,Ae,rfl,HA,HK2,Ah,Af,As,HB⟩:=hrel
  have Ai:=(Kd.R_reads' Af.out).1
  rw[Ai]at Af
  (try simp only[Ai])
  (try simp only[Ai]at Ah)
  (try simp only[Ai]at As)
  cases gk with
  |zero=>exact absurd HA.out (by simp[fV.l1])
  |succ k2=>
   have H:=HA.out
   clear HA
   simp only[fV.l1]at H
   by_cases Cv:0≤Ae
   rotate_left
   ·rw[ig Cv]at H
    exact absurd H (by simp)
   rw[ip Cv]at H
   have Dn:=ode Cv
   clear Cv
   by_cases Cw:Ae<(Ak.length:Int)
   rotate_left
   ·rw[ig Cw]at H
    exact absurd H (by simp)
   rw[ip Cw]at H
   have Do:=ode Cw
   clear Cw
   obtain⟨bq21,hbq21⟩:∃b_:Bool,b_=(rdOf false Ak Ae):=⟨_,rfl⟩
   replace H:(if bq21=true then(if Ag.length<5864062014805 then(fV.l0 k2 l0 (Ag ++ [Al]) Ak (l0.length:Int) (wrap64 (Ad+1))) else(none)) else(if Al.length<17592186044416 then(if Ae<(l0.length:Int) then(fV.l1 k2 l0 Ag (Ak.set (Ae:Int).toNat true) (Al ++ [Ae]) (rd l0 Ae) (l0.length:Int) Ad) else(none)) else(none)))=some r:=by rw[←hbq21]at H;exact H
   have Nbq21:=Az.mk hbq21
   clear hbq21
   by_cases Cx:bq21=true
   ·subst Cx
    rw[ip rfl]at H
    by_cases Cy:Ag.length<5864062014805
    rotate_left
    ·rw[ig Cy]at H
     exact absurd H (by simp)
    rw[ip Cy]at H
    have LMc23:=Az.mk Cy
    clear Cy
    obtain⟨Ck,hy⟩:∃y_:List (List Int),y_=(Ag ++ [Al]):=⟨_,rfl⟩
    replace H:(fV.l0 k2 l0 Ck Ak (l0.length:Int) (wrap64 (Ad+1)))=some r:=rh
    have Cl:=Az.mk hy
    clear hy
    have H':=Az.mk H
    clear H
    have Ay:0≤(Ae:Int):=od
    have Ba:Ae<(Ak.length:Int):=od
    obtain⟨Bn,Bv,Aj⟩:=Kd.at_bool (Kd.R_reads' Af.out).2.2 Ae Ay Ba
    (try rw[←Nbq13.out]at Aj)
    (try rw[←Nbq21.out]at Aj)
    obtain rfl:Bd=Bn:=(by injection Bv)
    replace Ay:=ets Ay
    replace Ba:=ets Ba
    obtain⟨Cm,Cn,Dd⟩:=Kd.R_slice As.out
    subst Dd
    go_wp2_with (first|((with_reducible refine gate_builtin (b:= .append) (xs:= #[.tmp 39, .tmp 41]) rfl ?_);at_builtin;refine Kd.S_append (Kd.slice 3 (Kd.int .i64)) (w0:=w) w.heap.size rfl (.tmp 39) (.tmp 41) 24 25 (.slice none 0 0) 24 rfl Try.underlying24 info25 rfl (by decide) (by omega) u3 Ag Al [.slice Cm Al.length Cn] (fun _=>True) (fun k_=>some k_=(.slice Cm Al.length Cn:Value).ownBlock) rfl rfl ?aP (fun k_ hk_=>((Kd.R_mono (ok':=fun k_=>((fun _=>True)) k_∧some k_≠(u3:Value).ownBlock) (Kd.R_apart' (As.out) (Kd.S_typed Ah.out) (by decide)) (fun k_ hk=>⟨trivial,hk.2⟩))).1 k_ hk_.symm) ?aF ?aO ?aB ?aS ?aL ?_;(case aP=>exact Kd.M_row (Kd.R_mono (Kd.R_tight rfl (Kd.R_mono (ok':=fun k_=>((fun _=>True)) k_∧some k_≠(u3:Value).ownBlock) (Kd.R_apart' (As.out) (Kd.S_typed Ah.out) (by decide)) (fun k_ hk=>⟨trivial,hk.2⟩))) (fun _ h_=>h_)));(case aB=>exact bw_27);(case aF=>exact(fun _ _=>trivial));(case aO=>exact(by(with_reducible repeat(first|apply Kd.S_alloc|apply Kd.S_drewN|apply Kd.S_drew));exact Kd.S_mono Ah.out (fun k_ hk=>⟨trivial,fun e_=>hk e_⟩)));(case aS=>exact(bwZ bw_27));(case aL=>have:=LMc23.out;omega);intro Dx Ee ho hb hg hat;rw[←Cl.out]at ho;have n0_:=Az.mk (Kd.R_over' (kR Af.out) (Kd.S_typed (kS Ah.out)) (by decide) hg);have n1_:=Az.mk (hb);have n2_:=Az.mk (ho);clear Af;clear HB;clear Ah;clear As;have Af:=n0_;have HB:=n1_;have Co:=n2_;clear n0_ n1_ n2_;clear ho hb hg hat))
    (try simp only[←Ai])
    go_roundg k2
    case measure=>have:=HK1.out;have:=HK2.out;omega
    case rel=>exact⟨(Ck),(Ak),(wrap64 (Ad+1)),rq2,H',⟨by have:=HK1.out;have:=HK2.out;omega⟩,⟨by(try simp only[Ai]);(with_reducible repeat(first|apply Kd.S_alloc|apply Kd.S_drewN|apply Kd.S_drew));exact Co.out⟩,⟨by(try simp only[Ai]);(with_reducible repeat(first|apply Kd.R_alloc|apply Kd.R_drewN|apply Kd.R_drew));exact Af.out⟩,⟨bw_27⟩⟩
   replace Cx:=Bool.eq_false_iff.mpr Cx
   subst Cx
   rw[ig ff]at H
   obtain⟨Bq,hy⟩:∃y_:List Bool,y_=(Ak.set (Ae:Int).toNat true):=⟨_,rfl⟩
   replace H:(if Al.length<17592186044416 then(if Ae<(l0.length:Int) then(fV.l1 k2 l0 Ag Bq (Al ++ [Ae]) (rd l0 Ae) (l0.length:Int) Ad) else(none)) else(none))=some r:=rh
   have Cp:=Az.mk hy
   clear hy
   by_cases Cz:Al.length<17592186044416
   rotate_left
   ·rw[ig Cz]at H
    exact absurd H (by simp)
   rw[ip Cz]at H
   have LMc27:=Az.mk Cz
   clear Cz
   obtain⟨Cq,hy⟩:∃y_:List Int,y_=(Al ++ [Ae]):=⟨_,rfl⟩
   replace H:(if Ae<(l0.length:Int) then(fV.l1 k2 l0 Ag Bq Cq (rd l0 Ae) (l0.length:Int) Ad) else(none))=some r:=rh
   have Cr:=Az.mk hy
   clear hy
   by_cases Da:Ae<(l0.length:Int)
   rotate_left
   ·rw[ig Da]at H
    exact absurd H (by simp)
   rw[ip Da]at H
   have Dp:=ode Da
   clear Da
   have H':=Az.mk H
   clear H
   have Ay:0≤(Ae:Int):=od
   have Ba:Ae<(Ak.length:Int):=od
   obtain⟨Bn,Bv,Aj⟩:=Kd.at_bool (Kd.R_reads' Af.out).2.2 Ae Ay Ba
   (try rw[←Nbq13.out]at Aj)
   (try rw[←Nbq21.out]at Aj)
   obtain rfl:Bd=Bn:=(by injection Bv)
   replace Ay:=ets Ay
   replace Ba:=ets Ba
   have De:0≤(Ae:Int):=od
   have Df:(Ae:Int)<((Ak.length:Int):Int):=od
   obtain⟨Ax,Dy,Cs,Ct,gl26,Dz,HG26⟩:=Kd.R_form Af.out (by omega)
   (first|cases Cs|(injection Cs with ea_ en_ ec_;(first|subst ea_|(injection ea_ with ea_;subst ea_));subst ec_;clear en_))
   have Dg:=Az.mk Ct
   have Ea:=Az.mk HG26
   clear Ct gl26 HG26
   (first|simp only[add_plain]at Ao|skip)
   (first|simp only[add_plain]at Aj|skip)
   obtain⟨Dh,Di⟩:=Kd.R_celln false Af.out (Ae:Int) De Df
   replace De:=ets De
   replace Df:=ets Df
   have Bw:=Kd.R_putg Af.out (Ae:Int) true
   go_wp2_with (first|((with_reducible refine gate_store (t:=4) (p:=34) rfl ?_);refine store_event (t:=4) (p:=34) (v:=?vo_w30) (w1:=(wr.setCell ⟨Ax,(Ae:Int).toNat,none⟩ (.bool true))) ?hg ?ho ?hn ?hr ?_;(case ho=>rfl);(case hg=>rfl);(case hn=>rfl);(case hr=>first|(go_simp;done)|(go_simp;rfl));intro Dj hw;have hg:wr.grownBy Dj (some Ax):=(by rw[hw];exact Bw.2);have hp_:Kd.R Kd.bool 4 Dj w.heap.size (fun _=>True) (.slice (some ⟨Ax,0,none⟩) Ak.length Bp) Bq:=(by rw[hw,Cp.out];exact Bw.1);clear Bw;replace Ah:=Az.mk (Kd.S_over' (v:=(.slice (some ⟨Ax,0,none⟩) Ak.length Bp)) (kS Ah.out) (Kd.R_typed Af.out) (by decide) hg);replace As:=Az.mk (Kd.R_over' (v:=(.slice (some ⟨Ax,0,none⟩) Ak.length Bp)) (kR As.out) (Kd.R_typed Af.out) (by decide) hg);replace Af:=Az.mk (hp_);replace HB:=Az.mk ((by rw[hw];exact bwS (HB.out) Dg.out:Below w.heap.size w Dj));clear hg hw hp_)|((with_reducible refine gate_builtin (b:= .append) (xs:= #[.tmp 35, .tmp 37]) rfl ?_);at_builtin;refine Kd.R_append (Kd.int .i64) (w0:=w) w.heap.size rfl (.tmp 35) (.tmp 37) 25 3 (.int .i64 0) 8 rfl Try.underlying25 info3 rfl (by decide) (by omega) u6 Al Ae [.int .i64 Ae] (fun _=>True) (fun _=>False) rfl rfl ?aP (fun _ hk=>hk.elim) ?aF ?aO ?aB ?aS ?aL ?_;(case aP=>exact rfl);(case aB=>exact bw_27);(case aF=>exact(fun _ _=>trivial));(case aO=>exact(kR As.out));(case aS=>exact(bwZ bw_27));(case aL=>have:=LMc27.out;omega);intro Eb Ef ho hb hg hat;rw[←Cr.out]at ho;have n0_:=Az.mk (Kd.S_after (ok:=(fun _=>True)) (by(with_reducible repeat(first|apply Kd.S_alloc|apply Kd.S_drewN|apply Kd.S_drew));exact Kd.S_mono Ah.out (fun _ hk=>⟨trivial,hk⟩)) hg hat);have n1_:=Az.mk (Kd.R_over' (kR Af.out) (Kd.R_typed (kR As.out)) (by decide) hg);have n2_:=Az.mk (hb);have n3_:=Az.mk (ho);clear Ah;clear Af;clear HB;clear As;have Ah:=n0_;have Af:=n1_;have HB:=n2_;have Cu:=n3_;clear n0_ n1_ n2_ n3_;clear ho hb hg hat;have Bx:0≤(Ae:Int):=od;have By:Ae<(l0.length:Int):=od;obtain⟨Dq,Dk,Bf⟩:=Kd.at_int Dr.out Ae Bx By;cases Dk;replace Bf:=kc HB Bf;replace Bx:=ets Bx;replace By:=ets By))
   (try simp only[←Ai])
   (try rw[←add_plain Ax Ag.toNat])
   (try rw[←add_plain Ax Ad.toNat])
   (try rw[←add_plain Ax Am.toNat])
   go_roundg k2
   case measure=>have:=HK1.out;have:=HK2.out;omega
   case rel=>exact⟨(Bq),(Cq),(rd l0 Ae),rq2,H',⟨by have:=HK1.out;have:=HK2.out;omega⟩,⟨by(try simp only[Ai]);(with_reducible repeat(first|apply Kd.S_alloc|apply Kd.S_drewN|apply Kd.S_drew));exact Kd.S_mono Ah.out (fun _ hk=>hk.2)⟩,⟨by(try simp only[Ai]);(with_reducible repeat(first|apply Kd.R_alloc|apply Kd.R_drewN|apply Kd.R_drew));exact Af.out⟩,⟨by(try simp only[Ai]);(with_reducible repeat(first|apply Kd.R_alloc|apply Kd.R_drewN|apply Kd.R_drew));exact Cu.out⟩,⟨bw_27⟩⟩
theorem bw_28 {n:Nat}{v v':World} (h:Below n v v':=by repeat(first|(with_reducible first|exact HB.out|apply bwA|apply pbN|apply bwD)|exact HB.out)):Below n v v':=h
theorem ln_28 {P:Prop} (h:P:=by(try simp only[List.map_toArray,List.map_cons,List.map_nil]);first|done|rfl|(simp only[List.length_drop,List.length_take];rfl)):P:=h
def jM.f (k:Nat) (l0:List Int):Option ((List (List Int))):=(jN.f k l0).bind fun t517=>(if t517=true then((fV.f k l0).bind fun t518=>(some t518)) else(some ([]:List (List Int))))
theorem jM.calls (k:Nat) (A0:Option Addr) (c0:Nat) (l0:List Int) (r:List (List Int)) (w:World) (Ak:Kd.C (Kd.int .i64) w A0 l0.length l0) (Al:l0.length≤c0) (h:jM.f k l0=some r):
  Calls Try.prog 11 #[.slice A0 l0.length c0] w fun e w'=>∃v0_:Value,e= .returned (v0_)∧Kd.S (Kd.slice 3 (Kd.int .i64)) 25 w' w.heap.size (fun _=>True) v0_ r∧Below w.heap.size w w':=by
 have Ai:=Az.mk Ak
 have Aj:=Az.mk Al
 clear Ak Al
 have HB:=Az.mk (Below.refl w.heap.size w)
 have H:((jN.f k l0).bind fun Ag=>(if Ag=true then((fV.f k l0).bind fun Af=>(some Af)) else(some ([]:List (List Int)))))=some r:=h
 clear h
 replace H:=bez H
 obtain⟨Ag,A2,H⟩:=H
 try dsimp only at H
 by_cases c3:Ag=true
 rotate_left
 ·replace c3:=Bool.eq_false_iff.mpr c3
  subst c3
  rw[ig ff]at H
  obtain rfl:=Option.some.inj H
  go_enter Try.func11,Try.ntmps11
  go_wp2_with (first|((with_reducible refine gtC (f:=26) rfl ?_);refine clz Try.func26 (some 4) #[.slice A0 l0.length c0] ?_;(with_reducible refine(jN.calls k _ _ l0 false _ ?Ad ?Ae A2.out).mono ?_);(case Ad=>exact kC Ai.out);(case Ae=>exact Aj.out);rintro e w7 ⟨rfl,hb⟩;refine⟨_,rfl,?_⟩;replace HB:=Az.mk (bwT bw_28 hb);(try clear hb)))
  go_ret
  exact⟨_,rq1,by first|exact Kd.S_nil _ _ _ _ _|exact Kd.N_nil _ _ _ _ _|exact Kd.V_nil _ _ _ _ _|exact Kd.Q_nil _ _ _ _ _|exact Kd.R_nil _ _ _ _ _,bw_28⟩
 subst c3
 rw[ip rfl]at H
 replace H:=bez H
 obtain⟨Af,A4,H⟩:=H
 replace H:(some Af)=some r:=H
 obtain rfl:=Option.some.inj H
 go_enter Try.func11,Try.ntmps11
 go_wp2_with (first|((with_reducible refine gtC (f:=26) rfl ?_);refine clz Try.func26 (some 4) #[.slice A0 l0.length c0] ?_;(with_reducible refine(jN.calls k _ _ l0 true _ ?Ad ?Ae A2.out).mono ?_);(case Ad=>exact kC Ai.out);(case Ae=>exact Aj.out);rintro e w5 ⟨rfl,hb⟩;refine⟨_,rfl,?_⟩;replace HB:=Az.mk (bwT bw_28 hb);(try clear hb))|((with_reducible refine gtC (f:=33) rfl ?_);refine clz Try.func33 (some 7) #[.slice A0 l0.length c0] ?_;(with_reducible refine(fV.calls k _ _ l0 Af _ ?Ad ?Ae A4.out).mono ?_);(case Ad=>exact kC (Kd.C_below Ai.out HB.out));(case Ae=>exact Aj.out);rintro e w6 ⟨Ao,rfl,Am,hb⟩;refine⟨_,rfl,?_⟩;have Ah:=Az.mk (Kd.S_lower Am (bwZ bw_28));replace HB:=Az.mk (bwT bw_28 hb);(try clear hb);(try clear Am)))
 go_ret
 exact⟨_,rq1,kS Ah.out,bw_28⟩
def jU.f (a0:Int):Option (Bool):=if a0=0 then(some false) else((gA.f a0 (-8) 8).bind fun t521=>(some t521))
theorem jU.calls (a0:Int) (r:Bool) (w:World) (h:jU.f a0=some r):
  Calls Try.prog 90 #[.int .i64 a0] w fun e w'=>e= .returned (.bool r)∧Drawn0 w w':=by
 have H:(if a0=0 then(some false) else((gA.f a0 (-8) 8).bind fun Ad=>(some Ad)))=some r:=h
 clear h
 by_cases c2:a0=0
 ·rw[ip c2]at H
  have Ae:=beq_iff_eq.mpr c2
  have Af:=bne_eq_false_iff_eq.mpr c2
  clear c2
  obtain rfl:=Option.some.inj H
  go_enter Try.func90,Try.ntmps90
  go_wp2
  go_ret
  exact⟨rq2,kd⟩
 rw[ig c2]at H
 have Ae:=beq_eq_false_iff_ne.mpr c2
 have Af:=bne_iff_ne.mpr c2
 replace H:=bez H
 obtain⟨Ad,A3,H⟩:=H
 replace H:(some Ad)=some r:=H
 obtain rfl:=Option.some.inj H
 go_enter Try.func90,Try.ntmps90
 go_wp2_with (first|(go_at_call 56;(with_reducible refine(gA.calls a0 (-8) 8 Ad _ A3.out).mono ?_);rintro e w' ⟨rfl,⟨nd,rfl⟩⟩))
 go_ret
 exact⟨rq2,kd⟩
def jB.l0:Nat→List Int→List Int→Int→Int→Option (Bool)
 |0,_,_,_,_=>none
 |k+1,x0,x5,x6,x7=>if x7<x6 then(if 0≤x7 then(if x7<(x5.length:Int) then((jU.f (rd x5 x7)).bind fun t523=>(if t523=true then(jB.l0 k x0 x5 x6 (wrap64 (x7+1))) else(some false))) else(none)) else(none)) else(some (decide ((x0.length:Int)≤24)))
def jB.f (k:Nat) (l0:List Int):Option (Bool):=jB.l0 k l0 l0 (l0.length:Int) 0
theorem jB.calls (k:Nat) (A0:Option Addr) (c0:Nat) (l0:List Int) (r:Bool) (w:World) (Al:Kd.C (Kd.int .i64) w A0 l0.length l0) (Am:l0.length≤c0) (h:jB.f k l0=some r):
  Calls Try.prog 85 #[.slice A0 l0.length c0] w fun e w'=>e= .returned (.bool r)∧Drawn0 w w':=by
 have Ao:=Az.mk Al
 have As:=Az.mk Am
 clear Al Am
 have H:(jB.l0 k l0 l0 (l0.length:Int) 0)=some r:=h
 clear h
 have H':=Az.mk H
 clear H
 go_enter Try.func85,Try.ntmps85
 go_wp2
 go_loopg [7] k (fun kq v7 w'=>∃(Ad:Int),v7= .int .i64 Ad∧Az (jB.l0 kq l0 l0 (l0.length:Int) Ad=some r)∧Az (kq≤k)∧Drawn0 w w')
 case atStart=>exact⟨(0),rq2,H',⟨Nat.le_refl _⟩,kd⟩
 clear H'
 obtain⟨Ad,rfl,HA,HK1,⟨m1,rfl⟩⟩:=hrel
 cases gk with
 |zero=>exact absurd HA.out (by simp[jB.l0])
 |succ k1=>
  have H:=HA.out
  clear HA
  simp only[jB.l0]at H
  by_cases c2:Ad<(l0.length:Int)
  rotate_left
  ·rw[ig c2]at H
   have Aj:=decide_eq_false c2
   clear c2
   obtain rfl:=Option.some.inj H
   go_wp2
   go_ret
   exact⟨rq2,kd⟩
  rw[ip c2]at H
  have Aj:=ode c2
  clear c2
  by_cases c3:0≤Ad
  rotate_left
  ·rw[ig c3]at H
   exact absurd H (by simp)
  rw[ip c3]at H
  have Ap:=ode c3
  clear c3
  by_cases c4:Ad<(l0.length:Int)
  rotate_left
  ·rw[ig c4]at H
   exact absurd H (by simp)
  rw[ip c4]at H
  have Aq:=ode c4
  clear c4
  replace H:=bez H
  obtain⟨Ak,A5,H⟩:=H
  try dsimp only at H
  by_cases c6:Ak=true
  rotate_left
  ·replace c6:=Bool.eq_false_iff.mpr c6
   subst c6
   rw[ig ff]at H
   obtain rfl:=Option.some.inj H
   have Ae:0≤(Ad:Int):=od
   have Af:Ad<(l0.length:Int):=od
   obtain⟨Ai,Ah,Ag⟩:=Kd.at_int Ao.out Ad Ae Af
   cases Ah
   replace Ae:=ets Ae
   replace Af:=ets Af
   go_wp2_with (first|((with_reducible refine gtC (f:=90) rfl ?_);refine clz Try.func90 (some 12) #[.int .i64 (rd l0 Ad)] ?_;(with_reducible refine(jU.calls (rd l0 Ad) false _ A5.out).mono ?_);rintro e w' ⟨rfl,⟨nd,rfl⟩⟩;refine⟨_,rfl,?_⟩))
   go_ret
   exact⟨rq2,kd⟩
  subst c6
  rw[ip rfl]at H
  have H':=Az.mk H
  clear H
  have Ae:0≤(Ad:Int):=od
  have Af:Ad<(l0.length:Int):=od
  obtain⟨Ai,Ah,Ag⟩:=Kd.at_int Ao.out Ad Ae Af
  cases Ah
  replace Ae:=ets Ae
  replace Af:=ets Af
  go_wp2_with (first|((with_reducible refine gtC (f:=90) rfl ?_);refine clz Try.func90 (some 12) #[.int .i64 (rd l0 Ad)] ?_;(with_reducible refine(jU.calls (rd l0 Ad) true _ A5.out).mono ?_);rintro e w' ⟨rfl,⟨nd,rfl⟩⟩;refine⟨_,rfl,?_⟩))
  go_roundg k1
  case measure=>have:=HK1.out;omega
  case rel=>exact⟨(wrap64 (Ad+1)),rq2,H',⟨by have:=HK1.out;omega⟩,kd⟩
mutual
def fT.l0:Nat→List Int→List (List Int)→Int→Int→Option (List Int)
 |0,_,_,_,_=>none
 |k+1,x3,x9,x10,x11=>if x11<x10 then(if 0≤x11 then(if x11<(x9.length:Int) then(fT.l1 k x3 x9 x10 x11 (rd_L1 x9 x11) ((rd_L1 x9 x11).length:Int) 0) else(none)) else(none)) else(some x3)
def fT.l1:Nat→List Int→List (List Int)→Int→Int→List Int→Int→Int→Option (List Int)
 |0,_,_,_,_,_,_,_=>none
 |k+1,x3,x9,x10,x11,x15,x16,x17=>if x17<x16 then(if 0≤x17 then(if x17<(x15.length:Int) then((gM.f (rd x15 x17)).bind fun t529=>(if 0≤t529 then(if t529<(x3.length:Int) then(fT.l1 k (x3.set (t529:Int).toNat (wrap64 ((rd x3 t529)+1))) x9 x10 x11 x15 x16 (wrap64 (x17+1))) else(none)) else(none))) else(none)) else(none)) else(fT.l0 k x3 x9 x10 (wrap64 (x11+1)))
end
def fT.f (k:Nat) (l0:List (List Int)):Option (List Int):=if 9≤35184372088832 then(fT.l0 k (List.replicate 9 0) l0 (l0.length:Int) 0) else(none)
theorem fT.calls (k:Nat) (A0:Option Addr) (c0:Nat) (l0:List (List Int)) (r:List Int) (w:World) (Ck:Kd.C (Kd.slice 3 (Kd.int .i64)) w A0 l0.length l0) (Cl:l0.length≤c0) (h:fT.f k l0=some r):
  Calls Try.prog 86 #[.slice A0 l0.length c0] w fun e w'=>∃v0_:Value,e= .returned (v0_)∧Kd.R (Kd.int .i64) 3 w' w.heap.size (fun _=>True) v0_ r∧Below w.heap.size w w':=by
 have Ct:=Az.mk Ck
 have Dc:=Az.mk Cl
 clear Ck Cl
 have HB:=Az.mk (Below.refl w.heap.size w)
 have H:(if 9≤35184372088832 then(fT.l0 k (List.replicate 9 0) l0 (l0.length:Int) 0) else(none))=some r:=h
 clear h
 by_cases c2:9≤35184372088832
 rotate_left
 ·rw[ig c2]at H
  exact absurd H (by simp)
 rw[ip c2]at H
 have Bf:=ets c2
 have Bh:=ode c2
 clear c2
 obtain⟨Bi,hy⟩:∃y_:List Int,y_=(List.replicate 9 0):=⟨_,rfl⟩
 replace H:(fT.l0 k Bi l0 (l0.length:Int) 0)=some r:=rh
 have Au:=Az.mk hy
 clear hy
 have H':=Az.mk H
 clear H
 go_enter Try.func86,Try.ntmps86
 go_wp2_with (first|((with_reducible refine gtD (N:=8) rfl ?_);refine Kd.R_make (Kd.int .i64) _ 3 rfl (N:=8) rfl 25 _ _ rfl 9 rfl rfl Try.underlying25 (.int .i64 0) 8 info3 rfl (by decide) (by omega) 0 (ok:=fun _=>True) (okp:=fun _=>True) rfl (fun _ hk=>hk) trivial (by omega) (by omega) (Below.refl _ _) (Nat.le_refl _) ?_;intro Bj w3 Bk hb hg_ hnew_;clear hg_ hnew_;(first|rw[←Au.out]at Bk|(simp only[Int.reduceToNat]at Bk;rw[←Au.out]at Bk));have Bl:=Az.mk (Kd.R_lower Bk (bwZ bw_28));replace HB:=Az.mk (bwT bw_28 hb);clear hb Bk))
 go_loopg [11] k (fun kq Cu w'=>∃(Am:List Int) (Ad:Int),Cu= .int .i64 Ad∧Az (fT.l0 kq Am l0 (l0.length:Int) Ad=some r)∧Az (kq≤k)∧Az (Kd.R (Kd.int .i64) 3 w' w.heap.size (fun _=>True) Bj Am)∧Az (Below w.heap.size w w'))
 case atStart=>exact⟨(Bi),(0),rq2,H',⟨Nat.le_refl _⟩,⟨kR Bl.out⟩,⟨bw_28⟩⟩
 clear H'
 try clear c2
 try clear Bf
 try clear Bh
 obtain⟨Am,Ad,rfl,HA,HK1,Ag,HB⟩:=hrel
 cases gk with
 |zero=>exact absurd HA.out (by simp[fT.l0])
 |succ k1=>
  have H:=HA.out
  clear HA
  simp only[fT.l0]at H
  by_cases c5:Ad<(l0.length:Int)
  rotate_left
  ·rw[ig c5]at H
   have Bm:=decide_eq_false c5
   clear c5
   obtain rfl:=Option.some.inj H
   go_wp2
   go_ret
   exact⟨_,rq1,kR Ag.out,bw_28⟩
  rw[ip c5]at H
  have Bm:=ode c5
  clear c5
  by_cases c6:0≤Ad
  rotate_left
  ·rw[ig c6]at H
   exact absurd H (by simp)
  rw[ip c6]at H
  have Bu:=ode c6
  clear c6
  by_cases c7:Ad<(l0.length:Int)
  rotate_left
  ·rw[ig c7]at H
   exact absurd H (by simp)
  rw[ip c7]at H
  have Bv:=ode c7
  clear c7
  have H':=Az.mk H
  clear H
  have Ao:0≤(Ad:Int):=od
  have Ap:Ad<(l0.length:Int):=od
  obtain⟨Cm,Bw,Bx,By,Ai,Aj,Ak⟩:=at_L1 Ct.out Ad Ao Ap
  cases By
  replace Ai:=kc HB Ai
  have Aq:=Az.mk Ak
  have Bq:=Az.mk Aj
  clear Ak Aj
  replace Ao:=ets Ao
  replace Ap:=ets Ap
  go_wp2
  go_loopg [17] k1 (fun kq Cv w'=>∃(Ah:List Int) (Ae:Int),Cv= .int .i64 Ae∧Az (fT.l1 kq Ah l0 (l0.length:Int) Ad (rd_L1 l0 Ad) ((rd_L1 l0 Ad).length:Int) Ae=some r)∧Az (kq≤k1)∧Az (Kd.R (Kd.int .i64) 3 w' w.heap.size (fun _=>True) Bj Ah)∧Az (Below w.heap.size w w'))
  case atStart=>exact⟨(Am),(0),rq2,H',⟨Nat.le_refl _⟩,⟨kR Ag.out⟩,⟨bw_28⟩⟩
  clear H'
  try clear c2
  try clear Bf
  try clear Bh
  try clear c5
  try clear Bm
  try clear c6
  try clear Bu
  try clear c7
  try clear Bv
  try clear Ai
  try clear Ao
  try clear Ap
  obtain⟨Ah,Ae,rfl,HA,HK2,Ag,HB⟩:=hrel
  cases gk with
  |zero=>exact absurd HA.out (by simp[fT.l1])
  |succ k2=>
   have H:=HA.out
   clear HA
   simp only[fT.l1]at H
   by_cases c8:Ae<((rd_L1 l0 Ad).length:Int)
   rotate_left
   ·rw[ig c8]at H
    have Bz:=decide_eq_false c8
    clear c8
    have H':=Az.mk H
    clear H
    go_wp2
    go_roundg k2
    case measure=>have:=HK1.out;have:=HK2.out;omega
    case rel=>exact⟨(Ah),(wrap64 (Ad+1)),rq2,H',⟨by have:=HK1.out;have:=HK2.out;omega⟩,⟨kR Ag.out⟩,⟨bw_28⟩⟩
   rw[ip c8]at H
   have Bz:=ode c8
   clear c8
   by_cases c9:0≤Ae
   rotate_left
   ·rw[ig c9]at H
    exact absurd H (by simp)
   rw[ip c9]at H
   have Cw:=ode c9
   clear c9
   by_cases Br:Ae<((rd_L1 l0 Ad).length:Int)
   rotate_left
   ·rw[ig Br]at H
    exact absurd H (by simp)
   rw[ip Br]at H
   have Cn:=ode Br
   clear Br
   replace H:=bez H
   obtain⟨Af,Cx,H⟩:=H
   try dsimp only at H
   by_cases Bs:0≤Af
   rotate_left
   ·rw[ig Bs]at H
    exact absurd H (by simp)
   rw[ip Bs]at H
   have Co:=ode Bs
   clear Bs
   by_cases Bt:Af<(Ah.length:Int)
   rotate_left
   ·rw[ig Bt]at H
    exact absurd H (by simp)
   rw[ip Bt]at H
   have Cp:=ode Bt
   clear Bt
   obtain⟨Av,hy⟩:∃y_:List Int,y_=(Ah.set (Af:Int).toNat (wrap64 ((rd Ah Af)+1))):=⟨_,rfl⟩
   replace H:(fT.l1 k2 Av l0 (l0.length:Int) Ad (rd_L1 l0 Ad) ((rd_L1 l0 Ad).length:Int) (wrap64 (Ae+1)))=some r:=rh
   have Bn:=Az.mk hy
   clear hy
   have H':=Az.mk H
   clear H
   have Ax:0≤(Ae:Int):=od
   have Ay:Ae<((rd_L1 l0 Ad).length:Int):=od
   obtain⟨Cq,Ca,Al⟩:=Kd.at_int Aq.out Ae Ax Ay
   cases Ca
   replace Al:=kc HB Al
   replace Ax:=ets Ax
   replace Ay:=ets Ay
   go_wp2_with (first|((with_reducible refine gtC (f:=60) rfl ?_);refine clz Try.func60 (some 23) #[.int .i64 (rd (rd_L1 l0 Ad) Ae)] ?_;(with_reducible refine(gM.calls (rd (rd_L1 l0 Ad) Ae) Af _ Cx.out).mono ?_);rintro e Cr ⟨rfl,hb⟩;refine⟨_,rfl,?_⟩;replace Ag:=Az.mk (Kd.R_below (kR Ag.out) hb);replace HB:=Az.mk (bwT bw_28 hb);(try clear hb);obtain⟨Cy,Cb,Cc⟩:=Kd.R_slice Ag.out;subst Cc;have Ba:0≤(Af:Int):=od;have Bb:Af<(Ah.length:Int):=od;obtain⟨Cs,Cd,As⟩:=Kd.at_int (Kd.R_reads' Ag.out).2.2 Af Ba Bb;cases Cd;replace Ba:=ets Ba;replace Bb:=ets Bb;have Ce:0≤(Af:Int):=od;have Cf:(Af:Int)<((Ah.length:Int):Int):=od;obtain⟨Bc,Cz,Bo,Bp,gl14,Da,HG14⟩:=Kd.R_form Ag.out (by omega);(first|cases Bo|(injection Bo with ea_ en_ ec_;(first|subst ea_|(injection ea_ with ea_;subst ea_));subst ec_;clear en_));have Cg:=Az.mk Bp;have Db:=Az.mk HG14;clear Bp gl14 HG14;(first|simp only[add_plain]at As|skip);obtain⟨Ch,Ci⟩:=Kd.R_celln 0 Ag.out (Af:Int) Ce Cf;replace Ce:=ets Ce;replace Cf:=ets Cf;obtain⟨hy17_,hz17_⟩:=Kd.R_celln 0 Ag.out (Af:Int) (od) (od);have Bd:=Kd.R_putg Ag.out (Af:Int) (wrap64 ((rd Ah Af)+1)))|((with_reducible refine gate_store (t:=3) (p:=27) rfl ?_);refine store_event (t:=3) (p:=27) (v:=?vo_w18) (w1:=(Cr.setCell ⟨Bc,(Af:Int).toNat,none⟩ (.int .i64 (wrap64 ((rd Ah Af)+1))))) ?hg ?ho ?hn ?hr ?_;(case ho=>rfl);(case hg=>rfl);(case hn=>rfl);(case hr=>first|(go_simp;done)|(go_simp;rfl));intro Cj hw;have hg:Cr.grownBy Cj (some Bc):=(by rw[hw];exact Bd.2);have hp_:Kd.R (Kd.int .i64) 3 Cj w.heap.size (fun _=>True) (.slice (some ⟨Bc,0,none⟩) Ah.length Cb) Av:=(by rw[hw,Bn.out];exact Bd.1);clear Bd;replace Ag:=Az.mk (hp_);replace HB:=Az.mk ((by rw[hw];exact bwS (HB.out) Cg.out:Below w.heap.size w Cj));clear hg hw hp_))
   go_roundg k2
   case measure=>have:=HK1.out;have:=HK2.out;omega
   case rel=>exact⟨(Av),(wrap64 (Ae+1)),rq2,H',⟨by have:=HK1.out;have:=HK2.out;omega⟩,⟨kR Ag.out⟩,⟨bw_28⟩⟩
theorem bw_29 {n:Nat}{v v':World} (h:Below n v v':=by repeat(first|(with_reducible first|exact HB.out|apply bwA|apply pbN|apply bwD)|exact HB.out)):Below n v v':=h
theorem ln_29 {P:Prop} (h:P:=by(try simp only[List.map_toArray,List.map_cons,List.map_nil]);first|done|rfl|(simp only[List.length_drop,List.length_take];rfl)):P:=h
mutual
def fX.l0:Nat→List (List Int)→Int→List (List Int)→Int→Int→Option (Bool)
 |0,_,_,_,_,_=>none
 |k+1,x0,x3,x12,x13,x14=>if x14<x13 then(if 0≤x14 then(if x14<(x12.length:Int) then(if((rd_L1 x12 x14).length:Int)=0 then(some false) else((jB.f k (rd_L1 x12 x14)).bind fun t534=>(if t534=true then(fX.l0 k x0 (wrap64 (x3+((rd_L1 x12 x14).length:Int))) x12 x13 (wrap64 (x14+1))) else(some false)))) else(none)) else(none)) else(if x3>20 then(some false) else((fT.f k x0).bind fun t535=>(fX.l1 k t535 (t535.length:Int) 0)))
def fX.l1:Nat→List Int→Int→Int→Option (Bool)
 |0,_,_,_=>none
 |k+1,x34,x35,x36=>if x36<x35 then(if 0≤x36 then(if x36<(x34.length:Int) then(if(rd x34 x36)>2 then(some false) else(fX.l1 k x34 x35 (wrap64 (x36+1)))) else(none)) else(none)) else(some true)
end
def fX.f (k:Nat) (l0:List (List Int)):Option (Bool):=(gA.f (l0.length:Int) 1 4).bind fun t532=>(if t532=true then(fX.l0 k l0 0 l0 (l0.length:Int) 0) else(some false))
theorem fX.calls (k:Nat) (A0:Option Addr) (c0:Nat) (l0:List (List Int)) (r:Bool) (w:World) (Cc:Kd.C (Kd.slice 3 (Kd.int .i64)) w A0 l0.length l0) (Cd:l0.length≤c0) (h:fX.f k l0=some r):
  Calls Try.prog 66 #[.slice A0 l0.length c0] w fun e w'=>e= .returned (.bool r)∧Below w.heap.size w w':=by
 have Bs:=Az.mk Cc
 have Ch:=Az.mk Cd
 clear Cc Cd
 have HB:=Az.mk (Below.refl w.heap.size w)
 have H:((gA.f (l0.length:Int) 1 4).bind fun Bh=>(if Bh=true then(fX.l0 k l0 0 l0 (l0.length:Int) 0) else(some false)))=some r:=h
 clear h
 replace H:=bez H
 obtain⟨Bh,A2,H⟩:=H
 try dsimp only at H
 by_cases c3:Bh=true
 rotate_left
 ·replace c3:=Bool.eq_false_iff.mpr c3
  subst c3
  rw[ig ff]at H
  obtain rfl:=Option.some.inj H
  go_enter Try.func66,Try.ntmps66
  go_wp2_with (first|((with_reducible refine gtC (f:=56) rfl ?_);refine clz Try.func56 (some 10) #[.int .i64 (l0.length:Int), .int .i64 1, .int .i64 4] ?_;(with_reducible refine(gA.calls (l0.length:Int) 1 4 false _ A2.out).mono ?_);rintro e w' ⟨rfl,⟨nd,rfl⟩⟩;refine⟨_,rfl,?_⟩))
  go_ret
  exact⟨rq1,bw_29⟩
 subst c3
 rw[ip rfl]at H
 have H':=Az.mk H
 clear H
 go_enter Try.func66,Try.ntmps66
 go_wp2_with (first|((with_reducible refine gtC (f:=56) rfl ?_);refine clz Try.func56 (some 10) #[.int .i64 (l0.length:Int), .int .i64 1, .int .i64 4] ?_;(with_reducible refine(gA.calls (l0.length:Int) 1 4 true _ A2.out).mono ?_);rintro e w' ⟨rfl,⟨nd,rfl⟩⟩;refine⟨_,rfl,?_⟩))
 go_loopg [3,14] k (fun kq v3 Ci w'=>∃(Aq:Int) (Ad:Int),v3= .int .i64 Aq∧Ci= .int .i64 Ad∧Az (fX.l0 kq l0 Aq l0 (l0.length:Int) Ad=some r)∧Az (kq≤k)∧Az (Below w.heap.size w w'))
 case atStart=>exact⟨(0),(0),rq2,rq2,H',⟨Nat.le_refl _⟩,⟨bw_29⟩⟩
 clear H'
 try clear c3
 obtain⟨Aq,Ad,rfl,rfl,HA,HK1,HB⟩:=hrel
 cases gk with
 |zero=>exact absurd HA.out (by simp[fX.l0])
 |succ k1=>
  have H:=HA.out
  clear HA
  simp only[fX.l0]at H
  by_cases c4:Ad<(l0.length:Int)
  ·rw[ip c4]at H
   have Bm:=ode c4
   clear c4
   by_cases c5:0≤Ad
   rotate_left
   ·rw[ig c5]at H
    exact absurd H (by simp)
   rw[ip c5]at H
   have Bv:=ode c5
   clear c5
   by_cases c6:Ad<(l0.length:Int)
   rotate_left
   ·rw[ig c6]at H
    exact absurd H (by simp)
   rw[ip c6]at H
   have Bw:=ode c6
   clear c6
   by_cases c7:((rd_L1 l0 Ad).length:Int)=0
   ·rw[ip c7]at H
    have Bn:=beq_iff_eq.mpr c7
    have Bo:=bne_eq_false_iff_eq.mpr c7
    clear c7
    obtain rfl:=Option.some.inj H
    have Ai:0≤(Ad:Int):=od
    have Aj:Ad<(l0.length:Int):=od
    obtain⟨Bc,Av,Ax,Ay,Af,Ag,Ah⟩:=at_L1 Bs.out Ad Ai Aj
    cases Ay
    replace Af:=kc HB Af
    have Al:=Az.mk Ah
    have Am:=Az.mk Ag
    clear Ah Ag
    replace Ai:=ets Ai
    replace Aj:=ets Aj
    go_wp2
    go_ret
    exact⟨rq1,bw_29⟩
   rw[ig c7]at H
   have Bn:=beq_eq_false_iff_ne.mpr c7
   have Bo:=bne_iff_ne.mpr c7
   have Bx:¬((rd_L1 l0 Ad)=[]):=fun h_=>c7 (by rw[h_];rfl)
   replace H:=bez H
   obtain⟨By,A8,H⟩:=H
   try dsimp only at H
   by_cases c9:By=true
   rotate_left
   ·replace c9:=Bool.eq_false_iff.mpr c9
    subst c9
    rw[ig ff]at H
    obtain rfl:=Option.some.inj H
    have Ai:0≤(Ad:Int):=od
    have Aj:Ad<(l0.length:Int):=od
    obtain⟨Bc,Av,Ax,Ay,Af,Ag,Ah⟩:=at_L1 Bs.out Ad Ai Aj
    cases Ay
    replace Af:=kc HB Af
    have Al:=Az.mk Ah
    have Am:=Az.mk Ag
    clear Ah Ag
    replace Ai:=ets Ai
    replace Aj:=ets Aj
    go_wp2_with (first|(go_at_call 85;(with_reducible refine(jB.calls k1 _ _ (rd_L1 l0 Ad) false _ ?Ao ?Ap A8.out).mono ?_);(case Ao=>exact kC (Kd.C_below Al.out HB.out));(case Ap=>exact Am.out);rintro e w' ⟨rfl,⟨nd,rfl⟩⟩))
    go_ret
    exact⟨rq1,bw_29⟩
   subst c9
   rw[ip rfl]at H
   have H':=Az.mk H
   clear H
   have Ai:0≤(Ad:Int):=od
   have Aj:Ad<(l0.length:Int):=od
   obtain⟨Bc,Av,Ax,Ay,Af,Ag,Ah⟩:=at_L1 Bs.out Ad Ai Aj
   cases Ay
   replace Af:=kc HB Af
   have Al:=Az.mk Ah
   have Am:=Az.mk Ag
   clear Ah Ag
   replace Ai:=ets Ai
   replace Aj:=ets Aj
   go_wp2_with (first|(go_at_call 85;(with_reducible refine(jB.calls k1 _ _ (rd_L1 l0 Ad) true _ ?Ao ?Ap A8.out).mono ?_);(case Ao=>exact kC (Kd.C_below Al.out HB.out));(case Ap=>exact Am.out);rintro e w' ⟨rfl,⟨nd,rfl⟩⟩))
   go_roundg k1
   case measure=>have:=HK1.out;omega
   case rel=>exact⟨(wrap64 (Aq+((rd_L1 l0 Ad).length:Int))),(wrap64 (Ad+1)),rq2,rq2,H',⟨by have:=HK1.out;omega⟩,⟨bw_29⟩⟩
  rw[ig c4]at H
  have Bm:=decide_eq_false c4
  clear c4
  by_cases Bi:Aq>20
  ·rw[ip Bi]at H
   have Bd:decide (20<Aq)=true:=ode Bi
   clear Bi
   obtain rfl:=Option.some.inj H
   go_wp2
   go_ret
   exact⟨rq1,bw_29⟩
  rw[ig Bi]at H
  have Bd:decide (20<Aq)=false:=decide_eq_false Bi
  clear Bi
  replace H:=bez H
  obtain⟨Ak,Cj,H⟩:=H
  try dsimp only at H
  have H':=Az.mk H
  clear H
  go_wp2_with (first|((with_reducible refine gtC (f:=86) rfl ?_);refine clz Try.func86 (some 34) #[.slice A0 l0.length c0] ?_;(with_reducible refine(fT.calls k1 _ _ l0 Ak _ ?Ao ?Ap Cj.out).mono ?_);(case Ao=>exact kC (Kd.C_below Bs.out HB.out));(case Ap=>exact Ch.out);rintro e Cm ⟨Ck,rfl,Ce,hb⟩;refine⟨_,rfl,?_⟩;have Bf:=Az.mk (Kd.R_lower Ce (bwZ bw_29));replace HB:=Az.mk (bwT bw_29 hb);(try clear hb);(try clear Ce);obtain⟨Bz,Ca,Cb⟩:=Kd.R_slice Bf.out;subst Cb))
  go_loopg [36] k1 (fun kq Cl w'=>∃(Ae:Int),Cl= .int .i64 Ae∧Az (fX.l1 kq Ak (Ak.length:Int) Ae=some r)∧Az (kq≤k1)∧Az (Kd.R (Kd.int .i64) 3 w' w.heap.size (fun _=>True) (.slice Bz Ak.length Ca) Ak)∧Az (Below w.heap.size w w'))
  case atStart=>exact⟨(0),rq2,H',⟨Nat.le_refl _⟩,⟨kR Bf.out⟩,⟨bw_29⟩⟩
  clear H'
  try clear c3
  try clear c4
  try clear Bm
  try clear c5
  try clear Bv
  try clear c6
  try clear Bw
  try clear c7
  try clear Bn
  try clear Bo
  try clear Bx
  try clear c9
  try clear Bi
  try clear Bd
  try clear Af
  try clear Ai
  try clear Aj
  obtain⟨Ae,rfl,HA,HK2,Ba,HB⟩:=hrel
  cases gk with
  |zero=>exact absurd HA.out (by simp[fX.l1])
  |succ k2=>
   have H:=HA.out
   clear HA
   simp only[fX.l1]at H
   by_cases Bk:Ae<(Ak.length:Int)
   rotate_left
   ·rw[ig Bk]at H
    have Bp:=decide_eq_false Bk
    clear Bk
    obtain rfl:=Option.some.inj H
    go_wp2
    go_ret
    exact⟨rq1,bw_29⟩
   rw[ip Bk]at H
   have Bp:=ode Bk
   clear Bk
   by_cases Bt:0≤Ae
   rotate_left
   ·rw[ig Bt]at H
    exact absurd H (by simp)
   rw[ip Bt]at H
   have Cf:=ode Bt
   clear Bt
   by_cases Bu:Ae<(Ak.length:Int)
   rotate_left
   ·rw[ig Bu]at H
    exact absurd H (by simp)
   rw[ip Bu]at H
   have Cg:=ode Bu
   clear Bu
   by_cases Bl:(rd Ak Ae)>2
   ·rw[ip Bl]at H
    have Bq:decide (2<(rd Ak Ae))=true:=ode Bl
    clear Bl
    obtain rfl:=Option.some.inj H
    have As:0≤(Ae:Int):=od
    have Au:Ae<(Ak.length:Int):=od
    obtain⟨Br,Bj,Bb⟩:=Kd.at_int (Kd.R_reads' Ba.out).2.2 Ae As Au
    cases Bj
    replace As:=ets As
    replace Au:=ets Au
    go_wp2
    go_ret
    exact⟨rq1,bw_29⟩
   rw[ig Bl]at H
   have Bq:decide (2<(rd Ak Ae))=false:=decide_eq_false Bl
   clear Bl
   have H':=Az.mk H
   clear H
   have As:0≤(Ae:Int):=od
   have Au:Ae<(Ak.length:Int):=od
   obtain⟨Br,Bj,Bb⟩:=Kd.at_int (Kd.R_reads' Ba.out).2.2 Ae As Au
   cases Bj
   replace As:=ets As
   replace Au:=ets Au
   go_wp2
   go_roundg k2
   case measure=>have:=HK1.out;have:=HK2.out;omega
   case rel=>exact⟨(wrap64 (Ae+1)),rq2,H',⟨by have:=HK1.out;have:=HK2.out;omega⟩,⟨kR Ba.out⟩,⟨bw_29⟩⟩
def jQ.f (k:Nat) (l0:List (List Int)) (a1:Int):Option (Bool):=(fX.f k l0).bind fun t539=>(if t539=true then((gA.f a1 0 (wrap64 ((l0.length:Int) - 1))).bind fun t540=>(some t540)) else(some false))
theorem jQ.calls (k:Nat) (A0:Option Addr) (c0:Nat) (l0:List (List Int)) (a1:Int) (r:Bool) (w:World) (Ah:Kd.C (Kd.slice 3 (Kd.int .i64)) w A0 l0.length l0) (Ai:l0.length≤c0) (h:jQ.f k l0 a1=some r):
  Calls Try.prog 34 #[.slice A0 l0.length c0, .int .i64 a1] w fun e w'=>e= .returned (.bool r)∧Below w.heap.size w w':=by
 have Aj:=Az.mk Ah
 have Ak:=Az.mk Ai
 clear Ah Ai
 have HB:=Az.mk (Below.refl w.heap.size w)
 have H:((fX.f k l0).bind fun Ag=>(if Ag=true then((gA.f a1 0 (wrap64 ((l0.length:Int) - 1))).bind fun Af=>(some Af)) else(some false)))=some r:=h
 clear h
 replace H:=bez H
 obtain⟨Ag,A3,H⟩:=H
 try dsimp only at H
 by_cases c4:Ag=true
 rotate_left
 ·replace c4:=Bool.eq_false_iff.mpr c4
  subst c4
  rw[ig ff]at H
  obtain rfl:=Option.some.inj H
  go_enter Try.func34,Try.ntmps34
  go_wp2_with (first|((with_reducible refine gtC (f:=66) rfl ?_);refine clz Try.func66 (some 6) #[.slice A0 l0.length c0] ?_;(with_reducible refine(fX.calls k _ _ l0 false _ ?Ad ?Ae A3.out).mono ?_);(case Ad=>exact kC Aj.out);(case Ae=>exact Ak.out);rintro e w7 ⟨rfl,hb⟩;refine⟨_,rfl,?_⟩;replace HB:=Az.mk (bwT bw_29 hb);(try clear hb)))
  go_ret
  exact⟨rq1,bw_29⟩
 subst c4
 rw[ip rfl]at H
 replace H:=bez H
 obtain⟨Af,A5,H⟩:=H
 replace H:(some Af)=some r:=H
 obtain rfl:=Option.some.inj H
 go_enter Try.func34,Try.ntmps34
 go_wp2_with (first|((with_reducible refine gtC (f:=66) rfl ?_);refine clz Try.func66 (some 6) #[.slice A0 l0.length c0] ?_;(with_reducible refine(fX.calls k _ _ l0 true _ ?Ad ?Ae A3.out).mono ?_);(case Ad=>exact kC Aj.out);(case Ae=>exact Ak.out);rintro e w6 ⟨rfl,hb⟩;refine⟨_,rfl,?_⟩;replace HB:=Az.mk (bwT bw_29 hb);(try clear hb))|(go_at_call 56;(with_reducible refine(gA.calls a1 0 (wrap64 ((l0.length:Int) - 1)) Af _ A5.out).mono ?_);rintro e w' ⟨rfl,⟨nd,rfl⟩⟩))
 go_ret
 exact⟨rq1,bw_29⟩
def gO.l0:Nat→List (List Int)→List (List Int)→Int→Int→Option ((List (List Int)))
 |0,_,_,_,_=>none
 |k+1,x3,x7,x8,x9=>if x9<x8 then(if 0≤x9 then(if x9<(x7.length:Int) then((jK.f (rd_L1 x7 x9)).bind fun t545=>(if x3.length<5864062014805 then(gO.l0 k (x3 ++ [t545]) x7 x8 (wrap64 (x9+1))) else(none))) else(none)) else(none)) else(some x3)
def gO.f (k:Nat) (l0:List (List Int)):Option ((List (List Int))):=gO.l0 k (([]:List (List Int))) l0 (l0.length:Int) 0
theorem gO.calls (k:Nat) (A0:Option Addr) (c0:Nat) (l0:List (List Int)) (r:List (List Int)) (w:World) (Bn:Kd.C (Kd.slice 3 (Kd.int .i64)) w A0 l0.length l0) (Bo:l0.length≤c0) (h:gO.f k l0=some r):
  Calls Try.prog 35 #[.slice A0 l0.length c0] w fun e w'=>∃v0_:Value,e= .returned (v0_)∧Kd.S (Kd.slice 3 (Kd.int .i64)) 25 w' w.heap.size (fun _=>True) v0_ r∧Below w.heap.size w w':=by
 have Bq:=Az.mk Bn
 have Bw:=Az.mk Bo
 clear Bn Bo
 have HB:=Az.mk (Below.refl w.heap.size w)
 have H:(gO.l0 k (([]:List (List Int))) l0 (l0.length:Int) 0)=some r:=h
 clear h
 obtain⟨Av,hy⟩:∃y_:List (List Int),y_=(([]:List (List Int))):=⟨_,rfl⟩
 replace H:(gO.l0 k Av l0 (l0.length:Int) 0)=some r:=rh
 have Ao:=Az.mk hy
 clear hy
 have H':=Az.mk H
 clear H
 go_enter Try.func35,Try.ntmps35
 go_wp2_with (first|((with_reducible refine gtD (N:=6) rfl ?_);refine Kd.S_lit (Kd.slice 3 (Kd.int .i64)) _ 25 ?hg (N:=6) ?hd (xs:=([]:List (List Int))) (inner:=[]) (ok:=fun _=>True) (okp:=fun _=>True) ?hr ?hp (fun _ hk=>hk) trivial (Below.refl _ _) (Nat.le_refl _) (by simp) ?_;(case hd=>rfl);(case hg=>rfl);(case hr=>first|(go_simp;done)|(go_simp;rfl));(case hp=>exact(Reps.none _ _));intro Br w2 Ax hb hg_ hnew_;clear hg_ hnew_;(first|rw[←Ao.out]at Ax|(simp only[Int.reduceToNat]at Ax;rw[←Ao.out]at Ax));have Ay:=Az.mk (Kd.S_lower Ax (bwZ bw_29));replace HB:=Az.mk (bwT bw_29 hb);clear hb Ax))
 go_loopg [3,9] k (fun kq v3 v9 w'=>∃(Aj:List (List Int)) (Ad:Int),v9= .int .i64 Ad∧Az (gO.l0 kq Aj l0 (l0.length:Int) Ad=some r)∧Az (kq≤k)∧Az (Kd.S (Kd.slice 3 (Kd.int .i64)) 25 w' w.heap.size (fun _=>True) v3 Aj)∧Az (Below w.heap.size w w'))
 case atStart=>exact⟨(Av),(0),rq2,H',⟨Nat.le_refl _⟩,⟨kS Ay.out⟩,⟨bw_29⟩⟩
 clear H'
 obtain⟨Aj,Ad,rfl,HA,HK1,Ae,HB⟩:=hrel
 cases gk with
 |zero=>exact absurd HA.out (by simp[gO.l0])
 |succ k1=>
  have H:=HA.out
  clear HA
  simp only[gO.l0]at H
  by_cases c4:Ad<(l0.length:Int)
  rotate_left
  ·rw[ig c4]at H
   have Bj:=decide_eq_false c4
   clear c4
   obtain rfl:=Option.some.inj H
   go_wp2
   go_ret
   exact⟨_,rq1,kS Ae.out,bw_29⟩
  rw[ip c4]at H
  have Bj:=ode c4
  clear c4
  by_cases c5:0≤Ad
  rotate_left
  ·rw[ig c5]at H
   exact absurd H (by simp)
  rw[ip c5]at H
  have Bs:=ode c5
  clear c5
  by_cases c6:Ad<(l0.length:Int)
  rotate_left
  ·rw[ig c6]at H
   exact absurd H (by simp)
  rw[ip c6]at H
  have Bt:=ode c6
  clear c6
  replace H:=bez H
  obtain⟨Ak,A7,H⟩:=H
  try dsimp only at H
  by_cases c8:Aj.length<5864062014805
  rotate_left
  ·rw[ig c8]at H
   exact absurd H (by simp)
  rw[ip c8]at H
  have LMc8:=Az.mk c8
  clear c8
  obtain⟨Ba,hy⟩:∃y_:List (List Int),y_=(Aj ++ [Ak]):=⟨_,rfl⟩
  replace H:(gO.l0 k1 Ba l0 (l0.length:Int) (wrap64 (Ad+1)))=some r:=rh
  have Bb:=Az.mk hy
  clear hy
  have H':=Az.mk H
  clear H
  have Ap:0≤(Ad:Int):=od
  have Aq:Ad<(l0.length:Int):=od
  obtain⟨Bp,As,Au,Bk,Af,Ag,Ah⟩:=at_L1 Bq.out Ad Ap Aq
  cases Bk
  replace Af:=kc HB Af
  have Al:=Az.mk Ah
  have Am:=Az.mk Ag
  clear Ah Ag
  replace Ap:=ets Ap
  replace Aq:=ets Aq
  go_wp2_with (first|((with_reducible refine gtC (f:=30) rfl ?_);refine clz Try.func30 (some 15) #[.slice As (rd_L1 l0 Ad).length Au] ?_;(with_reducible refine(jK.calls _ _ (rd_L1 l0 Ad) Ak _ ?Bc ?Bd A7.out).mono ?_);(case Bc=>exact kC (Kd.C_below Al.out HB.out));(case Bd=>exact Am.out);rintro e w9 ⟨Bu,rfl,Bl,hb⟩;refine⟨_,rfl,?_⟩;replace Ae:=Az.mk (Kd.S_elder' (kS Ae.out) (Kd.R_base Bl) hb);have Ai:=Az.mk (Kd.R_lower Bl (bwZ bw_29));replace HB:=Az.mk (bwT bw_29 hb);(try clear hb);(try clear Bl);obtain⟨Bf,Bh,Bm⟩:=Kd.R_slice Ai.out;subst Bm)|((with_reducible refine gate_builtin (b:= .append) (xs:= #[.tmp 13, .tmp 16]) rfl ?_);at_builtin;refine Kd.S_append (Kd.slice 3 (Kd.int .i64)) (w0:=w) w.heap.size rfl (.tmp 13) (.tmp 16) 24 25 (.slice none 0 0) 24 rfl Try.underlying24 info25 rfl (by decide) (by omega) u3 Aj Ak [.slice Bf Ak.length Bh] (fun _=>True) (fun k_=>some k_=(.slice Bf Ak.length Bh:Value).ownBlock) rfl rfl ?aP (fun k_ hk_=>((Kd.R_mono (ok':=fun k_=>((fun _=>True)) k_∧some k_≠(u3:Value).ownBlock) (Kd.R_apart' (Ai.out) (Kd.S_typed Ae.out) (by decide)) (fun k_ hk=>⟨trivial,hk.2⟩))).1 k_ hk_.symm) ?aF ?aO ?aB ?aS ?aL ?_;(case aP=>exact Kd.M_row (Kd.R_mono (Kd.R_tight rfl (Kd.R_mono (ok':=fun k_=>((fun _=>True)) k_∧some k_≠(u3:Value).ownBlock) (Kd.R_apart' (Ai.out) (Kd.S_typed Ae.out) (by decide)) (fun k_ hk=>⟨trivial,hk.2⟩))) (fun _ h_=>h_)));(case aB=>exact bw_29);(case aF=>exact(fun _ _=>trivial));(case aO=>exact(by(with_reducible repeat(first|apply Kd.S_alloc|apply Kd.S_drewN|apply Kd.S_drew));exact Kd.S_mono Ae.out (fun k_ hk=>⟨trivial,fun e_=>hk.2 e_⟩)));(case aS=>exact(bwZ bw_29));(case aL=>have:=LMc8.out;omega);intro Bv Bx ho hb hg hat;rw[←Bb.out]at ho;have n0_:=Az.mk (hb);have n1_:=Az.mk (ho);clear HB;clear Ae;clear Ai;have HB:=n0_;have Bi:=n1_;clear n0_ n1_;clear ho hb hg hat))
  go_roundg k1
  case measure=>have:=HK1.out;omega
  case rel=>exact⟨(Ba),(wrap64 (Ad+1)),rq2,H',⟨by have:=HK1.out;omega⟩,⟨kS Bi.out⟩,⟨bw_29⟩⟩
theorem bw_30 {n:Nat}{v v':World} (h:Below n v v':=by repeat(first|(with_reducible first|exact HB.out|apply bwA|apply pbN|apply bwD)|exact HB.out)):Below n v v':=h
theorem ln_30 {P:Prop} (h:P:=by(try simp only[List.map_toArray,List.map_cons,List.map_nil]);first|done|rfl|(simp only[List.length_drop,List.length_take];rfl)):P:=h
def gP.l0:Nat→List Int→List Int→Int→Option (List Int)
 |0,_,_,_=>none
 |k+1,x0,x3,x4=>if x4 ≥ 0 then(if 0≤x4 then(if x4<(x0.length:Int) then(if x3.length<17592186044416 then(gP.l0 k x0 (x3 ++ [wrap64 (-(rd x0 x4))]) (wrap64 (x4 - 1))) else(none)) else(none)) else(none)) else(some x3)
def gP.f (k:Nat) (l0:List Int):Option (List Int):=gP.l0 k l0 (([]:List Int)) (wrap64 ((l0.length:Int) - 1))
theorem gP.calls (k:Nat) (A0:Option Addr) (c0:Nat) (l0:List Int) (r:List Int) (w:World) (Av:Kd.C (Kd.int .i64) w A0 l0.length l0) (Ax:l0.length≤c0) (h:gP.f k l0=some r):
  Calls Try.prog 36 #[.slice A0 l0.length c0] w fun e w'=>∃v0_:Value,e= .returned (v0_)∧Kd.R (Kd.int .i64) 3 w' w.heap.size (fun _=>True) v0_ r∧Below w.heap.size w w':=by
 have Ba:=Az.mk Av
 have Bh:=Az.mk Ax
 clear Av Ax
 have HB:=Az.mk (Below.refl w.heap.size w)
 have H:(gP.l0 k l0 (([]:List Int)) (wrap64 ((l0.length:Int) - 1)))=some r:=h
 clear h
 obtain⟨Ak,hy⟩:∃y_:List Int,y_=(([]:List Int)):=⟨_,rfl⟩
 replace H:(gP.l0 k l0 Ak (wrap64 ((l0.length:Int) - 1)))=some r:=rh
 have Ag:=Az.mk hy
 clear hy
 have H':=Az.mk H
 clear H
 go_enter Try.func36,Try.ntmps36
 go_wp2_with (first|((with_reducible refine gtD (N:=5) rfl ?_);refine Kd.R_lit (Kd.int .i64) _ 3 ?hg (N:=5) ?hd (xs:=([]:List Int)) (inner:=[]) (ok:=fun _=>True) (okp:=fun _=>True) ?hr ?hp (fun _ hk=>hk) trivial (Below.refl _ _) (Nat.le_refl _) (by simp) ?_;(case hd=>rfl);(case hg=>rfl);(case hr=>first|(go_simp;done)|(go_simp;rfl));(case hp=>exact(Reps.none _ _));intro Bb w2 Al hb hg_ hnew_;clear hg_ hnew_;(first|rw[←Ag.out]at Al|(simp only[Int.reduceToNat]at Al;rw[←Ag.out]at Al));have Am:=Az.mk (Kd.R_lower Al (bwZ bw_30));replace HB:=Az.mk (bwT bw_30 hb);clear hb Al))
 go_loopg [3,4] k (fun kq v3 v4 w'=>∃(Af:List Int) (Ad:Int),v4= .int .i64 Ad∧Az (gP.l0 kq l0 Af Ad=some r)∧Az (kq≤k)∧Az (Kd.R (Kd.int .i64) 3 w' w.heap.size (fun _=>True) v3 Af)∧Az (Below w.heap.size w w'))
 case atStart=>exact⟨(Ak),(wrap64 ((l0.length:Int) - 1)),rq2,H',⟨Nat.le_refl _⟩,⟨kR Am.out⟩,⟨bw_30⟩⟩
 clear H'
 obtain⟨Af,Ad,rfl,HA,HK1,Ah,HB⟩:=hrel
 cases gk with
 |zero=>exact absurd HA.out (by simp[gP.l0])
 |succ k1=>
  have H:=HA.out
  clear HA
  simp only[gP.l0]at H
  by_cases c4:Ad ≥ 0
  rotate_left
  ·rw[ig c4]at H
   have As:decide (0≤Ad)=false:=decide_eq_false c4
   clear c4
   obtain rfl:=Option.some.inj H
   go_wp2
   go_ret
   exact⟨_,rq1,kR Ah.out,bw_30⟩
  rw[ip c4]at H
  have As:decide (0≤Ad)=true:=ode c4
  clear c4
  by_cases c5:0≤Ad
  rotate_left
  ·rw[ig c5]at H
   exact absurd H (by simp)
  rw[ip c5]at H
  have Bc:=ode c5
  clear c5
  by_cases c6:Ad<(l0.length:Int)
  rotate_left
  ·rw[ig c6]at H
   exact absurd H (by simp)
  rw[ip c6]at H
  have Bd:=ode c6
  clear c6
  by_cases c7:Af.length<17592186044416
  rotate_left
  ·rw[ig c7]at H
   exact absurd H (by simp)
  rw[ip c7]at H
  have LMc7:=Az.mk c7
  clear c7
  obtain⟨Ao,hy⟩:∃y_:List Int,y_=(Af ++ [wrap64 (-(rd l0 Ad))]):=⟨_,rfl⟩
  replace H:(gP.l0 k1 l0 Ao (wrap64 (Ad - 1)))=some r:=rh
  have Ap:=Az.mk hy
  clear hy
  have H':=Az.mk H
  clear H
  have Ai:0≤(Ad:Int):=od
  have Aj:Ad<(l0.length:Int):=od
  obtain⟨Ay,Au,Ae⟩:=Kd.at_int Ba.out Ad Ai Aj
  cases Au
  replace Ae:=kc HB Ae
  replace Ai:=ets Ai
  replace Aj:=ets Aj
  go_wp2_with (first|((with_reducible refine gate_builtin (b:= .append) (xs:= #[.tmp 13, .tmp 19]) rfl ?_);at_builtin;refine Kd.R_append (Kd.int .i64) (w0:=w) w.heap.size rfl (.tmp 13) (.tmp 19) 25 3 (.int .i64 0) 8 rfl Try.underlying25 info3 rfl (by decide) (by omega) u3 Af (wrap64 (-(rd l0 Ad))) [.int .i64 (wrap64 (-(rd l0 Ad)))] (fun _=>True) (fun _=>False) rfl rfl ?aP (fun _ hk=>hk.elim) ?aF ?aO ?aB ?aS ?aL ?_;(case aP=>exact rfl);(case aB=>exact bw_30);(case aF=>exact(fun _ _=>trivial));(case aO=>exact(kR Ah.out));(case aS=>exact(bwZ bw_30));(case aL=>have:=LMc7.out;omega);intro Bf w8 ho hb hg hat;rw[←Ap.out]at ho;have n0_:=Az.mk (hb);have n1_:=Az.mk (ho);clear HB;clear Ah;have HB:=n0_;have Aq:=n1_;clear n0_ n1_;clear ho hb hg hat))
  go_roundg k1
  case measure=>have:=HK1.out;omega
  case rel=>exact⟨(Ao),(wrap64 (Ad - 1)),rq2,H',⟨by have:=HK1.out;omega⟩,⟨kR Aq.out⟩,⟨bw_30⟩⟩
def mA.f (k:Nat) (l0:List (List Int)):Option ((List (List Int)) × Bool):=(fX.f k l0).bind fun t613=>(if t613=true then(some (l0,true)) else(some (([]:List (List Int)),false)))
theorem mA.callsS (k:Nat) (base:Nat) (ok:Nat→Prop) (A0:Option Addr) (c0:Nat) (l0:List (List Int)) (r1:List (List Int)) (r2:Bool) (w:World) (hs0:Kd.S (Kd.slice 3 (Kd.int .i64)) 25 w base ok (.slice A0 l0.length c0) l0) (h:mA.f k l0=some (r1,r2)):
  Calls Try.prog 37 #[.slice A0 l0.length c0] w fun e w'=>∃v0_:Value,e= .returned (.tuple #[v0_, .bool r2])∧Kd.S (Kd.slice 3 (Kd.int .i64)) 25 w' base ok v0_ r1∧Below w.heap.size w w':=by
 have Af:=Az.mk hs0
 have HB:=Az.mk (Below.refl w.heap.size w)
 have H:((fX.f k l0).bind fun Ag=>(if Ag=true then(some (l0,true)) else(some (([]:List (List Int)),false))))=some (r1,r2):=h
 clear h
 replace H:=bez H
 obtain⟨Ag,A2,H⟩:=H
 try dsimp only at H
 by_cases c3:Ag=true
 ·subst c3
  rw[ip rfl]at H
  simp only[Option.some.injEq,Prod.mk.injEq]at H
  obtain⟨rfl,rfl⟩:=H
  go_enter Try.func37,Try.ntmps37
  go_wp2_with (first|((with_reducible refine gtC (f:=66) rfl ?_);refine clz Try.func66 (some 5) #[.slice A0 l0.length c0] ?_;(with_reducible refine(fX.calls k _ _ l0 true _ ?Ad ?Ae A2.out).mono ?_);(case Ad=>exact kC (Kd.S_reads' Af.out).2.2);(case Ae=>exact(Kd.S_reads' Af.out).2.1);rintro e w4 ⟨rfl,hb⟩;refine⟨_,rfl,?_⟩;replace Af:=Az.mk (Kd.S_below (kS Af.out) hb);replace HB:=Az.mk (bwT bw_30 hb);(try clear hb)))
  go_ret2
  exact⟨_,rq1,kS Af.out,bw_30⟩
 replace c3:=Bool.eq_false_iff.mpr c3
 subst c3
 rw[ig ff]at H
 simp only[Option.some.injEq,Prod.mk.injEq]at H
 obtain⟨rfl,rfl⟩:=H
 go_enter Try.func37,Try.ntmps37
 go_wp2_with (first|((with_reducible refine gtC (f:=66) rfl ?_);refine clz Try.func66 (some 5) #[.slice A0 l0.length c0] ?_;(with_reducible refine(fX.calls k _ _ l0 false _ ?Ad ?Ae A2.out).mono ?_);(case Ad=>exact kC (Kd.S_reads' Af.out).2.2);(case Ae=>exact(Kd.S_reads' Af.out).2.1);rintro e w5 ⟨rfl,hb⟩;refine⟨_,rfl,?_⟩;replace Af:=Az.mk (Kd.S_below (kS Af.out) hb);replace HB:=Az.mk (bwT bw_30 hb);(try clear hb)))
 go_ret2
 exact⟨_,rq1,Kd.S_nil _ _ _ _ _,bw_30⟩
def jH.f (k:Nat) (l0:List (List Int)) (a1:Int):Option ((List (List Int)) × Bool):=(jQ.f k l0 a1).bind fun t614=>(if t614=true then((gO.f k l0).bind fun t615=>(if 0≤a1 then(if a1<(l0.length:Int) then((gP.f k (rd_L1 l0 a1)).bind fun t619=>(if a1<(t615.length:Int) then((mA.f k (t615.set (a1:Int).toNat t619)).bind fun bt623=>(some (bt623.1,bt623.2))) else(none))) else(none)) else(none))) else(some (([]:List (List Int)),false)))
theorem jH.calls (k:Nat) (A0:Option Addr) (c0:Nat) (l0:List (List Int)) (a1:Int) (r1:List (List Int)) (r2:Bool) (w:World) (Cm:Kd.C (Kd.slice 3 (Kd.int .i64)) w A0 l0.length l0) (Cn:l0.length≤c0) (h:jH.f k l0 a1=some (r1,r2)):
  Calls Try.prog 12 #[.slice A0 l0.length c0, .int .i64 a1] w fun e w'=>∃v0_:Value,e= .returned (.tuple #[v0_, .bool r2])∧Kd.S (Kd.slice 3 (Kd.int .i64)) 25 w' w.heap.size (fun _=>True) v0_ r1∧Below w.heap.size w w':=by
 have Bx:=Az.mk Cm
 have By:=Az.mk Cn
 clear Cm Cn
 have HB:=Az.mk (Below.refl w.heap.size w)
 have H:((jQ.f k l0 a1).bind fun Bd=>(if Bd=true then((gO.f k l0).bind fun Ae=>(if 0≤a1 then(if a1<(l0.length:Int) then((gP.f k (rd_L1 l0 a1)).bind fun Ap=>(if a1<(Ae.length:Int) then((mA.f k (Ae.set (a1:Int).toNat Ap)).bind fun Ah=>(some (Ah.1,Ah.2))) else(none))) else(none)) else(none))) else(some (([]:List (List Int)),false))))=some (r1,r2):=h
 clear h
 replace H:=bez H
 obtain⟨Bd,A3,H⟩:=H
 try dsimp only at H
 by_cases c4:Bd=true
 rotate_left
 ·replace c4:=Bool.eq_false_iff.mpr c4
  subst c4
  rw[ig ff]at H
  simp only[Option.some.injEq,Prod.mk.injEq]at H
  obtain⟨rfl,rfl⟩:=H
  go_enter Try.func12,Try.ntmps12
  go_wp2_with (first|((with_reducible refine gtC (f:=34) rfl ?_);refine clz Try.func34 (some 9) #[.slice A0 l0.length c0, .int .i64 a1] ?_;(with_reducible refine(jQ.calls k _ _ l0 a1 false _ ?Af ?Ag A3.out).mono ?_);(case Af=>exact kC Bx.out);(case Ag=>exact By.out);rintro e Cz ⟨rfl,hb⟩;refine⟨_,rfl,?_⟩;replace HB:=Az.mk (bwT bw_30 hb);(try clear hb)))
  go_ret2
  exact⟨_,rq1,Kd.S_nil _ _ _ _ _,bw_30⟩
 subst c4
 rw[ip rfl]at H
 replace H:=bez H
 obtain⟨Ae,A5,H⟩:=H
 try dsimp only at H
 by_cases c6:0≤a1
 rotate_left
 ·rw[ig c6]at H
  exact absurd H (by simp)
 rw[ip c6]at H
 have Cp:=ode c6
 clear c6
 by_cases c7:a1<(l0.length:Int)
 rotate_left
 ·rw[ig c7]at H
  exact absurd H (by simp)
 rw[ip c7]at H
 have Cq:=ode c7
 clear c7
 replace H:=bez H
 obtain⟨Ap,A8,H⟩:=H
 try dsimp only at H
 by_cases c9:a1<(Ae.length:Int)
 rotate_left
 ·rw[ig c9]at H
  exact absurd H (by simp)
 rw[ip c9]at H
 have Cr:=ode c9
 clear c9
 obtain⟨Ao,hy⟩:∃y_:List (List Int),y_=(Ae.set (a1:Int).toNat Ap):=⟨_,rfl⟩
 replace H:((mA.f k Ao).bind fun Ah=>(some (Ah.1,Ah.2)))=some (r1,r2):=rh
 have Bp:=Az.mk hy
 clear hy
 replace H:=bez H
 obtain⟨⟨Bz,Ca⟩,Cs,H⟩:=H
 try dsimp only at H
 simp only[Option.some.injEq,Prod.mk.injEq]at H
 obtain⟨rfl,rfl⟩:=H
 go_enter Try.func12,Try.ntmps12
 go_wp2_with (first|((with_reducible refine gtC (f:=34) rfl ?_);refine clz Try.func34 (some 9) #[.slice A0 l0.length c0, .int .i64 a1] ?_;(with_reducible refine(jQ.calls k _ _ l0 a1 true _ ?Af ?Ag A3.out).mono ?_);(case Af=>exact kC Bx.out);(case Ag=>exact By.out);rintro e Da ⟨rfl,hb⟩;refine⟨_,rfl,?_⟩;replace HB:=Az.mk (bwT bw_30 hb);(try clear hb))|((with_reducible refine gtC (f:=35) rfl ?_);refine clz Try.func35 (some 12) #[.slice A0 l0.length c0] ?_;(with_reducible refine(gO.calls k _ _ l0 Ae _ ?Af ?Ag A5.out).mono ?_);(case Af=>exact kC (Kd.C_below Bx.out HB.out));(case Ag=>exact By.out);rintro e Db ⟨Ct,rfl,Aq,hb⟩;refine⟨_,rfl,?_⟩;have Ad:=Az.mk (Kd.S_lower (Kd.S_newM (M:=fun k_=>(w.heap.size≤k_)) Aq (bwZ bw_30) (fun k_ h_=>h_)) (bwZ bw_30));replace HB:=Az.mk (bwT bw_30 hb);(try clear hb);(try clear Aq);have Bf:0≤(a1:Int):=od;have Bh:a1<(l0.length:Int):=od;obtain⟨Co,Bi,Bj,Cb,Aj,Ak,Al⟩:=at_L1 Bx.out a1 Bf Bh;cases Cb;replace Aj:=kc HB Aj;have As:=Az.mk Al;have Au:=Az.mk Ak;clear Al Ak;replace Bf:=ets Bf;replace Bh:=ets Bh)|((with_reducible refine gtC (f:=36) rfl ?_);refine clz Try.func36 (some 19) #[.slice Bi (rd_L1 l0 a1).length Bj] ?_;(with_reducible refine(gP.calls k _ _ (rd_L1 l0 a1) Ap _ ?Af ?Ag A8.out).mono ?_);(case Af=>exact kC (Kd.C_below As.out HB.out));(case Ag=>exact Au.out);rintro e Cc ⟨Av,rfl,Aq,hb⟩;refine⟨_,rfl,?_⟩;replace Ad:=Az.mk (Kd.S_elder' (kS Ad.out) (Kd.R_base Aq) hb);have Am:=Az.mk (Kd.R_lower (Kd.R_newM (M:=fun k_=>(w.heap.size≤k_)) Aq (bwZ bw_30) (fun k_ h_=>h_)) (bwZ bw_30));replace HB:=Az.mk (bwT bw_30 hb);(try clear hb);(try clear Aq);have Cd:0≤(a1:Int):=od;have Ce:(a1:Int)<((Ae.length:Int):Int):=od;obtain⟨Ai,Bk,Bq,Br,gl10,Cu,HG10⟩:=Kd.S_form Ad.out (by omega);(first|cases Bq|(injection Bq with ea_ en_ ec_;(first|subst ea_|(injection ea_ with ea_;subst ea_));subst ec_;clear en_));have Cf:=Az.mk Br;have Cv:=Az.mk HG10;clear Br gl10 HG10;obtain⟨_,Cw,Bs,Bt,Ay,Ba,_,_⟩:=Kd.S_elem Ad.out [] (a1:Int) Cd Ce;obtain⟨Cg,rfl,Ch⟩:=Bt;have Bl:=Ay 0 _ rfl;have Bm:=Ba 0;(try simp only[show((Kd.slice 3 (Kd.int .i64))).sz=1 from rfl,Nat.mul_one,Nat.add_zero]at Bl);(try simp only[show((Kd.slice 3 (Kd.int .i64))).sz=1 from rfl,Nat.mul_one,Nat.add_zero]at Bm);(try clear Bs);(try clear Ay);(try clear Ba);(try clear Bt);replace Cd:=ets Cd;replace Ce:=ets Ce;have n_:=Az.mk (Kd.S_mono (ok':=(fun k_=>(w.heap.size≤k_)∧some k_≠(Av:Value).ownBlock)) Ad.out (fun k_ hk=>⟨hk.1.1,hk.2⟩));clear Ad;have Ad:=n_;clear n_;have Ci:=Az.mk (show Kd.S (Kd.slice 3 (Kd.int .i64)) 25 Cc w.heap.size (fun k_=>((fun k_=>(w.heap.size≤k_))) k_∧¬((fun k_=>some k_=(Av:Value).ownBlock)) k_) (.slice (some ⟨Ai,0,none⟩) Ae.length Bk) Ae from(by(with_reducible repeat(first|apply Kd.S_alloc|apply Kd.S_drewN|apply Kd.S_drew));exact Kd.S_mono Ad.out (fun k_ hk=>⟨hk.1,fun e_=>hk.2 e_⟩)));obtain⟨oki15,Cx,Bu,Bv,Bb,Bc,hoki15,hH15⟩:=Kd.S_elem Ci.out [] (a1:Int) (od) (by have h_:(a1:Int)<((Ae.length:Int):Int):=od;first|exact h_|(have e_:=(Kd.S_reads' Ad.out).1;omega)|simpa using h_);obtain⟨Cj,rfl,Ck⟩:=Bv;have Ax:=Kd.S_seg hH15 (od) (by have h_:(a1:Int)<((Ae.length:Int):Int):=od;first|exact h_|(have e_:=(Kd.S_reads' Ad.out).1;omega)|simpa using h_) (seg:=[Av]) (j:=0) (show 1≤1 from by decide) (x':=Ap) (Kd.M_row (Kd.R_mono (Kd.R_tight rfl (Kd.R_mono (ok':=fun k_=>((fun k_=>(w.heap.size≤k_))) k_∧k_≠Ai) (Kd.R_apart' (Am.out) (Kd.S_typed Ad.out) (by decide)) (fun k_ hk=>⟨hk.1.1,fun e_=>(hk.2) (by rw[e_];rfl)⟩))) (fun _ h_=>Or.inr (h_)))) (fun _ hk=>hk) (fun k_ hk_=>((Kd.R_mono (ok':=fun k_=>((fun k_=>(w.heap.size≤k_))) k_∧k_≠Ai) (Kd.R_apart' (Am.out) (Kd.S_typed Ad.out) (by decide)) (fun k_ hk=>⟨hk.1.1,fun e_=>(hk.2) (by rw[e_];rfl)⟩))).1 k_ hk_.symm);have Bn:=Bb 0 _ rfl;(try simp only[show((Kd.slice 3 (Kd.int .i64))).sz=1 from rfl,Nat.mul_one,Nat.add_zero]at Bn);have Bo:=Bc 0;(try simp only[show((Kd.slice 3 (Kd.int .i64))).sz=1 from rfl,Nat.mul_one,Nat.add_zero]at Bo);(try clear Bu);(try clear Bb);(try clear Bc);(try clear Bv);(try clear hoki15);(try clear hH15);(try simp only[show((Kd.slice 3 (Kd.int .i64))).sz=1 from rfl,Nat.mul_one,Nat.add_zero]at Ax))|((with_reducible refine gate_store (t:=25) (p:=20) rfl ?_);refine store_event (t:=25) (p:=20) (v:=?vo_w16) (w1:=(Cc.setCell ⟨Ai,(a1:Int).toNat,none⟩ (Av))) ?hg ?ho ?hn ?hr ?_;(case ho=>rfl);(case hg=>rfl);(case hn=>rfl);(case hr=>first|(go_simp;done)|(go_simp;rfl)|(obtain⟨Av_,cv_,ev_⟩:=Kd.R_slice Am.out;subst ev_;first|(go_simp;done)|(go_simp;rfl)));intro Cl hw;have hg:Cc.grownBy Cl (some Ai):=(by rw[hw];exact Ax.2);have hp_:Kd.S (Kd.slice 3 (Kd.int .i64)) 25 Cl w.heap.size (fun k_=>(w.heap.size≤k_)) (.slice (some ⟨Ai,0,none⟩) Ae.length Bk) Ao:=(by rw[hw,Bp.out];exact Ax.1);clear Ax;have n0_:=Az.mk (hp_);have n1_:=Az.mk ((by rw[hw];exact bwS (HB.out) Cf.out:Below w.heap.size w Cl));clear Ad;clear HB;clear Am;have Ad:=n0_;have HB:=n1_;clear n0_ n1_;clear hg hw hp_)|((with_reducible refine gtC (f:=37) rfl ?_);refine goesL_ (some 22) rfl rfl Try.func37 (by kernel_rfl) rfl #[.slice (some ⟨Ai,0,none⟩) Ao.length Bk] rfl (by(try simp only[List.map_toArray,List.map_cons,List.map_nil]);first|done|(rw[show Ao.length=Ae.length from(Kd.S_reads' Ad.out).1.symm] <;> rfl)|rfl|(simp only[List.length_drop,List.length_take];rfl)) ?_;(with_reducible refine(mA.callsS k w.heap.size (fun k_=>(w.heap.size≤k_)) _ _ Ao Bz Ca _ ?Af Cs.out).mono ?_);(case Af=>rw[show Ao.length=Ae.length from(Kd.S_reads' Ad.out).1.symm];exact Ad.out);rintro e Dc ⟨Cy,rfl,Aq,hb⟩;refine⟨_,rfl,?_⟩;replace Ad:=Az.mk (Kd.S_below (kS Ad.out) hb);have Bw:=Az.mk Aq;replace HB:=Az.mk (bwT bw_30 hb);(try clear hb);(try clear Aq)))
 go_ret2
 exact⟨_,rq1,by(with_reducible repeat(first|apply Kd.S_alloc|apply Kd.S_drewN|apply Kd.S_drew));exact Kd.S_mono Bw.out (fun _ _=>trivial),bw_30⟩
theorem bw_31 {n:Nat}{v v':World} (h:Below n v v':=by repeat(first|(with_reducible first|exact HB.out|apply bwA|apply pbN|apply bwD)|exact HB.out)):Below n v v':=h
theorem ln_31 {P:Prop} (h:P:=by(try simp only[List.map_toArray,List.map_cons,List.map_nil]);first|done|rfl|(simp only[List.length_drop,List.length_take];rfl)):P:=h
mutual
def fK.l0:Nat→List (List Int)→List Int→List Int→Int→Option (Int × Int)
 |0,_,_,_,_=>none
 |k+1,x0,x1,x6,x7=>if x7<(x0.length:Int) then(fK.l1 k x0 x1 x6 x7 0) else(some ((-1),(-1)))
def fK.l1:Nat→List (List Int)→List Int→List Int→Int→Int→Option (Int × Int)
 |0,_,_,_,_,_=>none
 |k+1,x0,x1,x6,x7,x8=>if x8<3 then(if 0≤x7 then(if x7<(x0.length:Int) then(if 0≤x8 then(if x8<((rd_L1 x0 x7).length:Int) then((gB.f (rd (rd_L1 x0 x7) x8)).bind fun t563=>((gR.f (decide ((rd (rd_L1 x0 x7) x8)>0))).bind fun t564=>((gD.f k x6 (wrap64 ((wrap64 (2*t563))+t564))).bind fun t565=>(fK.l2 k x0 x1 x6 x7 x8 t565 true 0)))) else(none)) else(none)) else(none)) else(none)) else(fK.l0 k x0 x1 x6 (wrap64 (x7+1)))
def fK.l2:Nat→List (List Int)→List Int→List Int→Int→Int→Int→Bool→Int→Option (Int × Int)
 |0,_,_,_,_,_,_,_,_=>none
 |k+1,x0,x1,x6,x7,x8,x10,x11,x12=>if x12<(x0.length:Int) then(fK.l3 k x0 x1 x6 x7 x8 x10 x11 x12 0) else(if x11=true then(some (x7,x8)) else(fK.l1 k x0 x1 x6 x7 (wrap64 (x8+1))))
def fK.l3:Nat→List (List Int)→List Int→List Int→Int→Int→Int→Bool→Int→Int→Option (Int × Int)
 |0,_,_,_,_,_,_,_,_,_=>none
 |k+1,x0,x1,x6,x7,x8,x10,x11,x12,x13=>if x13<3 then(if 0≤x12 then(if x12<(x0.length:Int) then(if 0≤x13 then(if x13<((rd_L1 x0 x12).length:Int) then((gB.f (rd (rd_L1 x0 x12) x13)).bind fun t568=>((gR.f (decide ((rd (rd_L1 x0 x12) x13)>0))).bind fun t569=>((gD.f k x6 (wrap64 ((wrap64 (2*t568))+t569))).bind fun t570=>(if t570=x10 then((gW.f x0 x1 x12 x13).bind fun t571=>(if t571<2 then(fK.l3 k x0 x1 x6 x7 x8 x10 false x12 (wrap64 (x13+1))) else(fK.l3 k x0 x1 x6 x7 x8 x10 x11 x12 (wrap64 (x13+1))))) else(fK.l3 k x0 x1 x6 x7 x8 x10 x11 x12 (wrap64 (x13+1))))))) else(none)) else(none)) else(none)) else(none)) else(fK.l2 k x0 x1 x6 x7 x8 x10 x11 (wrap64 (x12+1)))
end
def fK.f (k:Nat) (l0:List (List Int)) (l1:List Int):Option (Int × Int):=(fO.f k l0).bind fun t558=>(fK.l0 k l0 l1 t558 0)
theorem fK.calls (k:Nat) (A0:Option Addr) (c0:Nat) (l0:List (List Int)) (A1:Option Addr) (c1:Nat) (l1:List Int) (r1:Int) (r2:Int) (w:World) (Do:Kd.C (Kd.slice 3 (Kd.int .i64)) w A0 l0.length l0) (Dp:l0.length≤c0) (Dq:Kd.C (Kd.int .i64) w A1 l1.length l1) (Dr:l1.length≤c1) (h:fK.f k l0 l1=some (r1,r2)):
  Calls Try.prog 39 #[.slice A0 l0.length c0, .slice A1 l1.length c1] w fun e w'=>e= .returned (.tuple #[.int .i64 r1, .int .i64 r2])∧Below w.heap.size w w':=by
 have Cf:=Az.mk Do
 have De:=Az.mk Dp
 clear Do Dp
 have HR1:=Az.mk Dq
 have Ds:=Az.mk Dr
 clear Dq Dr
 have HB:=Az.mk (Below.refl w.heap.size w)
 have H:((fO.f k l0).bind fun Aj=>(fK.l0 k l0 l1 Aj 0))=some (r1,r2):=h
 clear h
 replace H:=bez H
 obtain⟨Aj,A3,H⟩:=H
 try dsimp only at H
 have H':=Az.mk H
 clear H
 go_enter Try.func39,Try.ntmps39
 go_wp2_with (first|((with_reducible refine gtC (f:=68) rfl ?_);refine clz Try.func68 (some 16) #[.slice A0 l0.length c0] ?_;(with_reducible refine(fO.calls k _ _ l0 Aj _ ?Al ?Am A3.out).mono ?_);(case Al=>exact kC Cf.out);(case Am=>exact De.out);rintro e w4 ⟨Cp,rfl,Dt,hb⟩;refine⟨_,rfl,?_⟩;have Cq:=Az.mk (Kd.R_lower Dt (bwZ bw_31));replace HB:=Az.mk (bwT bw_31 hb);(try clear hb);(try clear Dt)))
 go_loopg [7] k (fun kq v7 w'=>∃(Ao:Int),v7= .int .i64 Ao∧Az (fK.l0 kq l0 l1 Aj Ao=some (r1,r2))∧Az (kq≤k)∧Az (Kd.R (Kd.int .i64) 3 w' w.heap.size (fun _=>True) Cp Aj)∧Az (Below w.heap.size w w'))
 case atStart=>exact⟨(0),rq2,H',⟨Nat.le_refl _⟩,⟨kR Cq.out⟩,⟨bw_31⟩⟩
 clear H'
 try clear c1
 obtain⟨Ao,rfl,HA,HK1,Ak,HB⟩:=hrel
 cases gk with
 |zero=>exact absurd HA.out (by simp[fK.l0])
 |succ k1=>
  have H:=HA.out
  clear HA
  simp only[fK.l0]at H
  by_cases c5:Ao<(l0.length:Int)
  rotate_left
  ·rw[ig c5]at H
   have By:=decide_eq_false c5
   clear c5
   simp only[Option.some.injEq,Prod.mk.injEq]at H
   obtain⟨rfl,rfl⟩:=H
   go_wp2
   go_ret2
   exact⟨rq1,bw_31⟩
  rw[ip c5]at H
  have By:=ode c5
  clear c5
  have H':=Az.mk H
  clear H
  go_wp2
  go_loopg [8] k1 (fun kq v8 w'=>∃(Ap:Int),v8= .int .i64 Ap∧Az (fK.l1 kq l0 l1 Aj Ao Ap=some (r1,r2))∧Az (kq≤k1)∧Az (Kd.R (Kd.int .i64) 3 w' w.heap.size (fun _=>True) Cp Aj)∧Az (Below w.heap.size w w'))
  case atStart=>exact⟨(0),rq2,H',⟨Nat.le_refl _⟩,⟨kR Ak.out⟩,⟨bw_31⟩⟩
  clear H'
  try clear c1
  try clear c5
  try clear By
  obtain⟨Ap,rfl,HA,HK2,Ak,HB⟩:=hrel
  cases gk with
  |zero=>exact absurd HA.out (by simp[fK.l1])
  |succ k2=>
   have H:=HA.out
   clear HA
   simp only[fK.l1]at H
   by_cases c6:Ap<3
   rotate_left
   ·rw[ig c6]at H
    have Cg:=decide_eq_false c6
    clear c6
    have H':=Az.mk H
    clear H
    go_wp2
    go_roundg k2
    case measure=>have:=HK1.out;have:=HK2.out;omega
    case rel=>exact⟨(wrap64 (Ao+1)),rq2,H',⟨by have:=HK1.out;have:=HK2.out;omega⟩,⟨kR Ak.out⟩,⟨bw_31⟩⟩
   rw[ip c6]at H
   have Cg:=ode c6
   clear c6
   by_cases c7:0≤Ao
   rotate_left
   ·rw[ig c7]at H
    exact absurd H (by simp)
   rw[ip c7]at H
   have Cr:=ode c7
   clear c7
   by_cases c8:Ao<(l0.length:Int)
   rotate_left
   ·rw[ig c8]at H
    exact absurd H (by simp)
   rw[ip c8]at H
   have Cs:=ode c8
   clear c8
   by_cases c9:0≤Ap
   rotate_left
   ·rw[ig c9]at H
    exact absurd H (by simp)
   rw[ip c9]at H
   have Ct:=ode c9
   clear c9
   by_cases Cm:Ap<((rd_L1 l0 Ao).length:Int)
   rotate_left
   ·rw[ig Cm]at H
    exact absurd H (by simp)
   rw[ip Cm]at H
   have Cc:=ode Cm
   clear Cm
   replace H:=bez H
   obtain⟨Ch,Ea,H⟩:=H
   try dsimp only at H
   replace H:=bez H
   obtain⟨Ci,Eb,H⟩:=H
   try dsimp only at H
   replace H:=bez H
   obtain⟨Bz,Ec,H⟩:=H
   try dsimp only at H
   have H':=Az.mk H
   clear H
   have Bn:0≤(Ao:Int):=od
   have Bo:Ao<(l0.length:Int):=od
   obtain⟨Bp,Df,Dg,Dh,As,Bi,Bj⟩:=at_L1 Cf.out Ao Bn Bo
   cases Dh
   replace As:=kc HB As
   have Ca:=Az.mk Bj
   have Cy:=Az.mk Bi
   clear Bj Bi
   replace Bn:=ets Bn
   replace Bo:=ets Bo
   have Bq:0≤(Ap:Int):=od
   have Br:Ap<((rd_L1 l0 Ao).length:Int):=od
   obtain⟨Du,Di,Au⟩:=Kd.at_int Ca.out Ap Bq Br
   cases Di
   replace Au:=kc HB Au
   replace Bq:=ets Bq
   replace Br:=ets Br
   go_wp2_with (first|((with_reducible refine gtC (f:=70) rfl ?_);refine clz Try.func70 (some 36) #[.int .i64 (rd (rd_L1 l0 Ao) Ap)] ?_;(with_reducible refine(gB.calls (rd (rd_L1 l0 Ao) Ap) Ch _ Ea.out).mono ?_);rintro e w' ⟨rfl,⟨nd,rfl⟩⟩;refine⟨_,rfl,?_⟩)|((with_reducible refine gtC (f:=71) rfl ?_);refine clz Try.func71 (some 40) #[.bool (decide ((rd (rd_L1 l0 Ao) Ap)>0))] ?_;(with_reducible refine(gR.calls (decide ((rd (rd_L1 l0 Ao) Ap)>0)) Ci _ Eb.out).mono ?_);rintro e w' ⟨rfl,⟨nd,rfl⟩⟩;refine⟨_,rfl,?_⟩;obtain⟨Bl,Bm,Dj⟩:=Kd.R_slice Ak.out;subst Dj)|((with_reducible refine gtC (f:=69) rfl ?_);refine clz Try.func69 (some 42) #[.slice Bl Aj.length Bm, .int .i64 (wrap64 ((wrap64 (2*Ch))+Ci))] ?_;(with_reducible refine(gD.calls k2 _ _ Aj (wrap64 ((wrap64 (2*Ch))+Ci)) Bz _ ?Al ?Am Ec.out).mono ?_);(case Al=>exact kC (Kd.R_reads' Ak.out).2.2);(case Am=>exact(Kd.R_reads' Ak.out).2.1);rintro e w' ⟨rfl,⟨nd,rfl⟩⟩;refine⟨_,rfl,?_⟩))
   go_loopg [11,12] k2 (fun kq Dk Ed w'=>∃(Bf:Bool) (Ad:Int),Dk= .bool Bf∧Ed= .int .i64 Ad∧Az (fK.l2 kq l0 l1 Aj Ao Ap Bz Bf Ad=some (r1,r2))∧Az (kq≤k2)∧Az (Kd.R (Kd.int .i64) 3 w' w.heap.size (fun _=>True) (.slice Bl Aj.length Bm) Aj)∧Az (Below w.heap.size w w'))
   case atStart=>exact⟨(true),(0),rq2,rq2,H',⟨Nat.le_refl _⟩,⟨kR Ak.out⟩,⟨bw_31⟩⟩
   clear H'
   try clear c1
   try clear c5
   try clear By
   try clear c6
   try clear Cg
   try clear c7
   try clear Cr
   try clear c8
   try clear Cs
   try clear c9
   try clear Ct
   try clear Cm
   try clear Cc
   try clear As
   try clear Au
   try clear Bn
   try clear Bq
   try clear Bo
   try clear Br
   obtain⟨Bf,Ad,rfl,rfl,HA,HK3,Ak,HB⟩:=hrel
   cases gk with
   |zero=>exact absurd HA.out (by simp[fK.l2])
   |succ k3=>
    have H:=HA.out
    clear HA
    simp only[fK.l2]at H
    by_cases Cj:Ad<(l0.length:Int)
    rotate_left
    ·rw[ig Cj]at H
     have Cd:=decide_eq_false Cj
     clear Cj
     by_cases Cz:Bf=true
     ·subst Cz
      rw[ip rfl]at H
      simp only[Option.some.injEq,Prod.mk.injEq]at H
      obtain⟨rfl,rfl⟩:=H
      go_wp2
      go_ret2
      exact⟨rq1,bw_31⟩
     replace Cz:=Bool.eq_false_iff.mpr Cz
     subst Cz
     rw[ig ff]at H
     have H':=Az.mk H
     clear H
     go_wp2
     go_roundg k3
     case measure=>have:=HK1.out;have:=HK2.out;have:=HK3.out;omega
     case rel=>exact⟨(wrap64 (Ap+1)),rq2,H',⟨by have:=HK1.out;have:=HK2.out;have:=HK3.out;omega⟩,⟨kR Ak.out⟩,⟨bw_31⟩⟩
    rw[ip Cj]at H
    have Cd:=ode Cj
    clear Cj
    have H':=Az.mk H
    clear H
    go_wp2
    go_loopg [11,13] k3 (fun kq Dk Ee w'=>∃(Bb:Bool) (Ae:Int),Dk= .bool Bb∧Ee= .int .i64 Ae∧Az (fK.l3 kq l0 l1 Aj Ao Ap Bz Bb Ad Ae=some (r1,r2))∧Az (kq≤k3)∧Az (Kd.R (Kd.int .i64) 3 w' w.heap.size (fun _=>True) (.slice Bl Aj.length Bm) Aj)∧Az (Below w.heap.size w w'))
    case atStart=>exact⟨(Bf),(0),rq2,rq2,H',⟨Nat.le_refl _⟩,⟨kR Ak.out⟩,⟨bw_31⟩⟩
    clear H'
    try clear c1
    try clear c5
    try clear By
    try clear c6
    try clear Cg
    try clear c7
    try clear Cr
    try clear c8
    try clear Cs
    try clear c9
    try clear Ct
    try clear Cm
    try clear Cc
    try clear Cj
    try clear Cd
    try clear As
    try clear Au
    try clear Bn
    try clear Bq
    try clear Bo
    try clear Br
    obtain⟨Bb,Ae,rfl,rfl,HA,HK4,Ak,HB⟩:=hrel
    cases gk with
    |zero=>exact absurd HA.out (by simp[fK.l3])
    |succ k4=>
     have H:=HA.out
     clear HA
     simp only[fK.l3]at H
     by_cases Cn:Ae<3
     rotate_left
     ·rw[ig Cn]at H
      have Cu:=decide_eq_false Cn
      clear Cn
      have H':=Az.mk H
      clear H
      go_wp2
      go_roundg k4
      case measure=>have:=HK1.out;have:=HK2.out;have:=HK3.out;have:=HK4.out;omega
      case rel=>exact⟨(Bb),(wrap64 (Ad+1)),rq2,rq2,H',⟨by have:=HK1.out;have:=HK2.out;have:=HK3.out;have:=HK4.out;omega⟩,⟨kR Ak.out⟩,⟨bw_31⟩⟩
     rw[ip Cn]at H
     have Cu:=ode Cn
     clear Cn
     by_cases Da:0≤Ad
     rotate_left
     ·rw[ig Da]at H
      exact absurd H (by simp)
     rw[ip Da]at H
     have Dv:=ode Da
     clear Da
     by_cases Db:Ad<(l0.length:Int)
     rotate_left
     ·rw[ig Db]at H
      exact absurd H (by simp)
     rw[ip Db]at H
     have Dw:=ode Db
     clear Db
     by_cases Dc:0≤Ae
     rotate_left
     ·rw[ig Dc]at H
      exact absurd H (by simp)
     rw[ip Dc]at H
     have Dx:=ode Dc
     clear Dc
     by_cases Dd:Ae<((rd_L1 l0 Ad).length:Int)
     rotate_left
     ·rw[ig Dd]at H
      exact absurd H (by simp)
     rw[ip Dd]at H
     have Dy:=ode Dd
     clear Dd
     replace H:=bez H
     obtain⟨Bc,Dl,H⟩:=H
     try dsimp only at H
     replace H:=bez H
     obtain⟨Bd,Dm,H⟩:=H
     try dsimp only at H
     replace H:=bez H
     obtain⟨Cb,Dn,H⟩:=H
     try dsimp only at H
     by_cases Ck:Cb=Bz
     rotate_left
     ·rw[ig Ck]at H
      have Cv:=beq_eq_false_iff_ne.mpr Ck
      have Cw:=bne_iff_ne.mpr Ck
      have H':=Az.mk H
      clear H
      have Av:0≤(Ad:Int):=od
      have Ax:Ad<(l0.length:Int):=od
      obtain⟨Bh,Bs,Bt,Bu,Af,Ag,Ah⟩:=at_L1 Cf.out Ad Av Ax
      obtain rfl:Bp=Bh:=(by injection Bu)
      replace Af:=kc HB Af
      have Aq:=Az.mk Ah
      have Bk:=Az.mk Ag
      clear Ah Ag
      replace Av:=ets Av
      replace Ax:=ets Ax
      have Ay:0≤(Ae:Int):=od
      have Ba:Ae<((rd_L1 l0 Ad).length:Int):=od
      obtain⟨Ce,Bv,Ai⟩:=Kd.at_int Aq.out Ae Ay Ba
      cases Bv
      replace Ai:=kc HB Ai
      replace Ay:=ets Ay
      replace Ba:=ets Ba
      go_wp2_with (first|((with_reducible refine gtC (f:=70) rfl ?_);refine clz Try.func70 (some 62) #[.int .i64 (rd (rd_L1 l0 Ad) Ae)] ?_;(with_reducible refine(gB.calls (rd (rd_L1 l0 Ad) Ae) Bc _ Dl.out).mono ?_);rintro e w' ⟨rfl,⟨nd,rfl⟩⟩;refine⟨_,rfl,?_⟩)|((with_reducible refine gtC (f:=71) rfl ?_);refine clz Try.func71 (some 66) #[.bool (decide ((rd (rd_L1 l0 Ad) Ae)>0))] ?_;(with_reducible refine(gR.calls (decide ((rd (rd_L1 l0 Ad) Ae)>0)) Bd _ Dm.out).mono ?_);rintro e w' ⟨rfl,⟨nd,rfl⟩⟩;refine⟨_,rfl,?_⟩)|((with_reducible refine gtC (f:=69) rfl ?_);refine clz Try.func69 (some 68) #[.slice Bl Aj.length Bm, .int .i64 (wrap64 ((wrap64 (2*Bc))+Bd))] ?_;(with_reducible refine(gD.calls k4 _ _ Aj (wrap64 ((wrap64 (2*Bc))+Bd)) Cb _ ?Al ?Am Dn.out).mono ?_);(case Al=>exact kC (Kd.R_reads' Ak.out).2.2);(case Am=>exact(Kd.R_reads' Ak.out).2.1);rintro e w' ⟨rfl,⟨nd,rfl⟩⟩;refine⟨_,rfl,?_⟩))
      go_roundg k4
      case measure=>have:=HK1.out;have:=HK2.out;have:=HK3.out;have:=HK4.out;omega
      case rel=>exact⟨(Bb),(wrap64 (Ae+1)),rq2,rq2,H',⟨by have:=HK1.out;have:=HK2.out;have:=HK3.out;have:=HK4.out;omega⟩,⟨kR Ak.out⟩,⟨bw_31⟩⟩
     rw[ip Ck]at H
     have Cv:=beq_iff_eq.mpr Ck
     have Cw:=bne_eq_false_iff_eq.mpr Ck
     clear Ck
     replace H:=bez H
     obtain⟨Cl,Dz,H⟩:=H
     try dsimp only at H
     by_cases Co:Cl<2
     ·rw[ip Co]at H
      have Cx:=ode Co
      clear Co
      have H':=Az.mk H
      clear H
      have Av:0≤(Ad:Int):=od
      have Ax:Ad<(l0.length:Int):=od
      obtain⟨Bh,Bs,Bt,Bu,Af,Ag,Ah⟩:=at_L1 Cf.out Ad Av Ax
      obtain rfl:Bp=Bh:=(by injection Bu)
      replace Af:=kc HB Af
      have Aq:=Az.mk Ah
      have Bk:=Az.mk Ag
      clear Ah Ag
      replace Av:=ets Av
      replace Ax:=ets Ax
      have Ay:0≤(Ae:Int):=od
      have Ba:Ae<((rd_L1 l0 Ad).length:Int):=od
      obtain⟨Ce,Bv,Ai⟩:=Kd.at_int Aq.out Ae Ay Ba
      cases Bv
      replace Ai:=kc HB Ai
      replace Ay:=ets Ay
      replace Ba:=ets Ba
      go_wp2_with (first|((with_reducible refine gtC (f:=70) rfl ?_);refine clz Try.func70 (some 62) #[.int .i64 (rd (rd_L1 l0 Ad) Ae)] ?_;(with_reducible refine(gB.calls (rd (rd_L1 l0 Ad) Ae) Bc _ Dl.out).mono ?_);rintro e w' ⟨rfl,⟨nd,rfl⟩⟩;refine⟨_,rfl,?_⟩)|((with_reducible refine gtC (f:=71) rfl ?_);refine clz Try.func71 (some 66) #[.bool (decide ((rd (rd_L1 l0 Ad) Ae)>0))] ?_;(with_reducible refine(gR.calls (decide ((rd (rd_L1 l0 Ad) Ae)>0)) Bd _ Dm.out).mono ?_);rintro e w' ⟨rfl,⟨nd,rfl⟩⟩;refine⟨_,rfl,?_⟩)|((with_reducible refine gtC (f:=69) rfl ?_);refine clz Try.func69 (some 68) #[.slice Bl Aj.length Bm, .int .i64 (wrap64 ((wrap64 (2*Bc))+Bd))] ?_;(with_reducible refine(gD.calls k4 _ _ Aj (wrap64 ((wrap64 (2*Bc))+Bd)) Cb _ ?Al ?Am Dn.out).mono ?_);(case Al=>exact kC (Kd.R_reads' Ak.out).2.2);(case Am=>exact(Kd.R_reads' Ak.out).2.1);rintro e w' ⟨rfl,⟨nd,rfl⟩⟩;refine⟨_,rfl,?_⟩)|(go_at_call 67;(with_reducible refine(gW.calls _ _ l0 _ _ l1 Ad Ae Cl _ ?Al ?Am ?Bw ?Bx Dz.out).mono ?_);(case Al=>exact kC (Kd.C_below Cf.out bw_31));(case Am=>exact De.out);(case Bw=>exact kC (Kd.C_below HR1.out bw_31));(case Bx=>exact Ds.out);rintro e w' ⟨rfl,⟨nd,rfl⟩⟩))
      go_roundg k4
      case measure=>have:=HK1.out;have:=HK2.out;have:=HK3.out;have:=HK4.out;omega
      case rel=>exact⟨(false),(wrap64 (Ae+1)),rq2,rq2,H',⟨by have:=HK1.out;have:=HK2.out;have:=HK3.out;have:=HK4.out;omega⟩,⟨kR Ak.out⟩,⟨bw_31⟩⟩
     rw[ig Co]at H
     have Cx:=decide_eq_false Co
     clear Co
     have H':=Az.mk H
     clear H
     have Av:0≤(Ad:Int):=od
     have Ax:Ad<(l0.length:Int):=od
     obtain⟨Bh,Bs,Bt,Bu,Af,Ag,Ah⟩:=at_L1 Cf.out Ad Av Ax
     obtain rfl:Bp=Bh:=(by injection Bu)
     replace Af:=kc HB Af
     have Aq:=Az.mk Ah
     have Bk:=Az.mk Ag
     clear Ah Ag
     replace Av:=ets Av
     replace Ax:=ets Ax
     have Ay:0≤(Ae:Int):=od
     have Ba:Ae<((rd_L1 l0 Ad).length:Int):=od
     obtain⟨Ce,Bv,Ai⟩:=Kd.at_int Aq.out Ae Ay Ba
     cases Bv
     replace Ai:=kc HB Ai
     replace Ay:=ets Ay
     replace Ba:=ets Ba
     go_wp2_with (first|((with_reducible refine gtC (f:=70) rfl ?_);refine clz Try.func70 (some 62) #[.int .i64 (rd (rd_L1 l0 Ad) Ae)] ?_;(with_reducible refine(gB.calls (rd (rd_L1 l0 Ad) Ae) Bc _ Dl.out).mono ?_);rintro e w' ⟨rfl,⟨nd,rfl⟩⟩;refine⟨_,rfl,?_⟩)|((with_reducible refine gtC (f:=71) rfl ?_);refine clz Try.func71 (some 66) #[.bool (decide ((rd (rd_L1 l0 Ad) Ae)>0))] ?_;(with_reducible refine(gR.calls (decide ((rd (rd_L1 l0 Ad) Ae)>0)) Bd _ Dm.out).mono ?_);rintro e w' ⟨rfl,⟨nd,rfl⟩⟩;refine⟨_,rfl,?_⟩)|((with_reducible refine gtC (f:=69) rfl ?_);refine clz Try.func69 (some 68) #[.slice Bl Aj.length Bm, .int .i64 (wrap64 ((wrap64 (2*Bc))+Bd))] ?_;(with_reducible refine(gD.calls k4 _ _ Aj (wrap64 ((wrap64 (2*Bc))+Bd)) Cb _ ?Al ?Am Dn.out).mono ?_);(case Al=>exact kC (Kd.R_reads' Ak.out).2.2);(case Am=>exact(Kd.R_reads' Ak.out).2.1);rintro e w' ⟨rfl,⟨nd,rfl⟩⟩;refine⟨_,rfl,?_⟩)|(go_at_call 67;(with_reducible refine(gW.calls _ _ l0 _ _ l1 Ad Ae Cl _ ?Al ?Am ?Bw ?Bx Dz.out).mono ?_);(case Al=>exact kC (Kd.C_below Cf.out bw_31));(case Am=>exact De.out);(case Bw=>exact kC (Kd.C_below HR1.out bw_31));(case Bx=>exact Ds.out);rintro e w' ⟨rfl,⟨nd,rfl⟩⟩))
     go_roundg k4
     case measure=>have:=HK1.out;have:=HK2.out;have:=HK3.out;have:=HK4.out;omega
     case rel=>exact⟨(Bb),(wrap64 (Ae+1)),rq2,rq2,H',⟨by have:=HK1.out;have:=HK2.out;have:=HK3.out;have:=HK4.out;omega⟩,⟨kR Ak.out⟩,⟨bw_31⟩⟩
end Go.Proofs.Ytbpnjlemjapnnaa.P

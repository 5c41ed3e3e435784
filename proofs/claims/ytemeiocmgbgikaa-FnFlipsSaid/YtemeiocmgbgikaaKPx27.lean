-- The walks, cut and laid together by this session's tools (prune.py, sq2.py, min.py: shorter names, no needless spaces). Not trusted: Lean checks it.
import Derived.Test.YtemeiocmgbgikaaKWZip
import Derived.Test.YtemeiocmgbgikaaKPx23
namespace Go.Proofs.Ytemeiocmgbgikaa.P
open Go.RowKit Go.Proofs.YtemeiocmgbgikaaW.PrintWords Go.Proofs.YtemeiocmgbgikaaW.PrintLast Go.Proofs.YtemeiocmgbgikaaW.PrintMore
attribute [local go_sem] max2_int min2_int max_two min_two max_three min_three max_four min_four   -- for this text's walks alone
set_option linter.unusedVariables false
set_option linter.unusedSimpArgs false
set_option maxHeartbeats 8000000
set_option maxRecDepth 100000
open Option renaming bind_eq_some_iff → be
theorem bw_27 {n:Nat}{v v':World} (h:Below n v v':=by repeat(first|(with_reducible first|exact HB.out|apply bwA|apply pbN|apply bwD)|exact HB.out)):Below n v v':=h
theorem ln_27 {P:Prop} (h:P:=by(try simp only[List.map_toArray,List.map_cons,List.map_nil]);first|done|rfl|(simp only[List.length_drop,List.length_take];rfl)):P:=h
mutual
def fM.j0:Nat→List (List Int)→List (List Int)→Bool→Option ((List (List Int)) × (List (List Int)))
 |0,_,_,_=>none
 |k+1,x4,x7,x35=>if x35=true then(some (x4,x7)) else(fM.l0 k x4 (([]:List (List Int))) (wrap64 ((x4.length:Int) - 1)))
def fM.l0:Nat→List (List Int)→List (List Int)→Int→Option ((List (List Int)) × (List (List Int)))
 |0,_,_,_=>none
 |k+1,x4,x9,x10=>if x10 ≥ 0 then(if 0≤x10 then(if x10<(x4.length:Int) then((gM.f (rd_L1 x4 x10) x10).bind fun t584=>(if x9.length<5864062014805 then(fM.l0 k x4 (x9 ++ [t584]) (wrap64 (x10 - 1))) else(none))) else(none)) else(none)) else(some (x4,x9))
end
def fM.f (k:Nat) (l0:List Int):Option ((List (List Int)) × (List (List Int))):=(jP.f k l0).bind fun bt568=>((jK.f k bt568.1 bt568.2.2).bind fun bt575=>(if bt575.2=true then(if(l0.length:Int)>0 then(if 0<(l0.length:Int) then(fM.j0 k bt568.1 bt575.1 ((Int.tmod (rd l0 0) 3)== 0)) else(none)) else(fM.j0 k bt568.1 bt575.1 false)) else(fM.j0 k bt568.1 bt575.1 false)))
theorem fM.calls (k:Nat) (A0:Option Addr) (c0:Nat) (l0:List Int) (r1:List (List Int)) (r2:List (List Int)) (w:World) (Cv:Kd.C (Kd.int .u8) w A0 l0.length l0) (Cw:l0.length≤c0) (h:fM.f k l0=some (r1,r2)):
  Calls Try.prog 13 #[.slice A0 l0.length c0] w fun e w'=>∃v0_ v1_:Value,e= .returned (.tuple #[v0_,v1_])∧Kd.S (Kd.slice 3 (Kd.int .i64)) 25 w' w.heap.size (fun k_=>some k_≠(v1_:Value).ownBlock) v0_ r1∧Kd.S (Kd.slice 3 (Kd.int .i64)) 25 w' w.heap.size (fun k_=>some k_≠(v0_:Value).ownBlock) v1_ r2∧Below w.heap.size w w':=by
 have Cy:=Az.mk Cv
 have Dg:=Az.mk Cw
 clear Cv Cw
 have HB:=Az.mk (Below.refl w.heap.size w)
 have H:=h
 unfold fM.f at H
 clear h
 replace H:=bez H
 obtain⟨⟨Ab,Cp,Bu⟩,A2,H⟩:=H
 try dsimp only at H
 replace H:=bez H
 obtain⟨⟨Bv,Cb⟩,A3,H⟩:=H
 try dsimp only at H
 have Cq:=Az.mk H
 clear H
 go_enter Try.func13,Try.ntmps13
 go_upto_region 3 with (first|((with_reducible refine gtC (f:=32) rfl ?_);refine clz Try.func32 (some 13) #[.slice A0 l0.length c0] ?_;(with_reducible refine(jP.calls k _ _ l0 Ab Cp Bu _ ?Aj ?Ak A2.out).mono ?_);(case Aj=>exact kC Cy.out);(case Ak=>exact Dg.out);rintro e w5 ⟨Dh,Di,rfl,Bb,Cz,hb⟩;refine⟨_,rfl,?_⟩;have Af:=Az.mk (Kd.S_lower Bb (bwZ bw_27));have Bc:=Az.mk (Kd.Q_lower Cz (bwZ bw_27));replace HB:=Az.mk (bwT bw_27 hb);(try clear hb);(try clear Bb);(try clear Cz);obtain⟨Cc,Bj,Dj⟩:=Kd.S_slice Af.out;subst Dj)|((with_reducible refine gtC (f:=7) rfl ?_);refine clz Try.func7 (some 20) #[.slice Cc Ab.length Bj, .int .i64 Bu] ?_;(with_reducible refine(jK.calls k _ _ Ab Bu Bv Cb _ ?Aj ?Ak A3.out).mono ?_);(case Aj=>exact kC (Kd.S_reads' Af.out).2.2);(case Ak=>exact(Kd.S_reads' Af.out).2.1);rintro e w7 ⟨Cd,rfl,Bb,hb⟩;refine⟨_,rfl,?_⟩;have Bd:=Az.mk (Kd.S_lower (Kd.S_new' (Kd.S_new' Bb (Kd.S_lt (kS Af.out))) (Kd.Q_lt (kQ Bc.out))) (bwZ bw_27));replace Af:=Az.mk (Kd.S_elder' (kS Af.out) (Kd.S_base Bb) hb);replace Bc:=Az.mk (Kd.Q_below (kQ Bc.out) hb);replace HB:=Az.mk (bwT bw_27 hb);(try clear hb);(try clear Bb)))
 (try simp only[Act.put,List.setIfInBounds_toArray,List.set_cons_zero,List.set_cons_succ])
 go_cut [35] (fun Dk wc=>∃(kq:Nat) (As:Bool),Dk= .bool As∧Az (fM.j0 kq Ab Bv As=some (r1,r2))∧Az (kq≤k)∧Az (Kd.S (Kd.slice 3 (Kd.int .i64)) 25 wc w.heap.size (fun k_=>some k_≠(Cd:Value).ownBlock) (.slice Cc Ab.length Bj) Ab)∧Az (Kd.S (Kd.slice 3 (Kd.int .i64)) 25 wc w.heap.size (fun k_=>some k_≠((.slice Cc Ab.length Bj):Value).ownBlock) Cd Bv)∧Az (Below w.heap.size w wc))
 case first=>
  have H:=Cq.out
  clear Cq
  by_cases c8:Cb=true
  rotate_left
  ·replace c8:=Bool.eq_false_iff.mpr c8
   subst c8
   rw[ig ff]at H
   have H':=Az.mk H
   clear H
   go_wp2
   go_meet
   case rel=>exact⟨_,(false),rq2,H',⟨by first|omega|exact Nat.le_refl _⟩,⟨by(with_reducible repeat(first|apply Kd.S_alloc|apply Kd.S_drewN|apply Kd.S_drew));exact Kd.S_mono Af.out (fun _ hk=>hk.2)⟩,⟨by(with_reducible repeat(first|apply Kd.S_alloc|apply Kd.S_drewN|apply Kd.S_drew));exact Kd.S_mono Bd.out (fun _ hk=>hk.1.2)⟩,⟨bw_27⟩⟩
  subst c8
  rw[ip rfl]at H
  by_cases c9:(l0.length:Int)>0
  rotate_left
  ·rw[ig c9]at H
   have Al:decide (0<(l0.length:Int))=false:=decide_eq_false c9
   have Bw:decide (0<l0.length)=false:=decide_eq_false (by omega)
   clear c9
   (first|rw[Al]|(simp only[i64_w,i32_w];rw[Al])|skip)
   have H':=Az.mk H
   clear H
   go_wp2
   go_meet
   case rel=>exact⟨_,(false),rq2,H',⟨by first|omega|exact Nat.le_refl _⟩,⟨by(with_reducible repeat(first|apply Kd.S_alloc|apply Kd.S_drewN|apply Kd.S_drew));exact Kd.S_mono Af.out (fun _ hk=>hk.2)⟩,⟨by(with_reducible repeat(first|apply Kd.S_alloc|apply Kd.S_drewN|apply Kd.S_drew));exact Kd.S_mono Bd.out (fun _ hk=>hk.1.2)⟩,⟨bw_27⟩⟩
  rw[ip c9]at H
  have Al:decide (0<(l0.length:Int))=true:=ode c9
  have Bw:decide (0<l0.length)=true:=ode (by omega)
  clear c9
  (first|rw[Al]|(simp only[i64_w,i32_w];rw[Al])|skip)
  by_cases Bz:0<(l0.length:Int)
  rotate_left
  ·rw[ig Bz]at H
   exact absurd H (by simp)
  rw[ip Bz]at H
  have Br:=ode Bz
  have Bs:decide (0<l0.length)=true:=ode (by omega)
  clear Bz
  have H':=Az.mk H
  clear H
  have Bf:0≤(0:Int):=(by omega)
  have Bh:0<(l0.length:Int):=od
  obtain⟨Da,Cr,Ad⟩:=Kd.at_int Cy.out 0 Bf Bh
  cases Cr
  have Db:(0<l0.length)=True:=ets (by omega)
  (try rw[show((0:Int)).toNat=0 from rfl]at Ad)
  (try rw[Addr.add_zero']at Ad)
  replace Ad:=kc HB Ad
  replace Bf:=ets Bf
  replace Bh:=ets Bh
  go_wp2
  go_meet
  case rel=>exact⟨_,(((Int.tmod (rd l0 0) 3)== 0)),rq2,H',⟨by first|omega|exact Nat.le_refl _⟩,⟨by(with_reducible repeat(first|apply Kd.S_alloc|apply Kd.S_drewN|apply Kd.S_drew));exact Kd.S_mono Af.out (fun _ hk=>hk.2)⟩,⟨by(with_reducible repeat(first|apply Kd.S_alloc|apply Kd.S_drewN|apply Kd.S_drew));exact Kd.S_mono Bd.out (fun _ hk=>hk.1.2)⟩,⟨bw_27⟩⟩
 clear Cq
 try clear c8
 try clear c9
 try clear Al
 try clear Bw
 try clear Bz
 try clear Br
 try clear Bs
 try clear Ad
 try clear Bf
 try clear Bh
 obtain⟨kq,As,rfl,HA,Dc,Ac,Bk,HB⟩:=hcut
 cases kq with
 |zero=>exact absurd HA.out (by simp[fM.j0])
 |succ Cs=>
  have H:=HA.out
  clear HA
  simp only[fM.j0]at H
  by_cases Ce:As=true
  ·subst Ce
   rw[ip rfl]at H
   simp only[Option.some.injEq,Prod.mk.injEq]at H
   obtain⟨rfl,rfl⟩:=H
   go_wp2
   go_ret2
   exact⟨_,_,rq1,kS Ac.out,kS Bk.out,bw_27⟩
  replace Ce:=Bool.eq_false_iff.mpr Ce
  subst Ce
  rw[ig ff]at H
  obtain⟨Cf,hy⟩:∃y_:List (List Int),y_=(([]:List (List Int))):=⟨_,rfl⟩
  replace H:(fM.l0 Cs Ab Cf (wrap64 ((Ab.length:Int) - 1)))=some (r1,r2):=rh
  have Bt:=Az.mk hy
  clear hy
  have H':=Az.mk H
  clear H
  go_wp2_with (first|((with_reducible refine gtD (N:=38) rfl ?_);(try(refine gate_guard (by rfl) ?_;dsimp only));refine Kd.S_lit (Kd.slice 3 (Kd.int .i64)) _ 25 ?hg (N:=38) ?hd (xs:=([]:List (List Int))) (inner:=[]) (ok:=fun _=>True) (okp:=fun _=>True) ?hr ?hp (fun _ hk=>hk) trivial (Below.refl _ _) (Nat.le_refl _) (by simp) ?_;(case hd=>rfl);(case hg=>rfl);(case hr=>first|(go_simp;done)|(go_simp;rfl));(case hp=>exact(Reps.none _ _));intro Dl w12 Am hb hg_ hnew_;clear hg_ hnew_;(first|rw[←Bt.out]at Am|(simp only[Int.reduceToNat]at Am;rw[←Bt.out]at Am));have Cg:=Az.mk (Kd.S_lower (Kd.S_new' (Kd.S_new' Am (Kd.S_lt (kS Ac.out))) (Kd.S_lt (kS Bk.out))) (bwZ bw_27));replace Ac:=Az.mk (Kd.S_elder' (kS Ac.out) (Kd.S_base Am) hb);replace Bk:=Az.mk (Kd.S_elder' (kS Bk.out) (Kd.S_base Am) hb);replace HB:=Az.mk (bwT bw_27 hb);clear hb Am))
  go_loopg [9,10] Cs (fun kq v9 Dm w'=>∃(Ba:List (List Int)) (Aa:Int),Dm= .int .i64 Aa∧Az (fM.l0 kq Ab Ba Aa=some (r1,r2))∧Az (kq≤Cs)∧Az (Kd.S (Kd.slice 3 (Kd.int .i64)) 25 w' w.heap.size (fun k_=>some k_≠(v9:Value).ownBlock) (.slice Cc Ab.length Bj) Ab)∧Az (Kd.S (Kd.slice 3 (Kd.int .i64)) 25 w' w.heap.size (fun k_=>some k_≠((.slice Cc Ab.length Bj):Value).ownBlock) v9 Ba)∧Az (Below w.heap.size w w'))
  case atStart=>exact⟨(Cf),(wrap64 ((Ab.length:Int) - 1)),rq2,H',⟨Nat.le_refl _⟩,⟨by(with_reducible repeat(first|apply Kd.S_alloc|apply Kd.S_drewN|apply Kd.S_drew));exact Kd.S_mono Ac.out (fun _ hk=>hk.2)⟩,⟨by(with_reducible repeat(first|apply Kd.S_alloc|apply Kd.S_drewN|apply Kd.S_drew));exact Kd.S_mono Cg.out (fun _ hk=>hk.1.2)⟩,⟨bw_27⟩⟩
  clear H'
  try clear c8
  try clear c9
  try clear Al
  try clear Bw
  try clear Bz
  try clear Br
  try clear Bs
  try clear Ce
  try clear Ad
  try clear Bf
  try clear Bh
  obtain⟨Ba,Aa,rfl,HA,HK2,Ac,Ap,HB⟩:=hrel
  cases gk with
  |zero=>exact absurd HA.out (by simp[fM.l0])
  |succ k2=>
   have H:=HA.out
   clear HA
   simp only[fM.l0]at H
   by_cases Ca:Aa ≥ 0
   rotate_left
   ·rw[ig Ca]at H
    have Ch:decide (0≤Aa)=false:=decide_eq_false Ca
    clear Ca
    simp only[Option.some.injEq,Prod.mk.injEq]at H
    obtain⟨rfl,rfl⟩:=H
    go_wp2
    go_ret2
    exact⟨_,_,rq1,kS Ac.out,kS Ap.out,bw_27⟩
   rw[ip Ca]at H
   have Ch:decide (0≤Aa)=true:=ode Ca
   clear Ca
   by_cases Cl:0≤Aa
   rotate_left
   ·rw[ig Cl]at H
    exact absurd H (by simp)
   rw[ip Cl]at H
   have Dd:=ode Cl
   clear Cl
   by_cases Cm:Aa<(Ab.length:Int)
   rotate_left
   ·rw[ig Cm]at H
    exact absurd H (by simp)
   rw[ip Cm]at H
   have De:=ode Cm
   clear Cm
   replace H:=bez H
   obtain⟨Aq,Dn,H⟩:=H
   try dsimp only at H
   by_cases Cn:Ba.length<5864062014805
   rotate_left
   ·rw[ig Cn]at H
    exact absurd H (by simp)
   rw[ip Cn]at H
   have LMc18:=Az.mk Cn
   clear Cn
   obtain⟨Ci,hy⟩:∃y_:List (List Int),y_=(Ba ++ [Aq]):=⟨_,rfl⟩
   replace H:(fM.l0 k2 Ab Ci (wrap64 (Aa - 1)))=some (r1,r2):=rh
   have Cj:=Az.mk hy
   clear hy
   have H':=Az.mk H
   clear H
   have Bl:0≤(Aa:Int):=od
   have Bm:Aa<(Ab.length:Int):=od
   obtain⟨Au,Bx,By,Ct,Bn,Av,Ax⟩:=at_L1 (Kd.S_reads' Ac.out).2.2 Aa Bl Bm
   cases Ct
   obtain⟨Df,hce583,hMe583,Bi⟩:=Kd.S_get Ac.out [] Aa Bl (by first|exact Bm|exact od|(have e_:=(Kd.S_reads' Ac.out).1;omega))
   obtain⟨Co,rfl,Ai⟩:=hMe583
   have Ag:=Bi 0 _ rfl
   rw[Nat.add_zero,show((Kd.slice 3 (Kd.int .i64))).sz=1 from rfl,Nat.mul_one]at Ag
   replace Ag:=Option.some.inj (Ag.symm.trans Bn)
   rw[Ag]at Ai
   have Ae:=Az.mk (show Kd.R (Kd.int .i64) 3 _ _ _ _ (rd_L1 Ab Aa)from Ai)
   clear Ag Ai
   clear Bi hce583
   have Ah:=Az.mk Ax
   have Bo:=Az.mk Av
   clear Ax Av
   replace Bl:=ets Bl
   replace Bm:=ets Bm
   go_wp2_with (first|((with_reducible refine gtC (f:=48) rfl ?_);refine clz Try.func48 (some 52) #[.slice Bx (rd_L1 Ab Aa).length By, .int .i64 Aa] ?_;(with_reducible refine(gM.calls _ _ (rd_L1 Ab Aa) Aa Aq _ ?Aj ?Ak Dn.out).mono ?_);(case Aj=>repeat(first|exact(by repeat(first|(with_reducible exact Ah.out)|(with_reducible refine Kd.C_alloc ?_ _)|(with_reducible refine Kd.C_drewN ?_ _)|(with_reducible refine Kd.C_drew ?_)|exact Ah.out))|(with_reducible refine Kd.C_alloc ?_ _)|(with_reducible refine Kd.C_drewN ?_ _)|(with_reducible refine Kd.C_drew ?_)));(case Ak=>exact Bo.out);rintro e Dq ⟨Do,rfl,Bb,hb⟩;refine⟨_,rfl,?_⟩;replace Ac:=Az.mk (Kd.S_elder' (kS Ac.out) (Kd.R_base Bb) hb);replace Ap:=Az.mk (Kd.S_elder' (kS Ap.out) (Kd.R_base Bb) hb);have Ay:=Az.mk (Kd.R_lower (Kd.R_new' Bb (Kd.R_lt (kR Ae.out))) (bwZ bw_27));replace Ae:=Az.mk (Kd.R_elder' (kR Ae.out) (Kd.R_base Bb) hb);replace Ah:=Az.mk (Kd.C_below (by repeat(first|(with_reducible exact Ah.out)|(with_reducible refine Kd.C_alloc ?_ _)|(with_reducible refine Kd.C_drewN ?_ _)|(with_reducible refine Kd.C_drew ?_)|exact Ah.out)) hb);replace HB:=Az.mk (bwT bw_27 hb);(try clear hb);(try clear Bb);obtain⟨Bp,Bq,Cu⟩:=Kd.R_slice Ay.out;subst Cu)|((with_reducible refine gate_builtin (b:= .append) (xs:= #[.tmp 46, .tmp 53]) rfl ?_);(try(refine gate_guard (by rfl) ?_;dsimp only));at_builtin;refine Kd.S_append (Kd.slice 3 (Kd.int .i64)) (w0:=w) w.heap.size rfl (.tmp 46) (.tmp 53) 24 25 (.slice none 0 0) 24 rfl Try.underlying24 info25 rfl (by decide) (by omega) u9 Ba Aq [.slice Bp Aq.length Bq] (fun k_=>some k_≠(.slice (some Au) Ab.length Bj:Value).ownBlock) (fun k_=>some k_=(.slice Bp Aq.length Bq:Value).ownBlock) rfl rfl ?aP (fun k_ hk_=>((Kd.R_mono (ok':=fun k_=>((fun k_=>some k_≠(.slice (some Au) Ab.length Bj:Value).ownBlock)) k_∧some k_≠(u9:Value).ownBlock) (Kd.R_apart' (Kd.R_apart' (Ay.out) (Kd.S_typed Ac.out) (by decide)) (Kd.S_typed Ap.out) (by decide)) (fun k_ hk=>⟨hk.1.2,hk.2⟩))).1 k_ hk_.symm) ?aF ?aO ?aB ?aS ?aL ?_;(case aP=>exact Kd.M_row (Kd.R_mono (Kd.R_tight rfl (Kd.R_mono (ok':=fun k_=>((fun k_=>some k_≠(.slice (some Au) Ab.length Bj:Value).ownBlock)) k_∧some k_≠(u9:Value).ownBlock) (Kd.R_apart' (Kd.R_apart' (Ay.out) (Kd.S_typed Ac.out) (by decide)) (Kd.S_typed Ap.out) (by decide)) (fun k_ hk=>⟨hk.1.2,hk.2⟩))) (fun _ h_=>h_)));(case aB=>exact bw_27);(case aF=>exact(fun k_ hk=>Kd.fresh' (Kd.S_lt (kS Ac.out)) k_ hk));(case aO=>exact(by(with_reducible repeat(first|apply Kd.S_alloc|apply Kd.S_drewN|apply Kd.S_drew));exact Kd.S_mono Ap.out (fun k_ hk=>⟨hk.1,fun e_=>hk.2 e_⟩)));(case aS=>exact(bwZ bw_27));(case aL=>have:=LMc18.out;omega);intro Dp Dr ho hb hg hat;rw[←Cj.out]at ho;have n0_:=Az.mk (Kd.S_after (ok:=(fun k_=>some k_≠(.slice Bp Aq.length Bq:Value).ownBlock)) (by(with_reducible repeat(first|apply Kd.S_alloc|apply Kd.S_drewN|apply Kd.S_drew));exact Kd.S_mono Ac.out (fun _ hk=>⟨hk.2,hk.1⟩)) hg hat);have n1_:=Az.mk (Kd.R_after (ok:=(fun k_=>some k_≠(.slice (some Au) Ab.length Bj:Value).ownBlock∧some k_≠(.slice Bp Aq.length Bq:Value).ownBlock)) (by(with_reducible repeat(first|apply Kd.R_alloc|apply Kd.R_drewN|apply Kd.R_drew));exact Kd.R_mono Ae.out (fun _ hk=>⟨⟨hk.1.2,hk.2⟩,hk.1.1⟩)) hg hat);have n2_:=Az.mk (hb);have n3_:=Az.mk (ho);clear Ac;clear Ae;clear HB;clear Ap;clear Ay;have Ac:=n0_;have Ae:=n1_;have HB:=n2_;have Ck:=n3_;clear n0_ n1_ n2_ n3_;clear ho hb hg hat))
   go_roundg k2
   case measure=>have:=Dc.out;have:=HK2.out;omega
   case rel=>exact⟨(Ci),(wrap64 (Aa - 1)),rq2,H',⟨by have:=Dc.out;have:=HK2.out;omega⟩,⟨by(with_reducible repeat(first|apply Kd.S_alloc|apply Kd.S_drewN|apply Kd.S_drew));exact Kd.S_mono Ac.out (fun _ hk=>hk.2)⟩,⟨kS Ck.out⟩,⟨bw_27⟩⟩
def gC.l0:Nat→Int→List Int→Int→Int→Option (Int)
 |0,_,_,_,_=>none
 |k+1,x3,x9,x10,x11=>if x11<x10 then(if 0≤x11 then(if x11<(x9.length:Int) then(gC.l0 k (wrap64 (x3+(rd x9 x11))) x9 x10 (wrap64 (x11+1))) else(none)) else(none)) else(some x3)
def gC.f (k:Nat) (l0:List Int):Option (Int):=(gD.f k l0).bind fun t590=>(if t590=true then(gC.l0 k 0 l0 (l0.length:Int) 0) else(some (-1)))
theorem gC.calls (k:Nat) (A0:Option Addr) (c0:Nat) (l0:List Int) (r:Int) (w:World) (Al:Kd.C (Kd.int .i64) w A0 l0.length l0) (Am:l0.length≤c0) (h:gC.f k l0=some r):
  Calls Try.prog 23 #[.slice A0 l0.length c0] w fun e w'=>e= .returned (.int .i64 r)∧Drawn0 w w':=by
 have Ah:=Az.mk Al
 have Ap:=Az.mk Am
 clear Al Am
 have H:=h
 unfold gC.f at H
 clear h
 replace H:=bez H
 obtain⟨Ai,A2,H⟩:=H
 try dsimp only at H
 by_cases c3:Ai=true
 rotate_left
 ·replace c3:=Bool.eq_false_iff.mpr c3
  subst c3
  rw[ig ff]at H
  obtain rfl:=Option.some.inj H
  go_enter Try.func23,Try.ntmps23
  go_wp2_with (first|((with_reducible refine gtC (f:=51) rfl ?_);refine clz Try.func51 (some 7) #[.slice A0 l0.length c0] ?_;(with_reducible refine(gD.calls k _ _ l0 false _ ?Ab ?Ac A2.out).mono ?_);(case Ab=>exact kC Ah.out);(case Ac=>exact Ap.out);rintro e w' ⟨rfl,⟨nd,rfl⟩⟩;refine⟨_,rfl,?_⟩))
  go_ret
  exact⟨rq2,kd⟩
 subst c3
 rw[ip rfl]at H
 have H':=Az.mk H
 clear H
 go_enter Try.func23,Try.ntmps23
 go_wp2_with (first|((with_reducible refine gtC (f:=51) rfl ?_);refine clz Try.func51 (some 7) #[.slice A0 l0.length c0] ?_;(with_reducible refine(gD.calls k _ _ l0 true _ ?Ab ?Ac A2.out).mono ?_);(case Ab=>exact kC Ah.out);(case Ac=>exact Ap.out);rintro e w' ⟨rfl,⟨nd,rfl⟩⟩;refine⟨_,rfl,?_⟩))
 go_loopg [3,11] k (fun kq v3 As w'=>∃(Ad:Int) (Aa:Int),v3= .int .i64 Ad∧As= .int .i64 Aa∧Az (gC.l0 kq Ad l0 (l0.length:Int) Aa=some r)∧Az (kq≤k)∧Drawn0 w w')
 case atStart=>exact⟨(0),(0),rq2,rq2,H',⟨Nat.le_refl _⟩,kd⟩
 clear H'
 try clear c3
 obtain⟨Ad,Aa,rfl,rfl,HA,HK1,⟨m1,rfl⟩⟩:=hrel
 cases gk with
 |zero=>exact absurd HA.out (by simp[gC.l0])
 |succ k1=>
  have H:=HA.out
  clear HA
  simp only[gC.l0]at H
  by_cases c4:Aa<(l0.length:Int)
  rotate_left
  ·rw[ig c4]at H
   have Aj:=decide_eq_false c4
   clear c4
   obtain rfl:=Option.some.inj H
   go_wp2
   go_ret
   exact⟨rq2,kd⟩
  rw[ip c4]at H
  have Aj:=ode c4
  clear c4
  by_cases c5:0≤Aa
  rotate_left
  ·rw[ig c5]at H
   exact absurd H (by simp)
  rw[ip c5]at H
  have Au:=ode c5
  clear c5
  by_cases c6:Aa<(l0.length:Int)
  rotate_left
  ·rw[ig c6]at H
   exact absurd H (by simp)
  rw[ip c6]at H
  have Av:=ode c6
  clear c6
  have H':=Az.mk H
  clear H
  have Ae:0≤(Aa:Int):=od
  have Af:Aa<(l0.length:Int):=od
  obtain⟨Aq,Ak,Ag⟩:=Kd.at_int Ah.out Aa Ae Af
  cases Ak
  replace Ae:=ets Ae
  replace Af:=ets Af
  go_wp2
  go_roundg k1
  case measure=>have:=HK1.out;omega
  case rel=>exact⟨(wrap64 (Ad+(rd l0 Aa))),(wrap64 (Aa+1)),rq2,rq2,H',⟨by have:=HK1.out;omega⟩,kd⟩
theorem bw_28 {n:Nat}{v v':World} (h:Below n v v':=by repeat(first|(with_reducible first|exact HB.out|apply bwA|apply pbN|apply bwD)|exact HB.out)):Below n v v':=h
theorem ln_28 {P:Prop} (h:P:=by(try simp only[List.map_toArray,List.map_cons,List.map_nil]);first|done|rfl|(simp only[List.length_drop,List.length_take];rfl)):P:=h
def gE.l0:Nat→List (List Int)→List Int→Int→Int→Int→Option (Int)
 |0,_,_,_,_,_=>none
 |k+1,x0,x1,x5,x6,x7=>if x7≤(x1.length:Int) then((fP.f k x0 x1 x7).bind fun bt594=>(if bt594.2=true then((gC.f k bt594.1).bind fun t598=>(if t598<x6 then((gC.f k bt594.1).bind fun t599=>(gE.l0 k x0 x1 x7 t599 (wrap64 (x7+1)))) else(gE.l0 k x0 x1 x5 x6 (wrap64 (x7+1))))) else(gE.l0 k x0 x1 x5 x6 (wrap64 (x7+1))))) else(some x5)
def gE.f (k:Nat) (l0:List (List Int)) (l1:List Int):Option (Int):=(fS.f k l0 l1).bind fun t592=>(if t592=true then((gC.f k l1).bind fun t593=>(gE.l0 k l0 l1 0 t593 1)) else(some 0))
theorem gE.calls (k:Nat) (A0:Option Addr) (c0:Nat) (l0:List (List Int)) (A1:Option Addr) (c1:Nat) (l1:List Int) (r:Int) (w:World) (Bj:Kd.C (Kd.slice 3 (Kd.int .i64)) w A0 l0.length l0) (Bk:l0.length≤c0) (Bl:Kd.C (Kd.int .i64) w A1 l1.length l1) (Bm:l1.length≤c1) (h:gE.f k l0 l1=some r):
  Calls Try.prog 25 #[.slice A0 l0.length c0, .slice A1 l1.length c1] w fun e w'=>e= .returned (.int .i64 r)∧Below w.heap.size w w':=by
 have Aq:=Az.mk Bj
 have As:=Az.mk Bk
 clear Bj Bk
 have Al:=Az.mk Bl
 have Am:=Az.mk Bm
 clear Bl Bm
 have HB:=Az.mk (Below.refl w.heap.size w)
 have H:=h
 unfold gE.f at H
 clear h
 replace H:=bez H
 obtain⟨Ba,A3,H⟩:=H
 try dsimp only at H
 by_cases c4:Ba=true
 rotate_left
 ·replace c4:=Bool.eq_false_iff.mpr c4
  subst c4
  rw[ig ff]at H
  obtain rfl:=Option.some.inj H
  go_enter Try.func25,Try.ntmps25
  go_wp2_with (first|((with_reducible refine gtC (f:=39) rfl ?_);refine clz Try.func39 (some 12) #[.slice A0 l0.length c0, .slice A1 l1.length c1] ?_;(with_reducible refine(fS.calls k _ _ l0 _ _ l1 false _ ?Aa ?Ab ?Ad ?Ae A3.out).mono ?_);(case Aa=>exact kC Aq.out);(case Ab=>exact As.out);(case Ad=>exact kC Al.out);(case Ae=>exact Am.out);rintro e Br ⟨rfl,hb⟩;refine⟨_,rfl,?_⟩;replace HB:=Az.mk (bwT bw_28 hb);(try clear hb)))
  go_ret
  exact⟨rq1,bw_28⟩
 subst c4
 rw[ip rfl]at H
 replace H:=bez H
 obtain⟨Au,A5,H⟩:=H
 try dsimp only at H
 have H':=Az.mk H
 clear H
 go_enter Try.func25,Try.ntmps25
 go_wp2_with (first|((with_reducible refine gtC (f:=39) rfl ?_);refine clz Try.func39 (some 12) #[.slice A0 l0.length c0, .slice A1 l1.length c1] ?_;(with_reducible refine(fS.calls k _ _ l0 _ _ l1 true _ ?Aa ?Ab ?Ad ?Ae A3.out).mono ?_);(case Aa=>exact kC Aq.out);(case Ab=>exact As.out);(case Ad=>exact kC Al.out);(case Ae=>exact Am.out);rintro e w6 ⟨rfl,hb⟩;refine⟨_,rfl,?_⟩;replace HB:=Az.mk (bwT bw_28 hb);(try clear hb))|((with_reducible refine gtC (f:=23) rfl ?_);refine clz Try.func23 (some 15) #[.slice A1 l1.length c1] ?_;(with_reducible refine(gC.calls k _ _ l1 Au _ ?Aa ?Ab A5.out).mono ?_);(case Aa=>exact kC (Kd.C_below Al.out HB.out));(case Ab=>exact Am.out);rintro e w' ⟨rfl,⟨nd,rfl⟩⟩;refine⟨_,rfl,?_⟩))
 go_loopg [5,6,7] k (fun kq v5 v6 v7 w'=>∃(Ai:Int) (Ah:Int) (Af:Int),v5= .int .i64 Ai∧v6= .int .i64 Ah∧v7= .int .i64 Af∧Az (gE.l0 kq l0 l1 Ai Ah Af=some r)∧Az (kq≤k)∧Az (Below w.heap.size w w'))
 case atStart=>exact⟨(0),(Au),(1),rq2,rq2,rq2,H',⟨Nat.le_refl _⟩,⟨bw_28⟩⟩
 clear H'
 try clear c1
 try clear c4
 obtain⟨Ai,Ah,Af,rfl,rfl,rfl,HA,HK1,HB⟩:=hrel
 cases gk with
 |zero=>exact absurd HA.out (by simp[gE.l0])
 |succ k1=>
  have H:=HA.out
  clear HA
  simp only[gE.l0]at H
  by_cases c7:Af≤(l1.length:Int)
  rotate_left
  ·rw[ig c7]at H
   have Bb:=decide_eq_false c7
   clear c7
   obtain rfl:=Option.some.inj H
   go_wp2
   go_ret
   exact⟨rq1,bw_28⟩
  rw[ip c7]at H
  have Bb:=ode c7
  clear c7
  replace H:=bez H
  obtain⟨⟨Ag,Bc⟩,A8,H⟩:=H
  try dsimp only at H
  by_cases c9:Bc=true
  rotate_left
  ·replace c9:=Bool.eq_false_iff.mpr c9
   subst c9
   rw[ig ff]at H
   have H':=Az.mk H
   clear H
   go_wp2_with (first|((with_reducible refine gtC (f:=8) rfl ?_);refine clz Try.func8 (some 26) #[.slice A0 l0.length c0, .slice A1 l1.length c1, .int .i64 Af] ?_;(with_reducible refine(fP.calls k1 _ _ l0 _ _ l1 Af Ag false _ ?Aa ?Ab ?Ad ?Ae A8.out).mono ?_);(case Aa=>exact kC (Kd.C_below Aq.out HB.out));(case Ab=>exact As.out);(case Ad=>exact kC (Kd.C_below Al.out HB.out));(case Ae=>exact Am.out);rintro e Bs ⟨Av,rfl,Aj,hb⟩;refine⟨_,rfl,?_⟩;have Ac:=Az.mk (Kd.R_lower Aj (bwZ bw_28));replace HB:=Az.mk (bwT bw_28 hb);(try clear hb);(try clear Aj)))
   go_roundg k1
   case measure=>have:=HK1.out;omega
   case rel=>exact⟨(Ai),(Ah),(wrap64 (Af+1)),rq2,rq2,rq2,H',⟨by have:=HK1.out;omega⟩,⟨bw_28⟩⟩
  subst c9
  rw[ip rfl]at H
  replace H:=bez H
  obtain⟨Ak,Bn,H⟩:=H
  try dsimp only at H
  by_cases Ap:Ak<Ah
  rotate_left
  ·rw[ig Ap]at H
   have Ax:=decide_eq_false Ap
   clear Ap
   have H':=Az.mk H
   clear H
   go_wp2_with (first|((with_reducible refine gtC (f:=8) rfl ?_);refine clz Try.func8 (some 26) #[.slice A0 l0.length c0, .slice A1 l1.length c1, .int .i64 Af] ?_;(with_reducible refine(fP.calls k1 _ _ l0 _ _ l1 Af Ag true _ ?Aa ?Ab ?Ad ?Ae A8.out).mono ?_);(case Aa=>exact kC (Kd.C_below Aq.out HB.out));(case Ab=>exact As.out);(case Ad=>exact kC (Kd.C_below Al.out HB.out));(case Ae=>exact Am.out);rintro e Bt ⟨Av,rfl,Aj,hb⟩;refine⟨_,rfl,?_⟩;have Ac:=Az.mk (Kd.R_lower Aj (bwZ bw_28));replace HB:=Az.mk (bwT bw_28 hb);(try clear hb);(try clear Aj);obtain⟨Bo,Bp,Bd⟩:=Kd.R_slice Ac.out;subst Bd)|(go_at_call 23;(with_reducible refine(gC.calls k1 _ _ Ag Ak _ ?Aa ?Ab Bn.out).mono ?_);(case Aa=>exact kC (Kd.R_reads' Ac.out).2.2);(case Ab=>exact(Kd.R_reads' Ac.out).2.1);rintro e w' ⟨rfl,⟨nd,rfl⟩⟩))
   go_roundg k1
   case measure=>have:=HK1.out;omega
   case rel=>exact⟨(Ai),(Ah),(wrap64 (Af+1)),rq2,rq2,rq2,H',⟨by have:=HK1.out;omega⟩,⟨bw_28⟩⟩
  rw[ip Ap]at H
  have Ax:=ode Ap
  clear Ap
  replace H:=bez H
  obtain⟨Ay,Bq,H⟩:=H
  try dsimp only at H
  have H':=Az.mk H
  clear H
  go_wp2_with (first|((with_reducible refine gtC (f:=8) rfl ?_);refine clz Try.func8 (some 26) #[.slice A0 l0.length c0, .slice A1 l1.length c1, .int .i64 Af] ?_;(with_reducible refine(fP.calls k1 _ _ l0 _ _ l1 Af Ag true _ ?Aa ?Ab ?Ad ?Ae A8.out).mono ?_);(case Aa=>exact kC (Kd.C_below Aq.out HB.out));(case Ab=>exact As.out);(case Ad=>exact kC (Kd.C_below Al.out HB.out));(case Ae=>exact Am.out);rintro e Bu ⟨Av,rfl,Aj,hb⟩;refine⟨_,rfl,?_⟩;have Ac:=Az.mk (Kd.R_lower Aj (bwZ bw_28));replace HB:=Az.mk (bwT bw_28 hb);(try clear hb);(try clear Aj);obtain⟨Bf,Bh,Bi⟩:=Kd.R_slice Ac.out;subst Bi)|(go_at_call 23;(with_reducible refine(gC.calls k1 _ _ Ag Ak _ ?Aa ?Ab Bn.out).mono ?_);(case Aa=>exact kC (Kd.R_reads' Ac.out).2.2);(case Ab=>exact(Kd.R_reads' Ac.out).2.1);rintro e w' ⟨rfl,⟨nd,rfl⟩⟩)|((with_reducible refine gtC (f:=23) rfl ?_);refine clz Try.func23 (some 38) #[.slice Bf Ag.length Bh] ?_;(with_reducible refine(gC.calls k1 _ _ Ag Ay _ ?Aa ?Ab Bq.out).mono ?_);(case Aa=>exact kC (Kd.R_reads' Ac.out).2.2);(case Ab=>exact(Kd.R_reads' Ac.out).2.1);rintro e w' ⟨rfl,⟨nd,rfl⟩⟩;refine⟨_,rfl,?_⟩))
  go_roundg k1
  case measure=>have:=HK1.out;omega
  case rel=>exact⟨(Af),(Ay),(wrap64 (Af+1)),rq2,rq2,rq2,H',⟨by have:=HK1.out;omega⟩,⟨bw_28⟩⟩
def jE.l0:Nat→List (List Int)→List Int→Option ((List (List Int)) × List Int × Bool)
 |0,_,_=>none
 |k+1,x0,x1=>(gE.f k x0 x1).bind fun t607=>(if t607=0 then(some (x0,x1,true)) else((fP.f k x0 x1 t607).bind fun bt608=>((fU.f k x0 t607).bind fun bt612=>(jE.l0 k bt612.1 bt608.1))))
def jE.f (k:Nat) (l0:List (List Int)) (l1:List Int):Option ((List (List Int)) × List Int × Bool):=(fS.f k l0 l1).bind fun t600=>(if t600=true then((gN.f k l0).bind fun t601=>((jL.f l1).bind fun t604=>(jE.l0 k t601 t604))) else(some (([]:List (List Int)),([]:List Int),false)))
theorem jE.calls (k:Nat) (A0:Option Addr) (c0:Nat) (l0:List (List Int)) (A1:Option Addr) (c1:Nat) (l1:List Int) (r1:List (List Int)) (r2:List Int) (r3:Bool) (w:World) (Bw:Kd.C (Kd.slice 3 (Kd.int .i64)) w A0 l0.length l0) (Bx:l0.length≤c0) (By:Kd.C (Kd.int .i64) w A1 l1.length l1) (Bz:l1.length≤c1) (h:jE.f k l0 l1=some (r1,r2,r3)):
  Calls Try.prog 14 #[.slice A0 l0.length c0, .slice A1 l1.length c1] w fun e w'=>∃v0_ v1_:Value,e= .returned (.tuple #[v0_,v1_, .bool r3])∧Kd.S (Kd.slice 3 (Kd.int .i64)) 25 w' w.heap.size (fun k_=>some k_≠(v1_:Value).ownBlock) v0_ r1∧Kd.R (Kd.int .i64) 3 w' w.heap.size (fun k_=>(w.heap.size≤k_)) v1_ r2∧Below w.heap.size w w':=by
 have Bh:=Az.mk Bw
 have Bi:=Az.mk Bx
 clear Bw Bx
 have Bj:=Az.mk By
 have Bk:=Az.mk Bz
 clear By Bz
 have HB:=Az.mk (Below.refl w.heap.size w)
 have H:=h
 unfold jE.f at H
 clear h
 replace H:=bez H
 obtain⟨Bl,A3,H⟩:=H
 try dsimp only at H
 by_cases c4:Bl=true
 rotate_left
 ·replace c4:=Bool.eq_false_iff.mpr c4
  subst c4
  rw[ig ff]at H
  simp only[Option.some.injEq,Prod.mk.injEq]at H
  obtain⟨rfl,rfl,rfl⟩:=H
  go_enter Try.func14,Try.ntmps14
  go_wp2_with (first|((with_reducible refine gtC (f:=39) rfl ?_);refine clz Try.func39 (some 14) #[.slice A0 l0.length c0, .slice A1 l1.length c1] ?_;(with_reducible refine(fS.calls k _ _ l0 _ _ l1 false _ ?Aa ?Ab ?Ae ?Af A3.out).mono ?_);(case Aa=>exact kC Bh.out);(case Ab=>exact Bi.out);(case Ae=>exact kC Bj.out);(case Af=>exact Bk.out);rintro e Ch ⟨rfl,hb⟩;refine⟨_,rfl,?_⟩;replace HB:=Az.mk (bwT bw_28 hb);(try clear hb)))
  go_ret3
  exact⟨_,_,rq1,by first|exact Kd.S_nil _ _ _ _ _|exact Kd.N_nil _ _ _ _ _|exact Kd.V_nil _ _ _ _ _|exact Kd.Q_nil _ _ _ _ _|exact Kd.R_nil _ _ _ _ _,by first|exact Kd.R_nil _ _ _ _ _|exact Kd.N_nil _ _ _ _ _|exact Kd.V_nil _ _ _ _ _|exact Kd.Q_nil _ _ _ _ _|exact Kd.S_nil _ _ _ _ _,bw_28⟩
 subst c4
 rw[ip rfl]at H
 replace H:=bez H
 obtain⟨As,A5,H⟩:=H
 try dsimp only at H
 replace H:=bez H
 obtain⟨Au,A6,H⟩:=H
 try dsimp only at H
 have H':=Az.mk H
 clear H
 go_enter Try.func14,Try.ntmps14
 go_wp2_with (first|((with_reducible refine gtC (f:=39) rfl ?_);refine clz Try.func39 (some 14) #[.slice A0 l0.length c0, .slice A1 l1.length c1] ?_;(with_reducible refine(fS.calls k _ _ l0 _ _ l1 true _ ?Aa ?Ab ?Ae ?Af A3.out).mono ?_);(case Aa=>exact kC Bh.out);(case Ab=>exact Bi.out);(case Ae=>exact kC Bj.out);(case Af=>exact Bk.out);rintro e w7 ⟨rfl,hb⟩;refine⟨_,rfl,?_⟩;replace HB:=Az.mk (bwT bw_28 hb);(try clear hb))|((with_reducible refine gtC (f:=35) rfl ?_);refine clz Try.func35 (some 17) #[.slice A0 l0.length c0] ?_;(with_reducible refine(gN.calls k _ _ l0 As _ ?Aa ?Ab A5.out).mono ?_);(case Aa=>exact kC (Kd.C_below Bh.out HB.out));(case Ab=>exact Bi.out);rintro e w8 ⟨Cb,rfl,Ai,hb⟩;refine⟨_,rfl,?_⟩;have Al:=Az.mk (Kd.S_lower Ai (bwZ bw_28));replace HB:=Az.mk (bwT bw_28 hb);(try clear hb);(try clear Ai))|((with_reducible refine gtC (f:=42) rfl ?_);refine clz Try.func42 (some 19) #[.slice A1 l1.length c1] ?_;(with_reducible refine(jL.calls _ _ l1 Au _ ?Aa ?Ab A6.out).mono ?_);(case Aa=>exact kC (Kd.C_below Bj.out HB.out));(case Ab=>exact Bk.out);rintro e w9 ⟨Cc,rfl,Ai,hb⟩;refine⟨_,rfl,?_⟩;replace Al:=Az.mk (Kd.S_elder' (kS Al.out) (Kd.R_base Ai) hb);have Av:=Az.mk (Kd.R_lower (Kd.R_newM (M:=fun k_=>(w.heap.size≤k_)) Ai (bwZ bw_28) (fun k_ h_=>h_)) (bwZ bw_28));replace HB:=Az.mk (bwT bw_28 hb);(try clear hb);(try clear Ai)))
 go_loopg [0,1] k (fun kq v0 v1 w'=>∃(Ag:List (List Int)) (Ah:List Int),Az (jE.l0 kq Ag Ah=some (r1,r2,r3))∧Az (kq≤k)∧Az (Kd.S (Kd.slice 3 (Kd.int .i64)) 25 w' w.heap.size (fun k_=>some k_≠(v1:Value).ownBlock) v0 Ag)∧Az (Kd.R (Kd.int .i64) 3 w' w.heap.size (fun k_=>(w.heap.size≤k_)) v1 Ah)∧Az (Below w.heap.size w w'))
 case atStart=>exact⟨(As),(Au),H',⟨Nat.le_refl _⟩,⟨by(with_reducible repeat(first|apply Kd.S_alloc|apply Kd.S_drewN|apply Kd.S_drew));exact Kd.S_mono Al.out (fun _ h_=>h_.2)⟩,⟨by(with_reducible repeat(first|apply Kd.R_alloc|apply Kd.R_drewN|apply Kd.R_drew));exact Kd.R_mono Av.out (fun _ hk=>hk.1)⟩,⟨bw_28⟩⟩
 clear H'
 try clear c1
 try clear c4
 obtain⟨Ag,Ah,HA,HK1,Ac,Ad,HB⟩:=hrel
 cases gk with
 |zero=>exact absurd HA.out (by simp[jE.l0])
 |succ k1=>
  have H:=HA.out
  clear HA
  simp only[jE.l0]at H
  replace H:=bez H
  obtain⟨Aj,Ca,H⟩:=H
  try dsimp only at H
  by_cases Am:Aj=0
  ·rw[ip Am]at H
   have Ax:=beq_iff_eq.mpr Am
   have Ay:=bne_eq_false_iff_eq.mpr Am
   clear Am
   simp only[Option.some.injEq,Prod.mk.injEq]at H
   obtain⟨rfl,rfl,rfl⟩:=H
   obtain⟨Bm,Bn,Bo⟩:=Kd.S_slice Ac.out
   subst Bo
   obtain⟨Bp,Bq,Br⟩:=Kd.R_slice Ad.out
   subst Br
   go_wp2_with (first|((with_reducible refine gtC (f:=25) rfl ?_);refine clz Try.func25 (some 22) #[.slice Bm Ag.length Bn, .slice Bp Ah.length Bq] ?_;(with_reducible refine(gE.calls k1 _ _ Ag _ _ Ah Aj _ ?Aa ?Ab ?Ae ?Af Ca.out).mono ?_);(case Aa=>exact kC (Kd.S_reads' Ac.out).2.2);(case Ab=>exact(Kd.S_reads' Ac.out).2.1);(case Ae=>exact kC (Kd.R_reads' Ad.out).2.2);(case Af=>exact(Kd.R_reads' Ad.out).2.1);rintro e Ci ⟨rfl,hb⟩;refine⟨_,rfl,?_⟩;replace Ac:=Az.mk (Kd.S_below (kS Ac.out) hb);replace Ad:=Az.mk (Kd.R_below (kR Ad.out) hb);replace HB:=Az.mk (bwT bw_28 hb);(try clear hb)))
   go_ret3
   exact⟨_,_,rq1,kS Ac.out,kR Ad.out,bw_28⟩
  rw[ig Am]at H
  have Ax:=beq_eq_false_iff_ne.mpr Am
  have Ay:=bne_iff_ne.mpr Am
  replace H:=bez H
  obtain⟨⟨Ba,Bs⟩,Cd,H⟩:=H
  try dsimp only at H
  replace H:=bez H
  obtain⟨⟨Bb,Bt⟩,Ce,H⟩:=H
  try dsimp only at H
  have H':=Az.mk H
  clear H
  obtain⟨Ap,Aq,Bu⟩:=Kd.S_slice Ac.out
  subst Bu
  obtain⟨Bc,Bd,Bv⟩:=Kd.R_slice Ad.out
  subst Bv
  go_wp2_with (first|((with_reducible refine gtC (f:=25) rfl ?_);refine clz Try.func25 (some 22) #[.slice Ap Ag.length Aq, .slice Bc Ah.length Bd] ?_;(with_reducible refine(gE.calls k1 _ _ Ag _ _ Ah Aj _ ?Aa ?Ab ?Ae ?Af Ca.out).mono ?_);(case Aa=>exact kC (Kd.S_reads' Ac.out).2.2);(case Ab=>exact(Kd.S_reads' Ac.out).2.1);(case Ae=>exact kC (Kd.R_reads' Ad.out).2.2);(case Af=>exact(Kd.R_reads' Ad.out).2.1);rintro e Cj ⟨rfl,hb⟩;refine⟨_,rfl,?_⟩;replace Ac:=Az.mk (Kd.S_below (kS Ac.out) hb);replace Ad:=Az.mk (Kd.R_below (kR Ad.out) hb);replace HB:=Az.mk (bwT bw_28 hb);(try clear hb))|((with_reducible refine gtC (f:=8) rfl ?_);refine clz Try.func8 (some 31) #[.slice Ap Ag.length Aq, .slice Bc Ah.length Bd, .int .i64 Aj] ?_;(with_reducible refine(fP.calls k1 _ _ Ag _ _ Ah Aj Ba Bs _ ?Aa ?Ab ?Ae ?Af Cd.out).mono ?_);(case Aa=>exact kC (Kd.S_reads' Ac.out).2.2);(case Ab=>exact(Kd.S_reads' Ac.out).2.1);(case Ae=>exact kC (Kd.R_reads' Ad.out).2.2);(case Af=>exact(Kd.R_reads' Ad.out).2.1);rintro e Ck ⟨Cf,rfl,Ai,hb⟩;refine⟨_,rfl,?_⟩;replace Ac:=Az.mk (Kd.S_elder' (kS Ac.out) (Kd.R_base Ai) hb);have Ak:=Az.mk (Kd.R_lower (Kd.R_new' (Kd.R_newM (M:=fun k_=>(w.heap.size≤k_)) Ai (bwZ bw_28) (fun k_ h_=>h_)) (Kd.R_lt (kR Ad.out))) (bwZ bw_28));replace Ad:=Az.mk (Kd.R_elder' (kR Ad.out) (Kd.R_base Ai) hb);replace HB:=Az.mk (bwT bw_28 hb);(try clear hb);(try clear Ai))|((with_reducible refine gtC (f:=6) rfl ?_);refine clz Try.func6 (some 37) #[.slice Ap Ag.length Aq, .int .i64 Aj] ?_;(with_reducible refine(fU.calls k1 _ _ Ag Aj Bb Bt _ ?Aa ?Ab Ce.out).mono ?_);(case Aa=>exact kC (Kd.S_reads' Ac.out).2.2);(case Ab=>exact(Kd.S_reads' Ac.out).2.1);rintro e Cl ⟨Cg,rfl,Ai,hb⟩;refine⟨_,rfl,?_⟩;replace Ac:=Az.mk (Kd.S_elder' (kS Ac.out) (Kd.S_base Ai) hb);replace Ad:=Az.mk (Kd.R_below (kR Ad.out) hb);have Bf:=Az.mk (Kd.S_lower (Kd.S_mono (Kd.S_bound Ai) (fun k_ hk_=>Kd.fresh' (Kd.R_lt (kR Ak.out)) k_ hk_.2.1)) (bwZ bw_28));replace Ak:=Az.mk (Kd.R_below (kR Ak.out) hb);replace HB:=Az.mk (bwT bw_28 hb);(try clear hb);(try clear Ai)))
  go_roundg k1
  case measure=>have:=HK1.out;omega
  case rel=>exact⟨(Bb),(Ba),H',⟨by have:=HK1.out;omega⟩,⟨kS Bf.out⟩,⟨by(with_reducible repeat(first|apply Kd.R_alloc|apply Kd.R_drewN|apply Kd.R_drew));exact Kd.R_mono Ak.out (fun _ hk=>hk.1.1)⟩,⟨bw_28⟩⟩
def gK.l0:Nat→List Int→Int→Int→Option (Int)
 |0,_,_,_=>none
 |k+1,x0,x3,x4=>if x4<(x0.length:Int) then(if 0≤x4 then((gV.f (rd x0 x4) 0 200).bind fun t617=>(if t617=true then(gK.l0 k x0 (wrap64 (x3+(rd x0 x4))) (wrap64 (x4+1))) else(some (-1)))) else(none)) else(some x3)
def gK.f (k:Nat) (l0:List Int):Option (Int):=gK.l0 k l0 0 0
theorem gK.calls (k:Nat) (A0:Option Addr) (c0:Nat) (l0:List Int) (r:Int) (w:World) (As:Kd.C (Kd.int .i64) w A0 l0.length l0) (Au:l0.length≤c0) (h:gK.f k l0=some r):
  Calls Try.prog 24 #[.slice A0 l0.length c0] w fun e w'=>e= .returned (.int .i64 r)∧Drawn0 w w':=by
 have Al:=Az.mk As
 have Ax:=Az.mk Au
 clear As Au
 have H:(gK.l0 k l0 0 0)=some r:=h
 clear h
 have H':=Az.mk H
 clear H
 go_enter Try.func24,Try.ntmps24
 go_wp2
 go_loopg [3,4] k (fun kq v3 v4 w'=>∃(Ad:Int) (Aa:Int),v3= .int .i64 Ad∧v4= .int .i64 Aa∧Az (gK.l0 kq l0 Ad Aa=some r)∧Az (kq≤k)∧Drawn0 w w')
 case atStart=>exact⟨(0),(0),rq2,rq2,H',⟨Nat.le_refl _⟩,kd⟩
 clear H'
 obtain⟨Ad,Aa,rfl,rfl,HA,HK1,⟨m1,rfl⟩⟩:=hrel
 cases gk with
 |zero=>exact absurd HA.out (by simp[gK.l0])
 |succ k1=>
  have H:=HA.out
  clear HA
  simp only[gK.l0]at H
  by_cases c2:Aa<(l0.length:Int)
  rotate_left
  ·rw[ig c2]at H
   have Am:=decide_eq_false c2
   clear c2
   obtain rfl:=Option.some.inj H
   go_wp2
   go_ret
   exact⟨rq2,kd⟩
  rw[ip c2]at H
  have Am:=ode c2
  clear c2
  by_cases c3:0≤Aa
  rotate_left
  ·rw[ig c3]at H
   exact absurd H (by simp)
  rw[ip c3]at H
  have Av:=ode c3
  clear c3
  replace H:=bez H
  obtain⟨Ap,A4,H⟩:=H
  try dsimp only at H
  by_cases c5:Ap=true
  rotate_left
  ·replace c5:=Bool.eq_false_iff.mpr c5
   subst c5
   rw[ig ff]at H
   obtain rfl:=Option.some.inj H
   have Ab:0≤(Aa:Int):=od
   have Ac:Aa<(l0.length:Int):=od
   obtain⟨Af,Ag,Ae⟩:=Kd.at_int Al.out Aa Ab Ac
   cases Ag
   replace Ab:=ets Ab
   replace Ac:=ets Ac
   go_wp2_with (first|((with_reducible refine gtC (f:=52) rfl ?_);refine clz Try.func52 (some 15) #[.int .i64 (rd l0 Aa), .int .i64 0, .int .i64 200] ?_;(with_reducible refine(gV.calls (rd l0 Aa) 0 200 false _ A4.out).mono ?_);rintro e w' ⟨rfl,⟨nd,rfl⟩⟩;refine⟨_,rfl,?_⟩))
   go_ret
   exact⟨rq2,kd⟩
  subst c5
  rw[ip rfl]at H
  have H':=Az.mk H
  clear H
  have Ab:0≤(Aa:Int):=od
  have Ac:Aa<(l0.length:Int):=od
  obtain⟨Af,Ag,Ae⟩:=Kd.at_int Al.out Aa Ab Ac
  cases Ag
  replace Ab:=ets Ab
  replace Ac:=ets Ac
  go_wp2_with (first|((with_reducible refine gtC (f:=52) rfl ?_);refine clz Try.func52 (some 15) #[.int .i64 (rd l0 Aa), .int .i64 0, .int .i64 200] ?_;(with_reducible refine(gV.calls (rd l0 Aa) 0 200 true _ A4.out).mono ?_);rintro e w' ⟨rfl,⟨nd,rfl⟩⟩;refine⟨_,rfl,?_⟩;have Ah:0≤(Aa:Int):=od;have Ai:Aa<(l0.length:Int):=od;obtain⟨Aj,Aq,Ak⟩:=Kd.at_int Al.out Aa Ah Ai;obtain rfl:Af=Aj:=(by injection Aq);replace Ah:=ets Ah;replace Ai:=ets Ai))
  go_roundg k1
  case measure=>have:=HK1.out;omega
  case rel=>exact⟨(wrap64 (Ad+(rd l0 Aa))),(wrap64 (Aa+1)),rq2,rq2,H',⟨by have:=HK1.out;omega⟩,kd⟩
theorem bw_29 {n:Nat}{v v':World} (h:Below n v v':=by repeat(first|(with_reducible first|exact HB.out|apply bwA|apply pbN|apply bwD)|exact HB.out)):Below n v v':=h
theorem ln_29 {P:Prop} (h:P:=by(try simp only[List.map_toArray,List.map_cons,List.map_nil]);first|done|rfl|(simp only[List.length_drop,List.length_take];rfl)):P:=h
def gF.l0:Nat→List (List Int)→List Int→Int→Int→Int→Option (Int)
 |0,_,_,_,_,_=>none
 |k+1,x0,x1,x5,x6,x7=>if x7≤(x1.length:Int) then((fG.f k x0 x1 x7).bind fun bt621=>(if bt621.2=true then((gK.f k bt621.1).bind fun t625=>(if t625<x5 then((gK.f k bt621.1).bind fun t626=>(gF.l0 k x0 x1 t626 x7 (wrap64 (x7+1)))) else(gF.l0 k x0 x1 x5 x6 (wrap64 (x7+1))))) else(gF.l0 k x0 x1 x5 x6 (wrap64 (x7+1))))) else(some x6)
def gF.f (k:Nat) (l0:List (List Int)) (l1:List Int):Option (Int):=(fI.f k l0 l1).bind fun t619=>(if t619=true then((gK.f k l1).bind fun t620=>(gF.l0 k l0 l1 t620 0 1)) else(some 0))
theorem gF.calls (k:Nat) (A0:Option Addr) (c0:Nat) (l0:List (List Int)) (A1:Option Addr) (c1:Nat) (l1:List Int) (r:Int) (w:World) (Bj:Kd.C (Kd.slice 3 (Kd.int .i64)) w A0 l0.length l0) (Bk:l0.length≤c0) (Bl:Kd.C (Kd.int .i64) w A1 l1.length l1) (Bm:l1.length≤c1) (h:gF.f k l0 l1=some r):
  Calls Try.prog 26 #[.slice A0 l0.length c0, .slice A1 l1.length c1] w fun e w'=>e= .returned (.int .i64 r)∧Below w.heap.size w w':=by
 have Aq:=Az.mk Bj
 have As:=Az.mk Bk
 clear Bj Bk
 have Al:=Az.mk Bl
 have Am:=Az.mk Bm
 clear Bl Bm
 have HB:=Az.mk (Below.refl w.heap.size w)
 have H:=h
 unfold gF.f at H
 clear h
 replace H:=bez H
 obtain⟨Ba,A3,H⟩:=H
 try dsimp only at H
 by_cases c4:Ba=true
 rotate_left
 ·replace c4:=Bool.eq_false_iff.mpr c4
  subst c4
  rw[ig ff]at H
  obtain rfl:=Option.some.inj H
  go_enter Try.func26,Try.ntmps26
  go_wp2_with (first|((with_reducible refine gtC (f:=29) rfl ?_);refine clz Try.func29 (some 12) #[.slice A0 l0.length c0, .slice A1 l1.length c1] ?_;(with_reducible refine(fI.calls k _ _ l0 _ _ l1 false _ ?Aa ?Ab ?Ad ?Ae A3.out).mono ?_);(case Aa=>exact kC Aq.out);(case Ab=>exact As.out);(case Ad=>exact kC Al.out);(case Ae=>exact Am.out);rintro e Br ⟨rfl,hb⟩;refine⟨_,rfl,?_⟩;replace HB:=Az.mk (bwT bw_29 hb);(try clear hb)))
  go_ret
  exact⟨rq1,bw_29⟩
 subst c4
 rw[ip rfl]at H
 replace H:=bez H
 obtain⟨Au,A5,H⟩:=H
 try dsimp only at H
 have H':=Az.mk H
 clear H
 go_enter Try.func26,Try.ntmps26
 go_wp2_with (first|((with_reducible refine gtC (f:=29) rfl ?_);refine clz Try.func29 (some 12) #[.slice A0 l0.length c0, .slice A1 l1.length c1] ?_;(with_reducible refine(fI.calls k _ _ l0 _ _ l1 true _ ?Aa ?Ab ?Ad ?Ae A3.out).mono ?_);(case Aa=>exact kC Aq.out);(case Ab=>exact As.out);(case Ad=>exact kC Al.out);(case Ae=>exact Am.out);rintro e w6 ⟨rfl,hb⟩;refine⟨_,rfl,?_⟩;replace HB:=Az.mk (bwT bw_29 hb);(try clear hb))|((with_reducible refine gtC (f:=24) rfl ?_);refine clz Try.func24 (some 15) #[.slice A1 l1.length c1] ?_;(with_reducible refine(gK.calls k _ _ l1 Au _ ?Aa ?Ab A5.out).mono ?_);(case Aa=>exact kC (Kd.C_below Al.out HB.out));(case Ab=>exact Am.out);rintro e w' ⟨rfl,⟨nd,rfl⟩⟩;refine⟨_,rfl,?_⟩))
 go_loopg [5,6,7] k (fun kq v5 v6 v7 w'=>∃(Ah:Int) (Ai:Int) (Af:Int),v5= .int .i64 Ah∧v6= .int .i64 Ai∧v7= .int .i64 Af∧Az (gF.l0 kq l0 l1 Ah Ai Af=some r)∧Az (kq≤k)∧Az (Below w.heap.size w w'))
 case atStart=>exact⟨(Au),(0),(1),rq2,rq2,rq2,H',⟨Nat.le_refl _⟩,⟨bw_29⟩⟩
 clear H'
 try clear c1
 try clear c4
 obtain⟨Ah,Ai,Af,rfl,rfl,rfl,HA,HK1,HB⟩:=hrel
 cases gk with
 |zero=>exact absurd HA.out (by simp[gF.l0])
 |succ k1=>
  have H:=HA.out
  clear HA
  simp only[gF.l0]at H
  by_cases c7:Af≤(l1.length:Int)
  rotate_left
  ·rw[ig c7]at H
   have Bb:=decide_eq_false c7
   clear c7
   obtain rfl:=Option.some.inj H
   go_wp2
   go_ret
   exact⟨rq1,bw_29⟩
  rw[ip c7]at H
  have Bb:=ode c7
  clear c7
  replace H:=bez H
  obtain⟨⟨Ag,Bc⟩,A8,H⟩:=H
  try dsimp only at H
  by_cases c9:Bc=true
  rotate_left
  ·replace c9:=Bool.eq_false_iff.mpr c9
   subst c9
   rw[ig ff]at H
   have H':=Az.mk H
   clear H
   go_wp2_with (first|((with_reducible refine gtC (f:=9) rfl ?_);refine clz Try.func9 (some 26) #[.slice A0 l0.length c0, .slice A1 l1.length c1, .int .i64 Af] ?_;(with_reducible refine(fG.calls k1 _ _ l0 _ _ l1 Af Ag false _ ?Aa ?Ab ?Ad ?Ae A8.out).mono ?_);(case Aa=>exact kC (Kd.C_below Aq.out HB.out));(case Ab=>exact As.out);(case Ad=>exact kC (Kd.C_below Al.out HB.out));(case Ae=>exact Am.out);rintro e Bs ⟨Av,rfl,Aj,hb⟩;refine⟨_,rfl,?_⟩;have Ac:=Az.mk (Kd.R_lower Aj (bwZ bw_29));replace HB:=Az.mk (bwT bw_29 hb);(try clear hb);(try clear Aj)))
   go_roundg k1
   case measure=>have:=HK1.out;omega
   case rel=>exact⟨(Ah),(Ai),(wrap64 (Af+1)),rq2,rq2,rq2,H',⟨by have:=HK1.out;omega⟩,⟨bw_29⟩⟩
  subst c9
  rw[ip rfl]at H
  replace H:=bez H
  obtain⟨Ak,Bn,H⟩:=H
  try dsimp only at H
  by_cases Ap:Ak<Ah
  rotate_left
  ·rw[ig Ap]at H
   have Ax:=decide_eq_false Ap
   clear Ap
   have H':=Az.mk H
   clear H
   go_wp2_with (first|((with_reducible refine gtC (f:=9) rfl ?_);refine clz Try.func9 (some 26) #[.slice A0 l0.length c0, .slice A1 l1.length c1, .int .i64 Af] ?_;(with_reducible refine(fG.calls k1 _ _ l0 _ _ l1 Af Ag true _ ?Aa ?Ab ?Ad ?Ae A8.out).mono ?_);(case Aa=>exact kC (Kd.C_below Aq.out HB.out));(case Ab=>exact As.out);(case Ad=>exact kC (Kd.C_below Al.out HB.out));(case Ae=>exact Am.out);rintro e Bt ⟨Av,rfl,Aj,hb⟩;refine⟨_,rfl,?_⟩;have Ac:=Az.mk (Kd.R_lower Aj (bwZ bw_29));replace HB:=Az.mk (bwT bw_29 hb);(try clear hb);(try clear Aj);obtain⟨Bo,Bp,Bd⟩:=Kd.R_slice Ac.out;subst Bd)|(go_at_call 24;(with_reducible refine(gK.calls k1 _ _ Ag Ak _ ?Aa ?Ab Bn.out).mono ?_);(case Aa=>exact kC (Kd.R_reads' Ac.out).2.2);(case Ab=>exact(Kd.R_reads' Ac.out).2.1);rintro e w' ⟨rfl,⟨nd,rfl⟩⟩))
   go_roundg k1
   case measure=>have:=HK1.out;omega
   case rel=>exact⟨(Ah),(Ai),(wrap64 (Af+1)),rq2,rq2,rq2,H',⟨by have:=HK1.out;omega⟩,⟨bw_29⟩⟩
  rw[ip Ap]at H
  have Ax:=ode Ap
  clear Ap
  replace H:=bez H
  obtain⟨Ay,Bq,H⟩:=H
  try dsimp only at H
  have H':=Az.mk H
  clear H
  go_wp2_with (first|((with_reducible refine gtC (f:=9) rfl ?_);refine clz Try.func9 (some 26) #[.slice A0 l0.length c0, .slice A1 l1.length c1, .int .i64 Af] ?_;(with_reducible refine(fG.calls k1 _ _ l0 _ _ l1 Af Ag true _ ?Aa ?Ab ?Ad ?Ae A8.out).mono ?_);(case Aa=>exact kC (Kd.C_below Aq.out HB.out));(case Ab=>exact As.out);(case Ad=>exact kC (Kd.C_below Al.out HB.out));(case Ae=>exact Am.out);rintro e Bu ⟨Av,rfl,Aj,hb⟩;refine⟨_,rfl,?_⟩;have Ac:=Az.mk (Kd.R_lower Aj (bwZ bw_29));replace HB:=Az.mk (bwT bw_29 hb);(try clear hb);(try clear Aj);obtain⟨Bf,Bh,Bi⟩:=Kd.R_slice Ac.out;subst Bi)|(go_at_call 24;(with_reducible refine(gK.calls k1 _ _ Ag Ak _ ?Aa ?Ab Bn.out).mono ?_);(case Aa=>exact kC (Kd.R_reads' Ac.out).2.2);(case Ab=>exact(Kd.R_reads' Ac.out).2.1);rintro e w' ⟨rfl,⟨nd,rfl⟩⟩)|((with_reducible refine gtC (f:=24) rfl ?_);refine clz Try.func24 (some 37) #[.slice Bf Ag.length Bh] ?_;(with_reducible refine(gK.calls k1 _ _ Ag Ay _ ?Aa ?Ab Bq.out).mono ?_);(case Aa=>exact kC (Kd.R_reads' Ac.out).2.2);(case Ab=>exact(Kd.R_reads' Ac.out).2.1);rintro e w' ⟨rfl,⟨nd,rfl⟩⟩;refine⟨_,rfl,?_⟩))
  go_roundg k1
  case measure=>have:=HK1.out;omega
  case rel=>exact⟨(Ay),(Af),(wrap64 (Af+1)),rq2,rq2,rq2,H',⟨by have:=HK1.out;omega⟩,⟨bw_29⟩⟩
def jC.l0:Nat→List (List Int)→List Int→Int→Option ((List (List Int)) × List Int × Bool)
 |0,_,_,_=>none
 |k+1,x7,x8,x9=>if x9>0 then((fG.f k x7 x8 x9).bind fun bt644=>((jK.f k x7 x9).bind fun bt648=>((gF.f k bt648.1 bt644.1).bind fun t652=>(jC.l0 k bt648.1 bt644.1 t652)))) else(some (x7,x8,true))
def jC.f (k:Nat) (l0:List (List Int)) (l1:List Int):Option ((List (List Int)) × List Int × Bool):=(fI.f k l0 l1).bind fun t627=>(if t627=true then((gQ.f k l0).bind fun t634=>((some (([]:List Int):List Int)).bind fun y637=>(if y637.length+l1.length<17592186044416 then((some (y637 ++ l1:List Int)).bind fun y640=>((gF.f k t634 y640).bind fun t643=>(jC.l0 k t634 y640 t643))) else(none)))) else(some ((([]:List (List Int))),(([]:List Int)),false)))
theorem jC.calls (k:Nat) (A0:Option Addr) (c0:Nat) (l0:List (List Int)) (A1:Option Addr) (c1:Nat) (l1:List Int) (r1:List (List Int)) (r2:List Int) (r3:Bool) (w:World) (Cq:Kd.C (Kd.slice 3 (Kd.int .i64)) w A0 l0.length l0) (Cr:l0.length≤c0) (Cs:Kd.C (Kd.int .i64) w A1 l1.length l1) (Ct:l1.length≤c1) (h:jC.f k l0 l1=some (r1,r2,r3)):
  Calls Try.prog 15 #[.slice A0 l0.length c0, .slice A1 l1.length c1] w fun e w'=>∃v0_ v1_:Value,e= .returned (.tuple #[v0_,v1_, .bool r3])∧Kd.S (Kd.slice 3 (Kd.int .i64)) 25 w' w.heap.size (fun k_=>some k_≠(v1_:Value).ownBlock) v0_ r1∧Kd.R (Kd.int .i64) 3 w' w.heap.size (fun _=>True) v1_ r2∧Below w.heap.size w w':=by
 have Bs:=Az.mk Cq
 have Bt:=Az.mk Cr
 clear Cq Cr
 have Bu:=Az.mk Cs
 have Cu:=Az.mk Ct
 clear Cs Ct
 have HB:=Az.mk (Below.refl w.heap.size w)
 have H:=h
 unfold jC.f at H
 clear h
 replace H:=bez H
 obtain⟨Bv,A3,H⟩:=H
 try dsimp only at H
 by_cases c4:Bv=true
 rotate_left
 ·replace c4:=Bool.eq_false_iff.mpr c4
  subst c4
  rw[ig ff]at H
  obtain⟨Bl,hy⟩:∃y_:List (List Int),y_=(([]:List (List Int))):=⟨_,rfl⟩
  replace H:(some (Bl,(([]:List Int)),false))=some (r1,r2,r3):=rh
  have Bf:=Az.mk hy
  clear hy
  obtain⟨Bw,hy⟩:∃y_:List Int,y_=(([]:List Int)):=⟨_,rfl⟩
  replace H:(some (Bl,Bw,false))=some (r1,r2,r3):=rh
  have Bh:=Az.mk hy
  clear hy
  simp only[Option.some.injEq,Prod.mk.injEq]at H
  obtain⟨rfl,rfl,rfl⟩:=H
  go_enter Try.func15,Try.ntmps15
  go_wp2_with (first|((with_reducible refine gtC (f:=29) rfl ?_);refine clz Try.func29 (some 12) #[.slice A0 l0.length c0, .slice A1 l1.length c1] ?_;(with_reducible refine(fI.calls k _ _ l0 _ _ l1 false _ ?Aa ?Ab ?Ad ?Ae A3.out).mono ?_);(case Aa=>exact kC Bs.out);(case Ab=>exact Bt.out);(case Ad=>exact kC Bu.out);(case Ae=>exact Cu.out);rintro e Df ⟨rfl,hb⟩;refine⟨_,rfl,?_⟩;replace HB:=Az.mk (bwT bw_29 hb);(try clear hb))|((with_reducible refine gtD (N:=14) rfl ?_);refine Kd.S_lit (Kd.slice 3 (Kd.int .i64)) _ 25 ?hg (N:=14) ?hd (xs:=([]:List (List Int))) (inner:=[]) (ok:=fun _=>True) (okp:=fun _=>True) ?hr ?hp (fun _ hk=>hk) trivial (Below.refl _ _) (Nat.le_refl _) (by simp) ?_;(case hd=>rfl);(case hg=>rfl);(case hr=>first|(go_simp;done)|(go_simp;rfl));(case hp=>exact(Reps.none _ _));intro Cv Dg Av hb hg_ hnew_;clear hg_ hnew_;(first|rw[←Bf.out]at Av|(simp only[Int.reduceToNat]at Av;rw[←Bf.out]at Av));have Ax:=Az.mk (Kd.S_lower Av (bwZ bw_29));replace HB:=Az.mk (bwT bw_29 hb);clear hb Av)|((with_reducible refine gtD (N:=15) rfl ?_);refine Kd.R_lit (Kd.int .i64) _ 3 ?hg (N:=15) ?hd (xs:=([]:List Int)) (inner:=[]) (ok:=fun _=>True) (okp:=fun _=>True) ?hr ?hp (fun _ hk=>hk) trivial (Below.refl _ _) (Nat.le_refl _) (by simp) ?_;(case hd=>rfl);(case hg=>rfl);(case hr=>first|(go_simp;done)|(go_simp;rfl));(case hp=>exact(Reps.none _ _));intro Cw Dh Aq hb hg_ hnew_;clear hg_ hnew_;(first|rw[←Bh.out]at Aq|(simp only[Int.reduceToNat]at Aq;rw[←Bh.out]at Aq));replace Ax:=Az.mk (Kd.S_elder' (kS Ax.out) (Kd.R_base Aq) hb);have Bm:=Az.mk (Kd.R_lower Aq (bwZ bw_29));replace HB:=Az.mk (bwT bw_29 hb);clear hb Aq))
  go_ret3
  exact⟨_,_,rq1,by(with_reducible repeat(first|apply Kd.S_alloc|apply Kd.S_drewN|apply Kd.S_drew));exact Kd.S_mono Ax.out (fun _ hk=>hk.2),kR Bm.out,bw_29⟩
 subst c4
 rw[ip rfl]at H
 replace H:=bez H
 obtain⟨Al,A5,H⟩:=H
 try dsimp only at H
 obtain⟨Ay,hy⟩:∃y_:List Int,y_=(([]:List Int)):=⟨_,rfl⟩
 replace H:(if Ay.length+l1.length<17592186044416 then((some (Ay ++ l1:List Int)).bind fun Am=>((gF.f k Al Am).bind fun As=>(jC.l0 k Al Am As))) else(none))=some (r1,r2,r3):=rh
 have Bi:=Az.mk hy
 clear hy
 by_cases c6:Ay.length+l1.length<17592186044416
 rotate_left
 ·rw[ig c6]at H
  exact absurd H (by simp)
 rw[ip c6]at H
 have LMc6:=Az.mk c6
 clear c6
 obtain⟨Am,hy⟩:∃y_:List Int,y_=(Ay ++ l1):=⟨_,rfl⟩
 replace H:((gF.f k Al Am).bind fun As=>(jC.l0 k Al Am As))=some (r1,r2,r3):=rh
 have Bn:=Az.mk hy
 clear hy
 replace H:=bez H
 obtain⟨As,A7,H⟩:=H
 try dsimp only at H
 have H':=Az.mk H
 clear H
 go_enter Try.func15,Try.ntmps15
 go_wp2_with (first|((with_reducible refine gtC (f:=29) rfl ?_);refine clz Try.func29 (some 12) #[.slice A0 l0.length c0, .slice A1 l1.length c1] ?_;(with_reducible refine(fI.calls k _ _ l0 _ _ l1 true _ ?Aa ?Ab ?Ad ?Ae A3.out).mono ?_);(case Aa=>exact kC Bs.out);(case Ab=>exact Bt.out);(case Ad=>exact kC Bu.out);(case Ae=>exact Cu.out);rintro e w8 ⟨rfl,hb⟩;refine⟨_,rfl,?_⟩;replace HB:=Az.mk (bwT bw_29 hb);(try clear hb))|((with_reducible refine gtC (f:=38) rfl ?_);refine clz Try.func38 (some 17) #[.slice A0 l0.length c0] ?_;(with_reducible refine(gQ.calls k _ _ l0 Al _ ?Aa ?Ab A5.out).mono ?_);(case Aa=>exact kC (Kd.C_below Bs.out HB.out));(case Ab=>exact Bt.out);rintro e w9 ⟨Cy,rfl,Ba,hb⟩;refine⟨_,rfl,?_⟩;have Ac:=Az.mk (Kd.S_lower Ba (bwZ bw_29));replace HB:=Az.mk (bwT bw_29 hb);(try clear hb);(try clear Ba))|((with_reducible refine gtD (N:=18) rfl ?_);refine Kd.R_lit (Kd.int .i64) _ 3 ?hg (N:=18) ?hd (xs:=([]:List Int)) (inner:=[]) (ok:=fun _=>True) (okp:=fun _=>True) ?hr ?hp (fun _ hk=>hk) trivial (Below.refl _ _) (Nat.le_refl _) (by simp) ?_;(case hd=>rfl);(case hg=>rfl);(case hr=>first|(go_simp;done)|(go_simp;rfl));(case hp=>exact(Reps.none _ _));intro Bx Di Au hb hg_ hnew_;clear hg_ hnew_;(first|rw[←Bi.out]at Au|(simp only[Int.reduceToNat]at Au;rw[←Bi.out]at Au));replace Ac:=Az.mk (Kd.S_elder' (kS Ac.out) (Kd.R_base Au) hb);have Bj:=Az.mk (Kd.R_lower Au (bwZ bw_29));replace HB:=Az.mk (bwT bw_29 hb);clear hb Au)|((with_reducible refine gate_builtin (b:= .append) (xs:= #[.tmp 18, .tmp 19]) rfl ?_);at_builtin;refine Kd.R_append_rows (Kd.int .i64) (w0:=w) w.heap.size rfl (.tmp 18) (.tmp 19) 25 3 (.int .i64 0) 8 rfl Try.underlying25 info3 rfl (by decide) (by omega) Bx Ay l1 _ _ _ (fun _=>True) (fun _=>False) rfl rfl ?aO ?aR (fun _ _ h=>h) (fun _ h=>h.elim) ?aF ?aB ?aS ?aL ?_;(case aR=>exact kC (Kd.C_below Bu.out HB.out));(case aB=>exact bw_29);(case aF=>exact(fun _ _=>trivial));(case aO=>exact(kR Bj.out));(case aS=>exact(bwZ bw_29));(case aL=>have:=LMc6.out;omega);intro Cz w12 ho hb hg hat;rw[←Bn.out]at ho;have n0_:=Az.mk (Kd.S_after (ok:=(fun _=>True)) (kS Ac.out) hg hat);have n1_:=Az.mk (hb);have n2_:=Az.mk (ho);clear Ac;clear HB;clear Bj;have Ac:=n0_;have HB:=n1_;have Aj:=n2_;clear n0_ n1_ n2_;clear ho hb hg hat;obtain⟨By,Bz,Ca⟩:=Kd.S_slice Ac.out;subst Ca;obtain⟨Cb,Cc,Cd⟩:=Kd.R_slice Aj.out;subst Cd)|((with_reducible refine gtC (f:=26) rfl ?_);refine clz Try.func26 (some 23) #[.slice By Al.length Bz, .slice Cb Am.length Cc] ?_;(with_reducible refine(gF.calls k _ _ Al _ _ Am As _ ?Aa ?Ab ?Ad ?Ae A7.out).mono ?_);(case Aa=>exact kC (Kd.S_reads' Ac.out).2.2);(case Ab=>exact(Kd.S_reads' Ac.out).2.1);(case Ad=>exact kC (Kd.R_reads' Aj.out).2.2);(case Ae=>exact(Kd.R_reads' Aj.out).2.1);rintro e Dj ⟨rfl,hb⟩;refine⟨_,rfl,?_⟩;replace Ac:=Az.mk (Kd.S_below (kS Ac.out) hb);replace Aj:=Az.mk (Kd.R_below (kR Aj.out) hb);replace HB:=Az.mk (bwT bw_29 hb);(try clear hb)))
 go_loopg [7,8,9] k (fun kq v7 v8 v9 w'=>∃(Ap:List (List Int)) (Bb:List Int) (Ai:Int),v9= .int .i64 Ai∧Az (jC.l0 kq Ap Bb Ai=some (r1,r2,r3))∧Az (kq≤k)∧Az (Kd.S (Kd.slice 3 (Kd.int .i64)) 25 w' w.heap.size (fun k_=>some k_≠(v8:Value).ownBlock) v7 Ap)∧Az (Kd.R (Kd.int .i64) 3 w' w.heap.size (fun _=>True) v8 Bb)∧Az (Below w.heap.size w w'))
 case atStart=>exact⟨(Al),(Am),(As),rq2,H',⟨Nat.le_refl _⟩,⟨by(with_reducible repeat(first|apply Kd.S_alloc|apply Kd.S_drewN|apply Kd.S_drew));exact Kd.S_mono Ac.out (fun _ hk=>hk.2)⟩,⟨kR Aj.out⟩,⟨bw_29⟩⟩
 clear H'
 try clear c1
 try clear c4
 try clear c6
 obtain⟨Ap,Bb,Ai,rfl,HA,HK1,Ag,Ah,HB⟩:=hrel
 cases gk with
 |zero=>exact absurd HA.out (by simp[jC.l0])
 |succ k1=>
  have H:=HA.out
  clear HA
  simp only[jC.l0]at H
  by_cases Bk:Ai>0
  rotate_left
  ·rw[ig Bk]at H
   have Bo:decide (0<Ai)=false:=decide_eq_false Bk
   clear Bk
   simp only[Option.some.injEq,Prod.mk.injEq]at H
   obtain⟨rfl,rfl,rfl⟩:=H
   go_wp2
   go_ret3
   exact⟨_,_,rq1,kS Ag.out,kR Ah.out,bw_29⟩
  rw[ip Bk]at H
  have Bo:decide (0<Ai)=true:=ode Bk
  clear Bk
  replace H:=bez H
  obtain⟨⟨Bc,Ce⟩,Da,H⟩:=H
  try dsimp only at H
  replace H:=bez H
  obtain⟨⟨Bd,Cf⟩,Db,H⟩:=H
  try dsimp only at H
  replace H:=bez H
  obtain⟨Bp,Dc,H⟩:=H
  try dsimp only at H
  have H':=Az.mk H
  clear H
  obtain⟨Bq,Br,Cg⟩:=Kd.S_slice Ag.out
  subst Cg
  obtain⟨Ch,Ci,Cj⟩:=Kd.R_slice Ah.out
  subst Cj
  go_wp2_with (first|((with_reducible refine gtC (f:=9) rfl ?_);refine clz Try.func9 (some 33) #[.slice Bq Ap.length Br, .slice Ch Bb.length Ci, .int .i64 Ai] ?_;(with_reducible refine(fG.calls k1 _ _ Ap _ _ Bb Ai Bc Ce _ ?Aa ?Ab ?Ad ?Ae Da.out).mono ?_);(case Aa=>exact kC (Kd.S_reads' Ag.out).2.2);(case Ab=>exact(Kd.S_reads' Ag.out).2.1);(case Ad=>exact kC (Kd.R_reads' Ah.out).2.2);(case Ae=>exact(Kd.R_reads' Ah.out).2.1);rintro e Dk ⟨Dd,rfl,Ba,hb⟩;refine⟨_,rfl,?_⟩;replace Ag:=Az.mk (Kd.S_elder' (kS Ag.out) (Kd.R_base Ba) hb);have Af:=Az.mk (Kd.R_lower (Kd.R_new' Ba (Kd.R_lt (kR Ah.out))) (bwZ bw_29));replace Ah:=Az.mk (Kd.R_elder' (kR Ah.out) (Kd.R_base Ba) hb);replace HB:=Az.mk (bwT bw_29 hb);(try clear hb);(try clear Ba))|((with_reducible refine gtC (f:=7) rfl ?_);refine clz Try.func7 (some 39) #[.slice Bq Ap.length Br, .int .i64 Ai] ?_;(with_reducible refine(jK.calls k1 _ _ Ap Ai Bd Cf _ ?Aa ?Ab Db.out).mono ?_);(case Aa=>exact kC (Kd.S_reads' Ag.out).2.2);(case Ab=>exact(Kd.S_reads' Ag.out).2.1);rintro e Dl ⟨De,rfl,Ba,hb⟩;refine⟨_,rfl,?_⟩;have Ak:=Az.mk (Kd.S_lower (Kd.S_new' (Kd.S_new' (Kd.S_new' Ba (Kd.S_lt (kS Ag.out))) (Kd.R_lt (kR Ah.out))) (Kd.R_lt (kR Af.out))) (bwZ bw_29));replace Ag:=Az.mk (Kd.S_elder' (kS Ag.out) (Kd.S_base Ba) hb);replace Ah:=Az.mk (Kd.R_below (kR Ah.out) hb);replace Af:=Az.mk (Kd.R_below (kR Af.out) hb);replace HB:=Az.mk (bwT bw_29 hb);(try clear hb);(try clear Ba);obtain⟨Ck,Cl,Cm⟩:=Kd.S_slice Ak.out;subst Cm;obtain⟨Cn,Co,Cp⟩:=Kd.R_slice Af.out;subst Cp)|((with_reducible refine gtC (f:=26) rfl ?_);refine clz Try.func26 (some 28) #[.slice Ck Bd.length Cl, .slice Cn Bc.length Co] ?_;(with_reducible refine(gF.calls k1 _ _ Bd _ _ Bc Bp _ ?Aa ?Ab ?Ad ?Ae Dc.out).mono ?_);(case Aa=>exact kC (Kd.S_reads' Ak.out).2.2);(case Ab=>exact(Kd.S_reads' Ak.out).2.1);(case Ad=>exact kC (Kd.R_reads' Af.out).2.2);(case Ae=>exact(Kd.R_reads' Af.out).2.1);rintro e Dm ⟨rfl,hb⟩;refine⟨_,rfl,?_⟩;replace Ag:=Az.mk (Kd.S_below (kS Ag.out) hb);replace Ah:=Az.mk (Kd.R_below (kR Ah.out) hb);replace Af:=Az.mk (Kd.R_below (kR Af.out) hb);replace Ak:=Az.mk (Kd.S_below (kS Ak.out) hb);replace HB:=Az.mk (bwT bw_29 hb);(try clear hb)))
  go_roundg k1
  case measure=>have:=HK1.out;omega
  case rel=>exact⟨(Bd),(Bc),(Bp),rq2,H',⟨by have:=HK1.out;omega⟩,⟨by(with_reducible repeat(first|apply Kd.S_alloc|apply Kd.S_drewN|apply Kd.S_drew));exact Kd.S_mono Ak.out (fun _ hk=>hk.2)⟩,⟨by(with_reducible repeat(first|apply Kd.R_alloc|apply Kd.R_drewN|apply Kd.R_drew));exact Kd.R_mono Af.out (fun _ hk=>trivial)⟩,⟨bw_29⟩⟩
def gB.l0:Nat→List Int→List Int→Int→Option (Bool)
 |0,_,_,_=>none
 |k+1,x0,x1,x5=>if x5<(x0.length:Int) then(if 0≤x5 then(if x5<(x1.length:Int) then(if(rd x0 x5)=(rd x1 x5) then(gB.l0 k x0 x1 (wrap64 (x5+1))) else(some false)) else(none)) else(none)) else(some true)
def gB.f (k:Nat) (l0:List Int) (l1:List Int):Option (Bool):=if(l0.length:Int)=(l1.length:Int) then(gB.l0 k l0 l1 0) else(some false)
theorem gB.calls (k:Nat) (A0:Option Addr) (c0:Nat) (l0:List Int) (A1:Option Addr) (c1:Nat) (l1:List Int) (r:Bool) (w:World) (Av:Kd.C (Kd.int .i64) w A0 l0.length l0) (Ax:l0.length≤c0) (Ay:Kd.C (Kd.int .i64) w A1 l1.length l1) (Ba:l1.length≤c1) (h:gB.f k l0 l1=some r):
  Calls Try.prog 17 #[.slice A0 l0.length c0, .slice A1 l1.length c1] w fun e w'=>e= .returned (.bool r)∧Drawn0 w w':=by
 have Bb:=Az.mk Av
 have Bh:=Az.mk Ax
 clear Av Ax
 have Bc:=Az.mk Ay
 have Bi:=Az.mk Ba
 clear Ay Ba
 have H:=h
 unfold gB.f at H
 clear h
 by_cases c3:(l0.length:Int)=(l1.length:Int)
 rotate_left
 ·rw[ig c3]at H
  have Aj:=beq_eq_false_iff_ne.mpr c3
  have Ak:=bne_iff_ne.mpr c3
  have Al:(l0.length== l1.length)=false:=by first|simpa using c3|(simp at c3 ⊢;omega)
  obtain rfl:=Option.some.inj H
  go_enter Try.func17,Try.ntmps17
  go_wp2
  repeat(go_quiet (fail);try go_wp2)
  go_ret
  exact⟨rq2,kd⟩
 rw[ip c3]at H
 have Aj:=beq_iff_eq.mpr c3
 have Ak:=bne_eq_false_iff_eq.mpr c3
 have Al:(l0.length== l1.length)=true:=by first|simpa using c3|(simp at c3 ⊢;omega)
 clear c3
 have H':=Az.mk H
 clear H
 go_enter Try.func17,Try.ntmps17
 go_wp2
 repeat(go_quiet (fail);try go_wp2)
 go_loopg [5] k (fun kq v5 w'=>∃(Aa:Int),v5= .int .i64 Aa∧Az (gB.l0 kq l0 l1 Aa=some r)∧Az (kq≤k)∧Drawn0 w w')
 case atStart=>exact⟨(0),rq2,H',⟨Nat.le_refl _⟩,kd⟩
 clear H'
 try clear c1
 try clear c3
 try clear Aj
 try clear Ak
 try clear Al
 obtain⟨Aa,rfl,HA,HK1,⟨m1,rfl⟩⟩:=hrel
 cases gk with
 |zero=>exact absurd HA.out (by simp[gB.l0])
 |succ k1=>
  have H:=HA.out
  clear HA
  simp only[gB.l0]at H
  by_cases c4:Aa<(l0.length:Int)
  rotate_left
  ·rw[ig c4]at H
   have Aq:=decide_eq_false c4
   clear c4
   obtain rfl:=Option.some.inj H
   go_wp2
   repeat(go_quiet (fail);try go_wp2)
   go_ret
   exact⟨rq2,kd⟩
  rw[ip c4]at H
  have Aq:=ode c4
  clear c4
  by_cases c5:0≤Aa
  rotate_left
  ·rw[ig c5]at H
   exact absurd H (by simp)
  rw[ip c5]at H
  have Bd:=ode c5
  clear c5
  by_cases c6:Aa<(l1.length:Int)
  rotate_left
  ·rw[ig c6]at H
   exact absurd H (by simp)
  rw[ip c6]at H
  have Bf:=ode c6
  clear c6
  by_cases c7:(rd l0 Aa)=(rd l1 Aa)
  rotate_left
  ·rw[ig c7]at H
   have As:=beq_eq_false_iff_ne.mpr c7
   have Au:=bne_iff_ne.mpr c7
   obtain rfl:=Option.some.inj H
   have Ab:0≤(Aa:Int):=od
   have Ac:Aa<(l0.length:Int):=od
   obtain⟨Am,Ah,Af⟩:=Kd.at_int Bb.out Aa Ab Ac
   cases Ah
   replace Ab:=ets Ab
   replace Ac:=ets Ac
   have Ad:0≤(Aa:Int):=od
   have Ae:Aa<(l1.length:Int):=od
   obtain⟨Ap,Ai,Ag⟩:=Kd.at_int Bc.out Aa Ad Ae
   cases Ai
   replace Ad:=ets Ad
   replace Ae:=ets Ae
   go_wp2
   repeat(go_quiet (fail);try go_wp2)
   go_ret
   exact⟨rq2,kd⟩
  rw[ip c7]at H
  have As:=beq_iff_eq.mpr c7
  have Au:=bne_eq_false_iff_eq.mpr c7
  clear c7
  have H':=Az.mk H
  clear H
  have Ab:0≤(Aa:Int):=od
  have Ac:Aa<(l0.length:Int):=od
  obtain⟨Am,Ah,Af⟩:=Kd.at_int Bb.out Aa Ab Ac
  cases Ah
  replace Ab:=ets Ab
  replace Ac:=ets Ac
  have Ad:0≤(Aa:Int):=od
  have Ae:Aa<(l1.length:Int):=od
  obtain⟨Ap,Ai,Ag⟩:=Kd.at_int Bc.out Aa Ad Ae
  cases Ai
  replace Ad:=ets Ad
  replace Ae:=ets Ae
  go_wp2
  repeat(go_quiet (fail);try go_wp2)
  go_roundg k1
  case measure=>have:=HK1.out;omega
  case rel=>exact⟨(wrap64 (Aa+1)),rq2,H',⟨by have:=HK1.out;omega⟩,kd⟩
def gG.l0:Nat→List (List Int)→List (List Int)→Int→Option (Bool)
 |0,_,_,_=>none
 |k+1,x0,x1,x5=>if x5<(x0.length:Int) then(if 0≤x5 then(if x5<(x1.length:Int) then((gB.f k (rd_L1 x0 x5) (rd_L1 x1 x5)).bind fun t657=>(if t657=true then(gG.l0 k x0 x1 (wrap64 (x5+1))) else(some false))) else(none)) else(none)) else(some true)
def gG.f (k:Nat) (l0:List (List Int)) (l1:List (List Int)):Option (Bool):=if(l0.length:Int)=(l1.length:Int) then(gG.l0 k l0 l1 0) else(some false)
theorem gG.calls (k:Nat) (A0:Option Addr) (c0:Nat) (l0:List (List Int)) (A1:Option Addr) (c1:Nat) (l1:List (List Int)) (r:Bool) (w:World) (Bo:Kd.C (Kd.slice 3 (Kd.int .i64)) w A0 l0.length l0) (Bp:l0.length≤c0) (Bq:Kd.C (Kd.slice 3 (Kd.int .i64)) w A1 l1.length l1) (Br:l1.length≤c1) (h:gG.f k l0 l1=some r):
  Calls Try.prog 16 #[.slice A0 l0.length c0, .slice A1 l1.length c1] w fun e w'=>e= .returned (.bool r)∧Drawn0 w w':=by
 have Bs:=Az.mk Bo
 have Bw:=Az.mk Bp
 clear Bo Bp
 have Bt:=Az.mk Bq
 have Bx:=Az.mk Br
 clear Bq Br
 have H:=h
 unfold gG.f at H
 clear h
 by_cases c3:(l0.length:Int)=(l1.length:Int)
 rotate_left
 ·rw[ig c3]at H
  have Bh:=beq_eq_false_iff_ne.mpr c3
  have Bi:=bne_iff_ne.mpr c3
  have Bj:(l0.length== l1.length)=false:=by first|simpa using c3|(simp at c3 ⊢;omega)
  obtain rfl:=Option.some.inj H
  go_enter Try.func16,Try.ntmps16
  go_wp2
  repeat(go_quiet (fail);try go_wp2)
  go_ret
  exact⟨rq2,kd⟩
 rw[ip c3]at H
 have Bh:=beq_iff_eq.mpr c3
 have Bi:=bne_eq_false_iff_eq.mpr c3
 have Bj:(l0.length== l1.length)=true:=by first|simpa using c3|(simp at c3 ⊢;omega)
 clear c3
 have H':=Az.mk H
 clear H
 go_enter Try.func16,Try.ntmps16
 go_wp2
 repeat(go_quiet (fail);try go_wp2)
 go_loopg [5] k (fun kq v5 w'=>∃(Aa:Int),v5= .int .i64 Aa∧Az (gG.l0 kq l0 l1 Aa=some r)∧Az (kq≤k)∧Drawn0 w w')
 case atStart=>exact⟨(0),rq2,H',⟨Nat.le_refl _⟩,kd⟩
 clear H'
 try clear c1
 try clear c3
 try clear Bh
 try clear Bi
 try clear Bj
 obtain⟨Aa,rfl,HA,HK1,⟨m1,rfl⟩⟩:=hrel
 cases gk with
 |zero=>exact absurd HA.out (by simp[gG.l0])
 |succ k1=>
  have H:=HA.out
  clear HA
  simp only[gG.l0]at H
  by_cases c4:Aa<(l0.length:Int)
  rotate_left
  ·rw[ig c4]at H
   have Bm:=decide_eq_false c4
   clear c4
   obtain rfl:=Option.some.inj H
   go_wp2
   repeat(go_quiet (fail);try go_wp2)
   go_ret
   exact⟨rq2,kd⟩
  rw[ip c4]at H
  have Bm:=ode c4
  clear c4
  by_cases c5:0≤Aa
  rotate_left
  ·rw[ig c5]at H
   exact absurd H (by simp)
  rw[ip c5]at H
  have Bu:=ode c5
  clear c5
  by_cases c6:Aa<(l1.length:Int)
  rotate_left
  ·rw[ig c6]at H
   exact absurd H (by simp)
  rw[ip c6]at H
  have Bv:=ode c6
  clear c6
  replace H:=bez H
  obtain⟨Bn,A7,H⟩:=H
  try dsimp only at H
  by_cases c8:Bn=true
  rotate_left
  ·replace c8:=Bool.eq_false_iff.mpr c8
   subst c8
   rw[ig ff]at H
   obtain rfl:=Option.some.inj H
   have Ap:0≤(Aa:Int):=od
   have Aq:Aa<(l0.length:Int):=od
   obtain⟨Bk,Ay,Ba,Bb,Av,Aj,Ak⟩:=at_L1 Bs.out Aa Ap Aq
   cases Bb
   have Ab:=Az.mk Ak
   have Ac:=Az.mk Aj
   clear Ak Aj
   replace Ap:=ets Ap
   replace Aq:=ets Aq
   have As:0≤(Aa:Int):=od
   have Au:Aa<(l1.length:Int):=od
   obtain⟨Bl,Bc,Bd,Bf,Ax,Al,Am⟩:=at_L1 Bt.out Aa As Au
   cases Bf
   have Ad:=Az.mk Am
   have Ae:=Az.mk Al
   clear Am Al
   replace As:=ets As
   replace Au:=ets Au
   go_wp2_with ((go_at_call 17;(with_reducible refine(gB.calls k1 _ _ (rd_L1 l0 Aa) _ _ (rd_L1 l1 Aa) false _ ?Af ?Ag ?Ah ?Ai A7.out).mono ?_);(case Af=>exact kC Ab.out);(case Ag=>exact Ac.out);(case Ah=>exact kC Ad.out);(case Ai=>exact Ae.out);rintro e w' ⟨rfl,⟨nd,rfl⟩⟩;(try first|exact⟨rfl,_,World.drewN_drewN _ _ _⟩|exact⟨rfl,_,Eq.trans (World.drewN_drewN _ _ _) (congrArg (World.drewN _) (Nat.add_assoc _ _ _))⟩)))
   repeat(go_quiet ((go_at_call 17;(with_reducible refine(gB.calls k1 _ _ (rd_L1 l0 Aa) _ _ (rd_L1 l1 Aa) false _ ?Af ?Ag ?Ah ?Ai A7.out).mono ?_);(case Af=>exact kC Ab.out);(case Ag=>exact Ac.out);(case Ah=>exact kC Ad.out);(case Ai=>exact Ae.out);rintro e w' ⟨rfl,⟨nd,rfl⟩⟩;(try first|exact⟨rfl,_,World.drewN_drewN _ _ _⟩|exact⟨rfl,_,Eq.trans (World.drewN_drewN _ _ _) (congrArg (World.drewN _) (Nat.add_assoc _ _ _))⟩)));try go_wp2_with ((go_at_call 17;(with_reducible refine(gB.calls k1 _ _ (rd_L1 l0 Aa) _ _ (rd_L1 l1 Aa) false _ ?Af ?Ag ?Ah ?Ai A7.out).mono ?_);(case Af=>exact kC Ab.out);(case Ag=>exact Ac.out);(case Ah=>exact kC Ad.out);(case Ai=>exact Ae.out);rintro e w' ⟨rfl,⟨nd,rfl⟩⟩;(try first|exact⟨rfl,_,World.drewN_drewN _ _ _⟩|exact⟨rfl,_,Eq.trans (World.drewN_drewN _ _ _) (congrArg (World.drewN _) (Nat.add_assoc _ _ _))⟩))))
   go_ret
   exact⟨rq2,kd⟩
  subst c8
  rw[ip rfl]at H
  have H':=Az.mk H
  clear H
  have Ap:0≤(Aa:Int):=od
  have Aq:Aa<(l0.length:Int):=od
  obtain⟨Bk,Ay,Ba,Bb,Av,Aj,Ak⟩:=at_L1 Bs.out Aa Ap Aq
  cases Bb
  have Ab:=Az.mk Ak
  have Ac:=Az.mk Aj
  clear Ak Aj
  replace Ap:=ets Ap
  replace Aq:=ets Aq
  have As:0≤(Aa:Int):=od
  have Au:Aa<(l1.length:Int):=od
  obtain⟨Bl,Bc,Bd,Bf,Ax,Al,Am⟩:=at_L1 Bt.out Aa As Au
  cases Bf
  have Ad:=Az.mk Am
  have Ae:=Az.mk Al
  clear Am Al
  replace As:=ets As
  replace Au:=ets Au
  go_wp2_with ((go_at_call 17;(with_reducible refine(gB.calls k1 _ _ (rd_L1 l0 Aa) _ _ (rd_L1 l1 Aa) true _ ?Af ?Ag ?Ah ?Ai A7.out).mono ?_);(case Af=>exact kC Ab.out);(case Ag=>exact Ac.out);(case Ah=>exact kC Ad.out);(case Ai=>exact Ae.out);rintro e w' ⟨rfl,⟨nd,rfl⟩⟩;(try first|exact⟨rfl,_,World.drewN_drewN _ _ _⟩|exact⟨rfl,_,Eq.trans (World.drewN_drewN _ _ _) (congrArg (World.drewN _) (Nat.add_assoc _ _ _))⟩)))
  repeat(go_quiet ((go_at_call 17;(with_reducible refine(gB.calls k1 _ _ (rd_L1 l0 Aa) _ _ (rd_L1 l1 Aa) true _ ?Af ?Ag ?Ah ?Ai A7.out).mono ?_);(case Af=>exact kC Ab.out);(case Ag=>exact Ac.out);(case Ah=>exact kC Ad.out);(case Ai=>exact Ae.out);rintro e w' ⟨rfl,⟨nd,rfl⟩⟩;(try first|exact⟨rfl,_,World.drewN_drewN _ _ _⟩|exact⟨rfl,_,Eq.trans (World.drewN_drewN _ _ _) (congrArg (World.drewN _) (Nat.add_assoc _ _ _))⟩)));try go_wp2_with ((go_at_call 17;(with_reducible refine(gB.calls k1 _ _ (rd_L1 l0 Aa) _ _ (rd_L1 l1 Aa) true _ ?Af ?Ag ?Ah ?Ai A7.out).mono ?_);(case Af=>exact kC Ab.out);(case Ag=>exact Ac.out);(case Ah=>exact kC Ad.out);(case Ai=>exact Ae.out);rintro e w' ⟨rfl,⟨nd,rfl⟩⟩;(try first|exact⟨rfl,_,World.drewN_drewN _ _ _⟩|exact⟨rfl,_,Eq.trans (World.drewN_drewN _ _ _) (congrArg (World.drewN _) (Nat.add_assoc _ _ _))⟩))))
  go_roundg k1
  case measure=>have:=HK1.out;omega
  case rel=>exact⟨(wrap64 (Aa+1)),rq2,H',⟨by have:=HK1.out;omega⟩,kd⟩
section
open Bool renaming true → T, false → F
abbrev tt_k:Kd (List Int × Nat):=Kd.tag (fun k:Nat=>k) (Kd.slice 3 (Kd.int .i64))
theorem tt_some {α:Type}{d:Kd α}{e:Nat}{w:World}{base:Nat}{ok:Nat→Prop}{A:Option Addr}{n c:Nat}{out:List α} (HO:d.R e w base ok (.slice A n c) out) (h1:0<out.length):∃g:Nat,A=some ⟨g,0,none⟩:=by
 obtain⟨g,cap,eg,_⟩:=Kd.R_form HO h1
 injection eg with ea en ec
 exact⟨g,ea⟩
/-- A row of one's own, read: its header, and it. -/
theorem tt_at {w:World}{base:Nat}{ok:Nat→Prop}{g n c:Nat}{out:List (List Int × Nat)} (HO:tt_k.R 25 w base ok (.slice (some ⟨g,0,none⟩) n c) out){Z:Int} (h0:0≤Z) (h1:Z<(out.length:Int)):
  ∃A1 c1,w.cell? ⟨g,Z.toNat,none⟩=some (.slice A1 (rd_L1 (out.map Prod.fst) Z).length c1)∧(Z<(n:Int))∧Kd.R (Kd.int .i64) 3 w base (fun _=>True) (.slice A1 (rd_L1 (out.map Prod.fst) Z).length c1) (rd_L1 (out.map Prod.fst) Z):=by
 have hn:=(Kd.R_reads' HO).1
 obtain⟨cs,hcl,hM,hcc,_⟩:=Kd.R_elem HO (([]:List Int),0) Z h0 (by omega)
 obtain⟨v,rfl,hv⟩:=hM
 have e:rd_L1 (out.map Prod.fst) Z=(out.getD Z.toNat (([]:List Int),0)).1:=by
  unfold rd_L1
  rw[List.getD_eq_getElem?_getD,List.getD_eq_getElem?_getD,List.getElem?_map]
  cases out[Z.toNat]? <;> rfl
 rw[e]
 obtain⟨A1,c1,rfl⟩:=Kd.R_slice hv
 have hc:=hcc 0 _ rfl
 have e2:Z.toNat*tt_k.sz+0=Z.toNat:=by show Z.toNat*1+0=_;omega
 rw[e2]at hc
 exact⟨A1,c1,hc,by omega,Kd.R_mono hv (fun _ _=>trivial)⟩
theorem tt_first {w:World}{base:Nat}{ok:Nat→Prop}{A:Option Addr}{n c:Nat}{x:List Int} (HO:Kd.R (Kd.int .i64) 3 w base ok (.slice A n c) x) (h1:0<x.length):∃g:Nat,A=some ⟨g,0,none⟩∧w.cell? ⟨g,0,none⟩=some (.int .i64 (rd x 0)):=by
 obtain⟨g,rfl⟩:=tt_some HO h1
 have hn:=(Kd.R_reads' HO).1
 exact⟨g,rfl,(Kd.R_celln 0 HO 0 (by omega) (by omega)).1⟩
theorem tt_own {w:World}{base g n c:Nat}{ok:Nat→Prop}{out:List (List Int × Nat)} (HO:tt_k.R 25 w base ok (.slice (some ⟨g,0,none⟩) n c) out):∃(cur inner:List Value),w.heap[g]?= some (.cells cur.toArray 25 (0,0))∧n≤c∧c≤maxLen∧cur.length=c∧cur.take n=inner∧base≤g∧Reps (tt_k.M w base (fun k=>ok k∧some k≠some g)) 1 out inner∧(∀v∈inner,v.oneCell'=true)∧(∀i v,inner[i]?= some v→w.cell? ⟨g,i,none⟩=some v):=by
 have hn:=(Kd.R_reads' HO).1
 obtain⟨h1,inner,h2,hr⟩:=HO
 have hcell:∀i v,inner[i]?= some v→w.cell? ⟨g,i,none⟩=some v:=fun i v hi=>by
  have:=h2.cells (g:=g) (by simp[Value.ownBlock]) _ v hi
  rwa [add_plain]at this
 have hone:∀v∈inner,v.oneCell'=true:=Kd.reps_one hr (Nat.zero_lt_one) (fun p cs h=>tt_k.K_one (tt_k.K_of_M h))
 rcases h2.2 with ⟨h2,_⟩|⟨g',cap,cur,e1,e2,e3,e4,e5,e6,e7⟩
 ·cases h2
 injection e1 with ea eb ec
 injection ea with ea
 injection ea with ea
 subst ea
 subst ec
 have e6':cur.size=c*1:=e6
 have e7':cur.toList.take (out.length*1)=inner:=e7
 refine⟨cur.toList,inner,by rw[Array.toArray_toList];exact e3,by omega,e5,by rw[Array.length_toList];omega,by rw[Nat.mul_one]at e7';rw[hn];exact e7',e2,?_,hone,hcell⟩
 exact hr.imp_ (fun p cs h=>tt_k.M_mono (fun k hk=>⟨hk.1,by simpa[Value.ownBlock] using hk.2⟩) h)
theorem tt_back {W W4:World}{base g n c q:Nat}{out:List (List Int × Nat)}{z:List Int × Nat}{inner cur:List Value} (hn:n=out.length+1) (hq:q≤out.length) (hr:Reps (tt_k.M W base (fun k=>True∧some k≠some g)) 1 (out ++ [z]) inner) (h1:n≤c) (h2:c≤maxLen) (h3:cur.length=c) (h4:cur.take n=inner) (h5:base≤g)
  (hg:W4.heap[g]?= some (.cells (splice cur (q+1) ((inner.take out.length).drop q)).toArray 25 (0,0))) (hw:W.grownBy W4 (some g)):tt_k.R 25 W4 base (fun _=>True) (.slice (some ⟨g,0,none⟩) n c) ((out ++ [z]).take (q+1) ++ out.drop q):=by
 have hil:inner.length=n:=by have:=hr.1;rw[List.length_append]at this;simp at this;omega
 have hl:((out ++ [z]).take (q+1) ++ out.drop q).length=n:=by rw[List.length_append,List.length_take,List.length_drop,List.length_append];simp;omega
 have Aa:Reps (tt_k.M W4 base (fun k=>True∧some k≠(Value.slice (some ⟨g,0,none⟩) n c).ownBlock)) 1 (out ++ [z]) inner:=hr.imp_ (fun p cs h=>tt_k.M_mono (fun k hk=>⟨hk.1,by simpa[Value.ownBlock] using hk.2⟩) (Kd.M_grown h hw (fun k hk=>hk.2)))
 have ra:=Kd.reps_take (m:=q+1) Aa (by rw[List.length_append];simp;omega)
 have rb:=Kd.reps_drop (m:=q) (Kd.reps_take (m:=out.length) Aa (by rw[List.length_append];simp))
 rw[List.take_left' rfl]at rb
 rw[Nat.mul_one]at ra
 rw[Nat.mul_one,Nat.mul_one]at rb
 refine⟨fun _ _=>trivial,inner.take (q+1) ++ (inner.take out.length).drop q,?_,Kd.reps_append ra rb⟩
 have hlc:((inner.take out.length).drop q).length=out.length - q:=by rw[List.length_drop,List.length_take];omega
 refine⟨by show _=_*1;rw[hl,Nat.mul_one,List.length_append,List.length_take,hlc];omega, .inr ⟨g,c,_,by rw[hl],h5,hg,by rw[hl];exact h1,h2,?_,?_⟩⟩
 ·show _=_*1
  rw[List.size_toArray,length_splice _ _ _ (by rw[hlc];omega),h3,Nat.mul_one]
 show List.take (_*1) _=_
 rw[hl,Nat.mul_one]
 unfold splice
 have e1:cur.take (q+1)=inner.take (q+1):=by
  rw[←h4,List.take_take,Nat.min_eq_left (by omega)]
 rw[List.toList_toArray, ←List.append_assoc,List.take_append_of_le_length (by rw[List.length_append,List.length_take,hlc];omega),e1,List.take_of_length_le (by rw[List.length_append,List.length_take,hlc];omega)]
theorem tt_ne {W:World}{base g n c N:Nat}{out:List (List Int × Nat)}{A1:Option Addr}{n1 c1:Nat}{x:List Int} (HO:tt_k.R 25 W base (fun _=>True) (.slice (some ⟨g,0,none⟩) n c) out) (hx:Kd.R (Kd.int .i64) 3 W base (fun _=>True) (.slice A1 n1 c1) x):Kd.R (Kd.int .i64) 3 W base (fun k=>True∧k≠g) (.slice A1 n1 c1) x:=by
 obtain⟨cells,hc⟩:=Kd.R_typed HO g (by simp[Value.ownBlock])
 exact Kd.R_types hx hc (fun q hq=>by
  have:q=3:=by simpa[Kd.int,Kd.scalar] using hq
  subst this
  decide)
/-- A row laid into its place. -/
theorem tt_put {W:World}{base g n c go co:Nat}{w0:World}{out:List (List Int × Nat)}{x:List Int} (HO:tt_k.R 25 W base (fun _=>True) (.slice (some ⟨g,0,none⟩) n c) out) (HB:Below base w0 W) (hx:Kd.R (Kd.int .i64) 3 W base (fun _=>True) (.slice (some ⟨go,0,none⟩) x.length co) x){Z:Int} (h0:0≤Z) (h1:Z<(out.length:Int)):
  Az (∀W',Drawn0 W W'→tt_k.R 25 (W'.setCell ⟨g,Z.toNat,none⟩ (.slice (some ⟨go,0,none⟩) x.length co)) base (fun _=>True) (.slice (some ⟨g,0,none⟩) n c) (out.set Z.toNat (x,go))∧Below base w0 (W'.setCell ⟨g,Z.toNat,none⟩ (.slice (some ⟨go,0,none⟩) x.length co))):=by
 refine⟨?_⟩
 rintro W' ⟨m,rfl⟩
 have HO':=Kd.R_drewN HO m
 have hx':=Kd.R_tight rfl (tt_ne (N:=0) HO' (Kd.R_drewN hx m))
 have hn:=(Kd.R_reads' HO').1
 have hbg:=Kd.R_base HO' g (by simp[Value.ownBlock])
 have hne:go≠g:=by
  have:=(tt_ne (N:=0) HO' (Kd.R_drewN hx m)).1 go (by simp[Value.ownBlock])
  exact this.2
 obtain⟨cs,hcl,_,hcc,_⟩:=Kd.R_elem HO' (([]:List Int),0) Z h0 (by omega)
 have Aa:cs.length=1:=hcl
 obtain⟨u,rfl⟩:=List.length_eq_one_iff.1 Aa
 have hseg:=Kd.R_seg HO' Z h0 (by omega) hcl hcc (j:=0) (seg:=[.slice (some ⟨go,0,none⟩) x.length co]) (by show 0+1≤1;omega) (x':=(x,go)) (okp:=fun k=>k=go) (by
  refine⟨_,rfl,?_⟩
  exact Kd.R_mono hx' (fun k hk=>by
   have:k=go:=by simpa[Value.ownBlock] using hk
   exact⟨this,this⟩)) (fun k hk=>⟨trivial,by rw[hk];exact hne⟩)
 have e2:Z.toNat*tt_k.sz+0=Z.toNat:=by show Z.toNat*1+0=_;omega
 rw[e2]at hseg
 exact⟨hseg.1,(pbN HB m).setCell hbg _⟩
theorem tt_putL {α:Type}{out:List α}{z X:α}{q:Nat} (hq:q≤out.length):((out ++ [z]).take (q+1) ++ out.drop q).set q X=out.take q ++ (X :: out.drop q):=by
 have hl:((out ++ [z]).take (q+1)).length=q+1:=by rw[List.length_take,List.length_append];simp;omega
 rw[List.set_append_left _ _ (by omega)]
 have e:(out ++ [z]).take (q+1)=out.take q ++ [(out ++ [z])[q]'(by rw[List.length_append];simp;omega)]:=by
  rw[List.take_succ_eq_append_getElem (by rw[List.length_append];simp;omega),List.take_append_of_le_length hq]
 rw[e,List.set_append_right _ _ (by rw[List.length_take];omega),List.length_take,show q - min q out.length=0 by omega,List.set_cons_zero,List.append_assoc]
 rfl
/-- Labels that are all different: the rows lie apart. -/
theorem tt_S {w:World}{base:Nat}{v:Value}{out:List (List Int × Nat)} (HO:tt_k.R 25 w base (fun _=>True) v out) (hd:(out.map Prod.snd).Nodup):Kd.S (Kd.slice 3 (Kd.int .i64)) 25 w base (fun _=>True) v (out.map Prod.fst):=by
 obtain⟨h0,inner,ho,hr⟩:=HO
 refine⟨fun k=>(out.map Prod.snd).idxOf k,h0,inner,by rw[List.length_zipIdx,List.length_map];exact ho,by rw[List.length_zipIdx,List.length_map];exact hr.1,fun j p hj=>?_⟩
 rw[List.getElem?_zipIdx,Nat.zero_add,List.getElem?_map]at hj
 obtain⟨x,hx,rfl⟩:=Option.map_eq_some_iff.1 hj
 obtain⟨y,hy,rfl⟩:=Option.map_eq_some_iff.1 hx
 obtain⟨hlt,ey⟩:=List.getElem?_eq_some_iff.1 hy
 have hM:(Kd.slice 3 (Kd.int .i64)).M w base (fun k=>(True∧some k≠v.ownBlock)∧k=y.2) y.1 ((inner.drop (j*1)).take 1):=hr.2 j y hy
 refine(Kd.slice 3 (Kd.int .i64)).M_mono (fun k hk=>⟨hk.1,?_⟩) hM
 rw[hk.2, ←ey]
 have:=hd.idxOf_getElem j (by rw[List.length_map];exact hlt)
 rw[List.getElem_map]at this
 exact this
theorem tt_labels {α:Type}{out:List (α × Nat)}{N go:Nat}{X:α}{q:Nat} (hd:(out.map Prod.snd).Nodup) (hN:∀p∈out,p.2<N) (hg:N≤go):((out.take q ++ ((X,go) :: out.drop q)).map Prod.snd).Nodup∧∀p∈out.take q ++ ((X,go) :: out.drop q),p.2<go+1:=by
 have hp:List.Perm (out.take q ++ ((X,go) :: out.drop q)) ((X,go) :: out):=by
  refine List.perm_middle.trans ?_
  rw[List.take_append_drop]
 refine⟨?_,fun p hp'=>?_⟩
 ·refine(hp.map Prod.snd).nodup_iff.2 ?_
  rw[List.map_cons]
  refine List.nodup_cons.2 ⟨fun h=>?_,hd⟩
  obtain⟨p,hp1,hp2⟩:=List.mem_map.1 h
  have:=hN p hp1
  omega
 rcases List.mem_cons.1 (hp.mem_iff.1 hp')with rfl|h
 ·show go<go+1
  omega
 have:=hN p h
 omega
open Go.RowKit in
theorem step_copy_keep {P:Program}{ops:Array Oper}{o:Oper}{a:Act}{w:World}{K:Act→World→Prop}{Q:Exit→Act→World→Prop}{E:Prop} (hgd:o.guard=none) (d s:Operand) (dT sT:TypeId)
  (ho:o.op= .call { callee:= .builtin .copy,args:= #[d,s],argTypes:= #[dT,sT] }) (elem:TypeId) (hu:P.underlying dT=some (.slice elem)) (hsz:(P.info? elem).map (·.size)=some 1)
  (dp sp:Option Addr) (dLen dCap sLen sCap:Nat) (hd:a.eval d= .slice dp dLen dCap) (hs:a.eval s= .slice sp sLen sCap)
  (g off:Nat) (cur:List Value) (t:TypeId) (hg:w.heap[g]?= some (.cells cur.toArray t (0,0))) (cs:List Value) (hn:cs.length=Nat.min sLen dLen)
  (hpos:0<cs.length→dp=some ⟨g,off,none⟩∧∃ad,sp=some ad∧∀j v,cs[j]?= some v→w.cell? (ad.add j)=some v)
  (hfit:off+cs.length≤cur.length) (h1:∀v∈cs,v.oneCell'=true)
  (h:∀w',Az (w'.heap[g]?= some (.cells (splice cur off cs).toArray t (0,0)))→Az (w.grownBy w' (some g))→K (a.put o.dst (goInt cs.length)) w'):
  if Region.wanted o (yielded ops a.tmps)=true then Oper.wp P o a w K Q else E:=by
 have hw:Region.wanted o (yielded ops a.tmps)=true:=by simp[Region.wanted,hgd]
 rw[ip hw]
 by_cases h0:cs.length=0
 ·obtain rfl:cs=[]:=List.eq_nil_of_length_eq_zero h0
  have hrun:=run_copy_none (P:=P) w dT sT o.type elem dp sp dLen dCap sLen sCap hu hsz (by simpa using hn.symm)
  unfold Oper.wp
  simp[execOp,ho,resolve,invoke,builtin,hd,hs,hrun,Result.andThen]
  exact h w ⟨by simpa[splice] using hg⟩ ⟨⟨rfl,rfl,rfl,Nat.le_refl _,fun _ _ _=>rfl⟩⟩
 obtain⟨rfl,ad,rfl,hsrc⟩:=hpos (by omega)
 have hrun:=run_copy_row (P:=P) w dT sT o.type elem g off dLen dCap ad sLen sCap cur.toArray t cs hu hsz hg hn hsrc (by simpa using hfit) h1
 unfold Oper.wp
 simp[execOp,ho,resolve,invoke,builtin,hd,hs,hrun,Result.andThen]
 exact h _ ⟨by simpa[splice] using setRow_heap w g _ _ t _ hg⟩ ⟨⟨rfl,rfl,rfl,by simp[World.setRow],fun k _ hk=>setRow_other w g k _ (fun e=>hk (by rw[e]))⟩⟩
theorem tt_w {q:Int}{n:Nat} (h0:0≤q) (h1:q≤(n:Int)) (h2:n<5864062014805):wrap64 (q+1)=q+1:=by
 unfold wrap64
 omega
theorem tt_w1 {q:Int}{n:Nat} (h0:q>0) (h1:q≤(n:Int)) (h2:n<5864062014805):wrap64 (q - 1)=q - 1:=by
 unfold wrap64
 omega
theorem tt_ht:∀q,q∈3 :: (Kd.int .i64).E→q≠25:=fun q hq=>by
 have:q=3:=by simpa[Kd.int,Kd.scalar] using hq
 subst this
 decide
theorem tt_cell {w:World}{base:Nat}{ok:Nat→Prop}{g n c:Nat}{out:List (List Int × Nat)} (HO:tt_k.R 25 w base ok (.slice (some ⟨g,0,none⟩) n c) out){Z:Int} (h0:0≤Z) (h1:Z<(out.length:Int)):
  ∃u,w.cell? ⟨g,Z.toNat,none⟩=some u∧w.frozen? ⟨g,Z.toNat,none⟩=false∧(Z<(n:Int)):=by
 have hn:=(Kd.R_reads' HO).1
 obtain⟨cs,hcl,hM,hcc,hf⟩:=Kd.R_elem HO (([]:List Int),0) Z h0 (by omega)
 obtain⟨v,rfl,hv⟩:=hM
 have hc:=hcc 0 _ rfl
 have Aa:=hf 0
 have e2:Z.toNat*tt_k.sz+0=Z.toNat:=by show Z.toNat*1+0=_;omega
 rw[e2]at hc Aa
 exact⟨v,hc,Aa,by omega⟩
theorem tt_head {w:World}{base:Nat}{ok:Nat→Prop}{g n c:Nat}{x:List Int} (HO:Kd.R (Kd.int .i64) 3 w base ok (.slice (some ⟨g,0,none⟩) n c) x) (h1:0<x.length):w.cell? ⟨g,0,none⟩=some (.int .i64 (rd x 0)):=by
 have hn:=(Kd.R_reads' HO).1
 exact(Kd.R_celln 0 HO 0 (by omega) (by omega)).1
/-- Behind the store: the row, what lies below, and the labels. -/
theorem tt_done {W:World}{base g n c go co:Nat}{w0:World}{ps:List (List Int × Nat)}{z:List Int × Nat}{x:List Int}{q:Int} (hq0:0≤q) (hq1:q≤(ps.length:Int)) (HO:tt_k.R 25 W base (fun _=>True) (.slice (some ⟨g,0,none⟩) n c) ((ps ++ [z]).take (q.toNat+1) ++ ps.drop q.toNat)) (HB:Below base w0 W) (hx:Kd.R (Kd.int .i64) 3 W base (fun _=>True) (.slice (some ⟨go,0,none⟩) x.length co) x) (hL:(ps.map Prod.snd).Nodup∧∀p∈ps,p.2<go):
  Az (∀W',Drawn0 W W'→tt_k.R 25 (W'.setCell ⟨g,q.toNat,none⟩ (.slice (some ⟨go,0,none⟩) x.length co)) base (fun _=>True) (.slice (some ⟨g,0,none⟩) n c) (ps.take q.toNat ++ ((x,go) :: ps.drop q.toNat))∧Below base w0 (W'.setCell ⟨g,q.toNat,none⟩ (.slice (some ⟨go,0,none⟩) x.length co))∧((ps.take q.toNat ++ ((x,go) :: ps.drop q.toNat)).map Prod.snd).Nodup∧∀p∈ps.take q.toNat ++ ((x,go) :: ps.drop q.toNat),p.2<(W'.setCell ⟨g,q.toNat,none⟩ (.slice (some ⟨go,0,none⟩) x.length co)).heap.size):=by
 refine⟨fun W' hW=>?_⟩
 have Aa:((ps ++ [z]).take (q.toNat+1) ++ ps.drop q.toNat).length=ps.length+1:=by rw[List.length_append,List.length_take,List.length_drop,List.length_append];simp;omega
 obtain⟨h1,h2⟩:=(tt_put HO HB hx hq0 (by omega)).out W' hW
 rw[tt_putL (by omega)]at h1
 obtain⟨h3,h4⟩:=tt_labels (X:=x) (q:=q.toNat) hL.1 hL.2 (Nat.le_refl go)
 refine⟨h1,h2,h3,fun p hp=>?_⟩
 have h5:=h4 p hp
 have hgo:go<(W'.setCell ⟨g,q.toNat,none⟩ (.slice (some ⟨go,0,none⟩) x.length co)).heap.size:=by
  obtain⟨m,rfl⟩:=hW
  have a1:=Kd.R_lt (Kd.R_drewN hx m) go (by simp[Value.ownBlock])
  have a2:=((Below.refl g (W.drewN m)).setCell (p:=⟨g,q.toNat,none⟩) (Nat.le_refl g) (.slice (some ⟨go,0,none⟩) x.length co)).size
  exact Nat.lt_of_lt_of_le a1 a2
 omega
theorem tt_map {ps:List (List Int × Nat)}{x:List Int}{go q:Nat}:(ps.take q ++ ((x,go) :: ps.drop q)).map Prod.fst=(ps.map Prod.fst).take q ++ (x :: (ps.map Prod.fst).drop q):=by
 rw[List.map_append,List.map_cons,List.map_take,List.map_drop]
mutual
def fA.l0:Nat→List (List Int)→List (List Int)→Int→Option (List (List Int))
 |0,_,_,_=>none
 |k+1,t,out,i=>if i<(t.length:Int) then(if 0≤i then fA.l1 k t out i 0 0 else none)else some out
def fA.l1:Nat→List (List Int)→List (List Int)→Int→Int→Int→Option (List (List Int))
 |0,_,_,_,_,_=>none
 |k+1,t,out,i,m,j=>if j<((rd_L1 t i).length:Int) then(if 0≤j then(if 0≤m then(if m<((rd_L1 t i).length:Int) then(if rd (rd_L1 t i) j<rd (rd_L1 t i) m then fA.l1 k t out i j (wrap64 (j+1))else fA.l1 k t out i m (wrap64 (j+1)))else none)else none)else none) else((gU.f (rd_L1 t i) m).bind fun own=>(if 0<own.length then fA.l2 k t out i own (out.length:Int)else none))
def fA.l2:Nat→List (List Int)→List (List Int)→Int→List Int→Int→Option (List (List Int))
 |0,_,_,_,_,_=>none
 |k+1,t,out,i,own,q=>if 0≤q then(if q≤(out.length:Int) then(if out.length<5864062014805 then(if q>0 then(if 0<(rd_L1 out (q - 1)).length then(if rd (rd_L1 out (q - 1)) 0>rd own 0 then fA.l2 k t out i own (q - 1)else fA.l0 k t (out.take q.toNat ++ (own :: out.drop q.toNat)) (wrap64 (i+1)))else none)else fA.l0 k t (out.take q.toNat ++ (own :: out.drop q.toNat)) (wrap64 (i+1)))else none)else none)else none
end
def fA.f (k:Nat) (t:List (List Int)):Option (List (List Int)):=(fC.f k t).bind fun b=>if b=true then fA.l0 k t [] 0 else some []
def fA.T19:Bool × List (List Nat × List Nat):=(true,[([],[]),([],[]),([1],[1]),([0,2],[0,2]),([],[]),([],[]),([4,5],[4,5]),([3,6],[3,6])])
def fA.B19:List Nat:=[0,0,2,7,0,0,48,127]
theorem fA.tab19:rtab .any (opsOf Try.f21 19)=fA.T19:=by kernel_rfl
theorem fA.bits19:waitsOk fA.T19.2 fA.B19=true:=by kernel_rfl
set_option maxHeartbeats 16000000 in
theorem fA.calls (k:Nat) (A0:Option Addr) (c0:Nat) (l0:List (List Int)) (r:List (List Int)) (w:World) (Ax:Kd.C (Kd.slice 3 (Kd.int .i64)) w A0 l0.length l0) (Ay:l0.length≤c0) (h:fA.f k l0=some r):
  Calls Try.prog 21 #[.slice A0 l0.length c0] w fun e w'=>∃v0_:Value,e= .returned (v0_)∧Kd.S (Kd.slice 3 (Kd.int .i64)) 25 w' w.heap.size (fun _=>True) v0_ r∧Below w.heap.size w w':=by
 have Af:=Az.mk Ax
 have Ba:=Az.mk Ay
 clear Ax Ay
 have HBs:=Az.mk (Below.refl w.heap.size w)
 unfold fA.f at h
 replace h:=Option.bind_eq_some_iff.mp h
 obtain⟨b,T0,h⟩:=h
 have T0:=Az.mk T0
 by_cases p1:b=true
 rotate_left
 ·rw[ig p1]at h
  replace p1:=Bool.eq_false_iff.mpr p1
  subst p1
  obtain rfl:=Option.some.inj h
  go_enter Try.func21,Try.ntmps21
  go_wp2_with (first
   |(go_at_call 45;refine(fC.calls k A0 c0 l0 false _ (by first|exact Kd.C_drewN Af.out _|exact Af.out) Ba.out T0.out).mono ?_;rintro e W0 ⟨rfl,hb⟩;have HB0:=Az.mk (bwT (by first|exact HBs.out|exact pbN HBs.out _) hb);clear hb T0 HBs))
  go_ret
  exact⟨_,rfl,Kd.S_nil _ _ _ _ _,by first|exact HB0.out|exact pbN HB0.out _⟩
 rw[ip p1]at h
 subst p1
 have H':=Az.mk h
 clear h
 go_enter Try.func21,Try.ntmps21
 go_wp2_with (first
  |(go_at_call 45;refine(fC.calls k A0 c0 l0 true _ (by first|exact Kd.C_drewN Af.out _|exact Af.out) Ba.out T0.out).mono ?_;rintro e W0 ⟨rfl,hb⟩;have HB0:=Az.mk (bwT (by first|exact HBs.out|exact pbN HBs.out _) hb);clear hb T0 HBs)
  |((with_reducible refine gtD (N:=14) rfl ?_);refine Kd.R_lit tt_k _ 25 ?hg (N:=14) ?hd (xs:=([]:List (List Int × Nat))) (inner:=[]) (ok:=fun _=>True) (okp:=fun _=>True) ?hr ?hp (fun _ hk=>hk) trivial (Below.refl _ _) (Nat.le_refl _) (by simp) ?_;(case hd=>rfl);(case hg=>rfl);(case hr=>first|(go_simp;done)|(go_simp;rfl));(case hp=>exact Reps.none _ _);intro v1 W1 ho hb hg hat;have HO:=Az.mk (Kd.R_lower (base':=w.heap.size) ho (by first|exact HB0.out.size|exact(pbN HB0.out _).size));have HB:=Az.mk (bwT (by first|exact HB0.out|exact pbN HB0.out _) hb);clear ho hb hg hat HB0;obtain⟨A,c,e2⟩:=Kd.R_slice HO.out;subst e2))
 go_loopg [3,17] k (fun kq v3 Bd w'=>∃(ps:List (List Int × Nat)) (i_1:Int) (A:Option Addr) (c:Nat),v3= .slice A ps.length c∧Bd= .int .i64 i_1∧Az (fA.l0 kq l0 (ps.map Prod.fst) i_1=some r)∧Az (kq≤k)∧Az (tt_k.R 25 w' w.heap.size (fun _=>True) (.slice A ps.length c) ps)∧Az (Below w.heap.size w w')∧Az ((ps.map Prod.snd).Nodup∧∀p∈ps,p.2<w'.heap.size))
 case atStart=>exact⟨[],0,_,_,rfl,rfl,H',⟨Nat.le_refl _⟩,HO,HB,⟨List.nodup_nil,fun p hp=>by cases hp⟩⟩
 clear H' HO HB
 obtain⟨ps,i_1,A,c,rfl,rfl,HA,HK1,HO,HB,HLB⟩:=hrel
 cases gk with
 |zero=>exact absurd HA.out (by simp[fA.l0])
 |succ k1=>
  have H:=HA.out
  clear HA
  simp only[fA.l0]at H
  by_cases b1:i_1<(l0.length:Int)
  rotate_left
  ·rw[ig b1]at H
   have b1b:decide (i_1<(l0.length:Int))=false:=decide_eq_false b1
   clear b1
   obtain rfl:=Option.some.inj H
   go_wp2
   go_ret
   exact⟨_,rfl,tt_S (by first|exact HO.out|exact Kd.R_drewN HO.out _) HLB.out.1,by first|exact HB.out|exact pbN HB.out _⟩
  rw[ip b1]at H
  by_cases b0:0≤i_1
  rotate_left
  ·rw[ig b0]at H
   exact absurd H (by simp)
  rw[ip b0]at H
  obtain⟨Bl,A5,c5,e5,Aq,As,Au⟩:=at_L1 Af.out i_1 b0 b1
  cases e5
  replace Aq:=kc HB Aq
  obtain⟨sd,hsd⟩:∃s_:List Int,rd_L1 l0 i_1=s_:=⟨_,rfl⟩
  rw[hsd]at Aq As Au
  have HCs:=Az.mk Au
  have HLs:=Az.mk As
  have HSD:=Az.mk hsd
  have b1b:=ode b1
  replace b0:=ets b0
  replace b1:=ets b1
  have H':=Az.mk H
  clear H hsd Au As
  go_wp2
  go_loopg [6,23] k1 (fun kq v6 Bf w'=>∃(m_1 j_1:Int),v6= .int .i64 m_1∧Bf= .int .i64 j_1∧Az (fA.l1 kq l0 (ps.map Prod.fst) i_1 m_1 j_1=some r)∧Az (kq≤k1)∧Az (tt_k.R 25 w' w.heap.size (fun _=>True) (.slice A ps.length c) ps)∧Az (Below w.heap.size w w')∧Az ((ps.map Prod.snd).Nodup∧∀p∈ps,p.2<w'.heap.size))
  case atStart=>exact⟨0,0,rfl,rfl,H',⟨Nat.le_refl _⟩,⟨by first|exact HO.out|exact Kd.R_drewN HO.out _⟩,⟨by first|exact HB.out|exact pbN HB.out _⟩,⟨HLB.out.1,fun p hp=>by first|exact HLB.out.2 p hp|exact Nat.lt_of_lt_of_le (HLB.out.2 p hp) (pbN (Below.refl 0 _) _).size⟩⟩
  clear H' HO HB HLB Aq
  obtain⟨m_1,j_1,rfl,rfl,HA,HK2,HO,HB,HLB⟩:=hrel
  cases gk with
  |zero=>exact absurd HA.out (by simp[fA.l1])
  |succ k2=>
   have H:=HA.out
   clear HA
   simp only[fA.l1]at H
   rw[HSD.out]at H
   by_cases c1:j_1<(sd.length:Int)
   ·rw[ip c1]at H
    by_cases c2:0≤j_1
    rotate_left
    ·rw[ig c2]at H
     exact absurd H (by simp)
    rw[ip c2]at H
    by_cases c3:0≤m_1
    rotate_left
    ·rw[ig c3]at H
     exact absurd H (by simp)
    rw[ip c3]at H
    by_cases c4:m_1<(sd.length:Int)
    rotate_left
    ·rw[ig c4]at H
     exact absurd H (by simp)
    rw[ip c4]at H
    obtain⟨adj,ej,hxj⟩:=Kd.at_int HCs.out j_1 c2 c1
    cases ej
    replace hxj:=kc HB hxj
    obtain⟨adm,em,hxm⟩:=Kd.at_int HCs.out m_1 c3 c4
    cases em
    replace hxm:=kc HB hxm
    obtain⟨X,hX⟩:∃j_:Int,rd sd j_1=j_:=⟨_,rfl⟩
    obtain⟨Y,hY⟩:∃j_:Int,rd sd m_1=j_:=⟨_,rfl⟩
    rw[hX]at hxj H
    rw[hY]at hxm H
    have c1b:=ode c1
    replace c1:=ets c1
    replace c2:=ets c2
    replace c3:=ets c3
    replace c4:=ets c4
    clear hX hY
    by_cases c5:X<Y
    ·rw[ip c5]at H
     have c5b:=ode c5
     have H':=Az.mk H
     clear H c5
     go_wp2
     go_roundg k2
     case measure=>have:=HK2.out;omega
     case rel=>exact⟨_,_,rfl,rfl,H',⟨by have:=HK2.out;omega⟩,⟨by first|exact HO.out|exact Kd.R_drewN HO.out _⟩,⟨by first|exact HB.out|exact pbN HB.out _⟩,⟨HLB.out.1,fun p hp=>by first|exact HLB.out.2 p hp|exact Nat.lt_of_lt_of_le (HLB.out.2 p hp) (pbN (Below.refl 0 _) _).size⟩⟩
    rw[ig c5]at H
    have c5b:=decide_eq_false c5
    have H':=Az.mk H
    clear H c5
    go_wp2
    go_roundg k2
    case measure=>have:=HK2.out;omega
    case rel=>exact⟨_,_,rfl,rfl,H',⟨by have:=HK2.out;omega⟩,⟨by first|exact HO.out|exact Kd.R_drewN HO.out _⟩,⟨by first|exact HB.out|exact pbN HB.out _⟩,⟨HLB.out.1,fun p hp=>by first|exact HLB.out.2 p hp|exact Nat.lt_of_lt_of_le (HLB.out.2 p hp) (pbN (Below.refl 0 _) _).size⟩⟩
   rw[ig c1]at H
   have c1b:decide (j_1<(sd.length:Int))=false:=decide_eq_false c1
   clear c1
   replace H:=Option.bind_eq_some_iff.mp H
   obtain⟨own,T2,H⟩:=H
   have T2:=Az.mk T2
   by_cases c6:0<own.length
   rotate_left
   ·rw[ig c6]at H
    exact absurd H (by simp)
   rw[ip c6]at H
   have HP:=Az.mk c6
   have H':=Az.mk H
   clear H c6
   go_wp2_with (first
    |(go_at_call 34;refine(gU.calls A5 c5 sd m_1 own _ (by first|exact Kd.C_drewN (Kd.C_below HCs.out HB.out) _|exact Kd.C_below HCs.out HB.out) HLs.out T2.out).mono ?_;rintro e W3 ⟨v3,rfl,ho,hb⟩;obtain⟨Aw,cw,ew⟩:=Kd.R_slice ho;subst ew;obtain⟨go,ego⟩:=tt_some ho HP.out;subst ego;have Bb:=Az.mk (show(ps.map Prod.snd).Nodup∧∀p∈ps,p.2<go from⟨HLB.out.1,fun p hp=>Nat.lt_of_lt_of_le (by first|exact HLB.out.2 p hp|exact Nat.lt_of_lt_of_le (HLB.out.2 p hp) (pbN (Below.refl 0 _) _).size) (Kd.R_base ho go (by simp[Value.ownBlock]))⟩);have HOw:=Az.mk (Kd.R_lower (base':=w.heap.size) ho (by first|exact HB.out.size|exact(pbN HB.out _).size));have Bc:=Az.mk (Kd.R_below (by first|exact HO.out|exact Kd.R_drewN HO.out _) hb);have HB3:=Az.mk (bwT (by first|exact HB.out|exact pbN HB.out _) hb);clear ho hb HO HB HLB T2;have HO:=Bc;have HB:=HB3;have HLB:=Bb;clear Bc HB3 Bb))
   go_loopg [10] k2 (fun kq Bh w'=>∃(q_1:Int),Bh= .int .i64 q_1∧Az (fA.l2 kq l0 (ps.map Prod.fst) i_1 own q_1=some r)∧Az (kq≤k2)∧Az (tt_k.R 25 w' w.heap.size (fun _=>True) (.slice A ps.length c) ps)∧Az (Below w.heap.size w w')∧Az (Kd.R (Kd.int .i64) 3 w' w.heap.size (fun _=>True) (.slice (some ⟨go,0,none⟩) own.length cw) own))
   case atStart=>exact⟨_,rfl,⟨by have:=H'.out;rw[List.length_map]at this;exact this⟩,⟨Nat.le_refl _⟩,⟨by first|exact HO.out|exact Kd.R_drewN HO.out _⟩,⟨by first|exact HB.out|exact pbN HB.out _⟩,⟨by first|exact HOw.out|exact Kd.R_drewN HOw.out _⟩⟩
   clear H' HO HB HOw
   obtain⟨q_1,rfl,HA,HK3,HO,HB,HOw⟩:=hrel
   cases gk with
   |zero=>exact absurd HA.out (by simp[fA.l2])
   |succ k3=>
    have H:=HA.out
    clear HA
    simp only[fA.l2,List.length_map]at H
    by_cases d0:0≤q_1
    rotate_left
    ·rw[ig d0]at H
     exact absurd H (by simp)
    rw[ip d0]at H
    by_cases d1:q_1≤(ps.length:Int)
    rotate_left
    ·rw[ig d1]at H
     exact absurd H (by simp)
    rw[ip d1]at H
    by_cases d2:ps.length<5864062014805
    rotate_left
    ·rw[ig d2]at H
     exact absurd H (by simp)
    rw[ip d2]at H
    have LM:=Az.mk d2
    have hq0:=Az.mk d0
    have hq1:=Az.mk d1
    by_cases d3:q_1>0
    rotate_left
    ·rw[ig d3]at H
     have d3b:decide (q_1>0)=false:=decide_eq_false d3
     have d3c:decide (0<q_1)=false:=decide_eq_false d3
     clear d0 d1 d2 d3
     have H':=Az.mk H
     clear H
     obtain⟨Q,hQ0⟩:∃j_:Int,wrap64 (q_1+1)=j_:=⟨_,rfl⟩
     have hQw:IntKind.i64.wrap (q_1+1)=Q:=(i64_w _).trans hQ0
     have hQ:=Az.mk (show Q=q_1+1 from by rw[←hQ0];exact tt_w hq0.out hq1.out LM.out)
     clear hQ0
     go_wp2
     go_quiet (fail)
     go_wp2_with (first|((with_reducible refine gate_builtin (b:= .append) (xs:= #[.tmp 58, .tmp 59]) rfl ?_);at_builtin;refine Kd.R_append tt_k (w0:=w) w.heap.size rfl (.tmp 58) (.tmp 59) 24 25 (.slice none 0 0) 24 rfl Try.underlying24 info25 rfl (by decide) (by omega) (.slice A ps.length c) ps (([]:List Int),0) [.slice none 0 0] (fun _=>True) (fun _=>False) rfl rfl ?aP (fun _ hk=>hk.elim) ?aF ?aO ?aB ?aS ?aL ?_;(case aP=>exact⟨_,rfl,Kd.R_nil _ _ _ _ _⟩);(case aB=>exact(by repeat(first|(with_reducible first|exact HB.out|apply pbN)|exact HB.out)));(case aF=>exact(fun k_ hk_=>trivial));(case aO=>exact(kR HO.out));(case aS=>exact HB.out.size);(case aL=>have:=LM.out;omega);intro v1 W6 ho hb hg hat;obtain⟨A2,c2,e2⟩:=Kd.R_slice ho;subst e2;have Aa:=Az.mk (show tt_k.R 25 W6 w.heap.size (fun _=>True) (.slice A2 (ps.length+1) c2) (ps ++ [(([]:List Int),0)])from by rw[show ps.length+1=(ps ++ [(([]:List Int),0)]).length from by simp];exact ho);have HB2:=Az.mk hb;have HOw2:=Az.mk (Kd.R_over (by first|exact HOw.out|exact Kd.R_drewN HOw.out _) (by first|exact HO.out|exact Kd.R_drewN HO.out _) tt_ht hg);clear ho hb hg hat HO HB HOw;have HB:=HB2;have HOw:=HOw2;clear HB2 HOw2;obtain⟨g,eg⟩:=tt_some Aa.out (by rw[List.length_append];simp);subst eg))
     obtain⟨i0,Av,_,hsz0,_⟩:=info_parts info25
     obtain⟨DD,hDD0⟩:∃D_:Option Addr,(if c2=Q.toNat then some (⟨g,0,none⟩:Addr)else some ⟨g,Q.toNat,none⟩)=D_:=⟨_,rfl⟩
     obtain⟨SS,hSS0⟩:∃D_:Option Addr,(if c2=q_1.toNat then some (⟨g,0,none⟩:Addr)else some ⟨g,q_1.toNat,none⟩)=D_:=⟨_,rfl⟩
     have hnc:=(Kd.R_reads' Aa.out).2.1
     have hDD:=Az.mk (show q_1<(ps.length:Int)→DD=some ⟨g,q_1.toNat+1,none⟩from fun h_=>by rw[←hDD0,ig (by rw[hQ.out];have:=hq0.out;omega),hQ.out];congr 2;have:=hq0.out;omega)
     have hSS:=Az.mk (show SS=some ⟨g,q_1.toNat,none⟩from by rw[←hSS0,ig (by have:=hq0.out;have:=hq1.out;omega)])
     have zQ0:(0≤Q)=True:=ets (by rw[hQ.out];have:=hq0.out;omega)
     have zQ1:(Q≤(ps.length:Int)+1)=True:=ets (by rw[hQ.out];have:=hq1.out;omega)
     have zq0:(0≤q_1)=True:=ets hq0.out
     have zq1:(q_1≤(ps.length:Int)+1)=True:=ets (by have:=hq1.out;omega)
     clear hnc
     refine start_ (n:=8) (S:=fun w'=>True) (ds:=[7]) #[F,F,F,F,F,F,F,F] (by kernel_rfl) rfl rfl trivial (fun hHeld=>?_)
     refine with_tabW fA.tab19 fA.bits19 (fun HT_ HW_=>?_)
     have HBn:=Az.mk (bwD HB.out)
     have HOn:=Az.mk (Kd.R_drew Aa.out)
     have HWn:=Az.mk (Kd.R_drew HOw.out)
     clear HB Aa HOw
     have HB:=HBn
     have Aa:=HOn
     have HOw:=HWn
     clear HBn HOn HWn
     generalize W6.drew=wd at HB Aa HOw hHeld ⊢
     obtain⟨cur,inner,hcur0,Ag,Ah,Ai,Aj,Ae,Ab,Ac,Ad⟩:=tt_own Aa.out
     have hcur:=Az.mk hcur0
     have Ak:=Az.mk Ab
     have Al:=Az.mk Ac
     have Am:=Az.mk Ad
     have hil:=Az.mk (show inner.length=ps.length+1 from by have:=Ab.1;rw[List.length_append,List.length_singleton,Nat.mul_one]at this;exact this)
     clear hcur0 Ab Ac Ad
     have hcl:=Az.mk (show((inner.take ps.length).drop q_1.toNat).length=ps.length - q_1.toNat from by rw[List.length_drop,List.length_take];have:=hil.out;omega)
     have hcn:=Az.mk (show((inner.take ps.length).drop q_1.toNat).length=Nat.min (ps.length+1 - q_1.toNat) (ps.length+1 - Q.toNat)from by rw[hcl.out];have e2:=hQ.out;have e3:=hq0.out;have e4:=hq1.out;show _=min _ _;omega)
     have hcp:=Az.mk (show 0<((inner.take ps.length).drop q_1.toNat).length→DD=some ⟨g,q_1.toNat+1,none⟩∧∃ad,SS=some ad∧∀j v,((inner.take ps.length).drop q_1.toNat)[j]?= some v→wd.cell? (ad.add j)=some v from by
      intro hlen
      rw[hcl.out]at hlen
      have e2:=hQ.out
      have e3:=hq0.out
      have e4:=hq1.out
      refine⟨hDD.out (by omega),⟨g,q_1.toNat,none⟩,hSS.out,fun j v hv=>?_⟩
      rw[List.getElem?_drop,List.getElem?_take]at hv
      split at hv
      ·have ea:(⟨g,q_1.toNat,none⟩:Addr).add j=⟨g,q_1.toNat+j,none⟩:=by
        unfold Addr.add
        by_cases e:j=0
        ·rw[ip e,e,Nat.add_zero]
        rw[ig e]
       rw[ea]
       exact Am.out _ _ hv
      cases hv)
     have hcf:=Az.mk (show q_1.toNat+1+((inner.take ps.length).drop q_1.toNat).length≤cur.length from by rw[hcl.out];have e3:=hq0.out;have e4:=hq1.out;omega)
     refine pu (i:=0) (N:=some 61) #[T,F,F,F,F,F,F,F] (any_of HT_.out (by kernel_rfl)) ?_
     refine pu (i:=1) (N:=some 62) #[T,T,F,F,F,F,F,F] (any_of HT_.out (by kernel_rfl)) ?_
     refine pu (i:=2) (N:=some 63) #[T,T,T,F,F,F,F,F] (any_of HT_.out (by kernel_rfl)) ?_
     refine pu (i:=3) (N:=some 64) #[T,T,T,T,F,F,F,F] (any_of HT_.out (by kernel_rfl)) ?_
     refine pu (i:=4) (N:=some 65) #[T,T,T,T,T,F,F,F] (any_of HT_.out (by kernel_rfl)) ?_
     refine pu (i:=5) (N:=some 66) #[T,T,T,T,T,T,F,F] (any_of HT_.out (by kernel_rfl)) ?_
     refine pu (i:=6) (N:=some 67) #[T,T,T,T,T,T,T,F] (any_of HT_.out (by kernel_rfl)) ?_
     refine last_ (i:=7) (N:=some 68) #[T,T,T,T,T,T,T,T] rfl rfl (one_of HT_.out (by kernel_rfl)) (by decide) (fun K hK=>?_)
     refine step_copy_keep rfl (.tmp 64) (.tmp 67) 24 24 rfl 25 Try.underlying24 (by rw[Av];exact congrArg some hsz0) DD SS _ _ _ _ (by rfl) (by rfl) g (q_1.toNat+1) cur 25 hcur.out ((inner.take ps.length).drop q_1.toNat) hcn.out hcp.out hcf.out (fun v hv=>Al.out v (List.mem_of_mem_take (List.mem_of_mem_drop hv))) ?_
     intro W4 HG4 HB4
     refine hK.out _ _ ?_
     clear hK K
     refine done_ (done_of HT_.out (by kernel_rfl)) ?_
     have Ap:=Az.mk (tt_back (q:=q_1.toNat) rfl (by have:=hq0.out;have:=hq1.out;omega) Ak.out Ag Ah Ai Aj Ae HG4.out HB4.out)
     have HB5:=Az.mk (HB.out.grown HB4.out HB.out.size (fun k_ hk_=>by injection hk_ with hk_;rw[←hk_];exact Ae))
     have HOw4:=Az.mk (Kd.R_mono (ok':=fun _=>True) (Kd.R_grown (tt_ne (N:=0) Aa.out HOw.out) HB4.out (fun k_ hk_ e_=>by injection e_ with e_;exact hk_.2 e_)) (fun _ _=>trivial))
     clear hDD0 hSS0 hDD hSS zQ0 zQ1 zq0 zq1 hHeld Aa hcur hcn hcp hcf hcl hil HG4 HB4 HB HOw Ag Ah Ai Aj Ae Ak Al Am hQw
     obtain⟨u4,Bi,Bj,zn4⟩:=tt_cell Ap.out hq0.out (show q_1<(((ps ++ [(([]:List Int),0)]).take (q_1.toNat+1) ++ ps.drop q_1.toNat).length:Int)from by rw[List.length_append,List.length_take,List.length_drop,List.length_append];have:=hq0.out;have:=hq1.out;simp;omega)
     have fin4:=tt_done hq0.out hq1.out Ap.out HB5.out HOw4.out HLB.out
     have zq0:=ets hq0.out
     have zq1:=ets zn4
     have zq2:(q_1<(ps.length:Int)+1)=True:=ets (by have:=hq1.out;omega)
     clear zn4
     go_wp2
     all_goals (go_roundg k3;(case measure=>have:=HK1.out;have:=HK2.out;have:=HK3.out;omega);(case rel=>(have E:=fin4.out _ (by first|exact⟨_,rfl⟩|exact Drawn0.refl _);have el:ps.length+1=(ps.take q_1.toNat ++ ((own,go) :: ps.drop q_1.toNat)).length:=(by rw[List.length_append,List.length_cons,List.length_take,List.length_drop];have:=hq0.out;have:=hq1.out;omega);exact⟨ps.take q_1.toNat ++ ((own,go) :: ps.drop q_1.toNat),_,_,c2,(by rw[el]),rfl,⟨by rw[tt_map];exact H'.out⟩,⟨by have:=HK1.out;have:=HK2.out;have:=HK3.out;omega⟩,⟨(by rw[←el];exact E.1)⟩,⟨E.2.1⟩,⟨E.2.2⟩⟩)))
    rw[ip d3]at H
    obtain⟨g0,eg0⟩:=tt_some HO.out (by omega)
    subst eg0
    obtain⟨Z,hZ⟩:∃j_:Int,q_1 - 1=j_:=⟨_,rfl⟩
    obtain⟨A1,c1,hxr,znq,hR1⟩:=tt_at HO.out (show 0≤Z by omega) (by omega)
    have z0:(0≤Z)=True:=ets (by omega)
    have z1:=ets znq
    have d3b:decide (q_1>0)=true:=ode d3
    have d3c:decide (0<q_1)=true:=ode d3
    have hqw:IntKind.i64.wrap (q_1 - 1)=Z:=(i64_w _).trans ((tt_w1 d3 d1 d2).trans hZ)
    have hqw2:wrap64 (q_1 - 1)=Z:=(tt_w1 d3 d1 d2).trans hZ
    rw[hZ]at H
    clear hZ znq d0 d1 d2 d3
    by_cases e1:0<(rd_L1 (ps.map Prod.fst) Z).length
    rotate_left
    ·rw[ig e1]at H
     exact absurd H (by simp)
    rw[ip e1]at H
    obtain⟨g1,eg1,Bk⟩:=tt_first hR1 e1
    subst eg1
    have hxo:=tt_head HOw.out HP.out
    obtain⟨Y,hY⟩:∃j_:Int,rd (rd_L1 (ps.map Prod.fst) Z) 0=j_:=⟨_,rfl⟩
    obtain⟨X,hX⟩:∃j_:Int,rd own 0=j_:=⟨_,rfl⟩
    rw[hY]at Bk H
    rw[hX]at hxo H
    obtain⟨n1,hn1⟩:∃n_:Nat,(rd_L1 (ps.map Prod.fst) Z).length=n_:=⟨_,rfl⟩
    rw[hn1]at hxr e1
    have zn1:((0:Int)<(n1:Int))=True:=ets (by omega)
    have zn2:(0<n1)=True:=ets e1
    have zo1:((0:Int)<(own.length:Int))=True:=ets (by have:=HP.out;omega)
    have zo2:(0<own.length)=True:=ets HP.out
    clear hY hX hn1 hR1 e1
    by_cases d4:Y>X
    ·rw[ip d4]at H
     have d4b:decide (Y>X)=true:=ode d4
     have d4c:decide (X<Y)=true:=ode d4
     clear d4
     have H':=Az.mk H
     clear H
     go_wp2
     go_quiet (fail)
     go_wp2
     go_roundg k3
     case measure=>have:=HK3.out;omega
     case rel=>exact⟨_,rfl,H',⟨by have:=HK3.out;omega⟩,⟨by first|exact HO.out|exact Kd.R_drewN HO.out _⟩,⟨by first|exact HB.out|exact pbN HB.out _⟩,⟨by first|exact HOw.out|exact Kd.R_drewN HOw.out _⟩⟩
    rw[ig d4]at H
    have d4b:decide (Y>X)=false:=decide_eq_false d4
    have d4c:decide (X<Y)=false:=decide_eq_false d4
    clear d4
    have H':=Az.mk H
    clear H
    obtain⟨Q,hQ0⟩:∃j_:Int,wrap64 (q_1+1)=j_:=⟨_,rfl⟩
    have hQw:IntKind.i64.wrap (q_1+1)=Q:=(i64_w _).trans hQ0
    have hQ:=Az.mk (show Q=q_1+1 from by rw[←hQ0];exact tt_w hq0.out hq1.out LM.out)
    clear hQ0
    go_wp2
    go_quiet (fail)
    go_wp2_with (first|((with_reducible refine gate_builtin (b:= .append) (xs:= #[.tmp 58, .tmp 59]) rfl ?_);at_builtin;refine Kd.R_append tt_k (w0:=w) w.heap.size rfl (.tmp 58) (.tmp 59) 24 25 (.slice none 0 0) 24 rfl Try.underlying24 info25 rfl (by decide) (by omega) (.slice (some ⟨g0,0,none⟩) ps.length c) ps (([]:List Int),0) [.slice none 0 0] (fun _=>True) (fun _=>False) rfl rfl ?aP (fun _ hk=>hk.elim) ?aF ?aO ?aB ?aS ?aL ?_;(case aP=>exact⟨_,rfl,Kd.R_nil _ _ _ _ _⟩);(case aB=>exact(by repeat(first|(with_reducible first|exact HB.out|apply pbN)|exact HB.out)));(case aF=>exact(fun k_ hk_=>trivial));(case aO=>exact(kR HO.out));(case aS=>exact HB.out.size);(case aL=>have:=LM.out;omega);intro v1 W6 ho hb hg hat;obtain⟨A2,c2,e2⟩:=Kd.R_slice ho;subst e2;have Aa:=Az.mk (show tt_k.R 25 W6 w.heap.size (fun _=>True) (.slice A2 (ps.length+1) c2) (ps ++ [(([]:List Int),0)])from by rw[show ps.length+1=(ps ++ [(([]:List Int),0)]).length from by simp];exact ho);have HB2:=Az.mk hb;have HOw2:=Az.mk (Kd.R_over (by first|exact HOw.out|exact Kd.R_drewN HOw.out _) (by first|exact HO.out|exact Kd.R_drewN HO.out _) tt_ht hg);clear ho hb hg hat HO HB HOw;have HB:=HB2;have HOw:=HOw2;clear HB2 HOw2;obtain⟨g,eg⟩:=tt_some Aa.out (by rw[List.length_append];simp);subst eg))
    obtain⟨i0,Av,_,hsz0,_⟩:=info_parts info25
    obtain⟨DD,hDD0⟩:∃D_:Option Addr,(if c2=Q.toNat then some (⟨g,0,none⟩:Addr)else some ⟨g,Q.toNat,none⟩)=D_:=⟨_,rfl⟩
    obtain⟨SS,hSS0⟩:∃D_:Option Addr,(if c2=q_1.toNat then some (⟨g,0,none⟩:Addr)else some ⟨g,q_1.toNat,none⟩)=D_:=⟨_,rfl⟩
    have hnc:=(Kd.R_reads' Aa.out).2.1
    have hDD:=Az.mk (show q_1<(ps.length:Int)→DD=some ⟨g,q_1.toNat+1,none⟩from fun h_=>by rw[←hDD0,ig (by rw[hQ.out];have:=hq0.out;omega),hQ.out];congr 2;have:=hq0.out;omega)
    have hSS:=Az.mk (show SS=some ⟨g,q_1.toNat,none⟩from by rw[←hSS0,ig (by have:=hq0.out;have:=hq1.out;omega)])
    have zQ0:(0≤Q)=True:=ets (by rw[hQ.out];have:=hq0.out;omega)
    have zQ1:(Q≤(ps.length:Int)+1)=True:=ets (by rw[hQ.out];have:=hq1.out;omega)
    have zq0:(0≤q_1)=True:=ets hq0.out
    have zq1:(q_1≤(ps.length:Int)+1)=True:=ets (by have:=hq1.out;omega)
    clear hnc
    refine start_ (n:=8) (S:=fun w'=>True) (ds:=[7]) #[F,F,F,F,F,F,F,F] (by kernel_rfl) rfl rfl trivial (fun hHeld=>?_)
    refine with_tabW fA.tab19 fA.bits19 (fun HT_ HW_=>?_)
    have HBn:=Az.mk (bwD HB.out)
    have HOn:=Az.mk (Kd.R_drew Aa.out)
    have HWn:=Az.mk (Kd.R_drew HOw.out)
    clear HB Aa HOw
    have HB:=HBn
    have Aa:=HOn
    have HOw:=HWn
    clear HBn HOn HWn
    generalize W6.drew=wd at HB Aa HOw hHeld ⊢
    obtain⟨cur,inner,hcur0,Ag,Ah,Ai,Aj,Ae,Ab,Ac,Ad⟩:=tt_own Aa.out
    have hcur:=Az.mk hcur0
    have Ak:=Az.mk Ab
    have Al:=Az.mk Ac
    have Am:=Az.mk Ad
    have hil:=Az.mk (show inner.length=ps.length+1 from by have:=Ab.1;rw[List.length_append,List.length_singleton,Nat.mul_one]at this;exact this)
    clear hcur0 Ab Ac Ad
    have hcl:=Az.mk (show((inner.take ps.length).drop q_1.toNat).length=ps.length - q_1.toNat from by rw[List.length_drop,List.length_take];have:=hil.out;omega)
    have hcn:=Az.mk (show((inner.take ps.length).drop q_1.toNat).length=Nat.min (ps.length+1 - q_1.toNat) (ps.length+1 - Q.toNat)from by rw[hcl.out];have e2:=hQ.out;have e3:=hq0.out;have e4:=hq1.out;show _=min _ _;omega)
    have hcp:=Az.mk (show 0<((inner.take ps.length).drop q_1.toNat).length→DD=some ⟨g,q_1.toNat+1,none⟩∧∃ad,SS=some ad∧∀j v,((inner.take ps.length).drop q_1.toNat)[j]?= some v→wd.cell? (ad.add j)=some v from by
     intro hlen
     rw[hcl.out]at hlen
     have e2:=hQ.out
     have e3:=hq0.out
     have e4:=hq1.out
     refine⟨hDD.out (by omega),⟨g,q_1.toNat,none⟩,hSS.out,fun j v hv=>?_⟩
     rw[List.getElem?_drop,List.getElem?_take]at hv
     split at hv
     ·have ea:(⟨g,q_1.toNat,none⟩:Addr).add j=⟨g,q_1.toNat+j,none⟩:=by
       unfold Addr.add
       by_cases e:j=0
       ·rw[ip e,e,Nat.add_zero]
       rw[ig e]
      rw[ea]
      exact Am.out _ _ hv
     cases hv)
    have hcf:=Az.mk (show q_1.toNat+1+((inner.take ps.length).drop q_1.toNat).length≤cur.length from by rw[hcl.out];have e3:=hq0.out;have e4:=hq1.out;omega)
    refine pu (i:=0) (N:=some 61) #[T,F,F,F,F,F,F,F] (any_of HT_.out (by kernel_rfl)) ?_
    refine pu (i:=1) (N:=some 62) #[T,T,F,F,F,F,F,F] (any_of HT_.out (by kernel_rfl)) ?_
    refine pu (i:=2) (N:=some 63) #[T,T,T,F,F,F,F,F] (any_of HT_.out (by kernel_rfl)) ?_
    refine pu (i:=3) (N:=some 64) #[T,T,T,T,F,F,F,F] (any_of HT_.out (by kernel_rfl)) ?_
    refine pu (i:=4) (N:=some 65) #[T,T,T,T,T,F,F,F] (any_of HT_.out (by kernel_rfl)) ?_
    refine pu (i:=5) (N:=some 66) #[T,T,T,T,T,T,F,F] (any_of HT_.out (by kernel_rfl)) ?_
    refine pu (i:=6) (N:=some 67) #[T,T,T,T,T,T,T,F] (any_of HT_.out (by kernel_rfl)) ?_
    refine last_ (i:=7) (N:=some 68) #[T,T,T,T,T,T,T,T] rfl rfl (one_of HT_.out (by kernel_rfl)) (by decide) (fun K hK=>?_)
    refine step_copy_keep rfl (.tmp 64) (.tmp 67) 24 24 rfl 25 Try.underlying24 (by rw[Av];exact congrArg some hsz0) DD SS _ _ _ _ (by rfl) (by rfl) g (q_1.toNat+1) cur 25 hcur.out ((inner.take ps.length).drop q_1.toNat) hcn.out hcp.out hcf.out (fun v hv=>Al.out v (List.mem_of_mem_take (List.mem_of_mem_drop hv))) ?_
    intro W4 HG4 HB4
    refine hK.out _ _ ?_
    clear hK K
    refine done_ (done_of HT_.out (by kernel_rfl)) ?_
    have Ap:=Az.mk (tt_back (q:=q_1.toNat) rfl (by have:=hq0.out;have:=hq1.out;omega) Ak.out Ag Ah Ai Aj Ae HG4.out HB4.out)
    have HB5:=Az.mk (HB.out.grown HB4.out HB.out.size (fun k_ hk_=>by injection hk_ with hk_;rw[←hk_];exact Ae))
    have HOw4:=Az.mk (Kd.R_mono (ok':=fun _=>True) (Kd.R_grown (tt_ne (N:=0) Aa.out HOw.out) HB4.out (fun k_ hk_ e_=>by injection e_ with e_;exact hk_.2 e_)) (fun _ _=>trivial))
    clear hDD0 hSS0 hDD hSS zQ0 zQ1 zq0 zq1 hHeld Aa hcur hcn hcp hcf hcl hil HG4 HB4 HB HOw Ag Ah Ai Aj Ae Ak Al Am hQw
    obtain⟨u4,Bi,Bj,zn4⟩:=tt_cell Ap.out hq0.out (show q_1<(((ps ++ [(([]:List Int),0)]).take (q_1.toNat+1) ++ ps.drop q_1.toNat).length:Int)from by rw[List.length_append,List.length_take,List.length_drop,List.length_append];have:=hq0.out;have:=hq1.out;simp;omega)
    have fin4:=tt_done hq0.out hq1.out Ap.out HB5.out HOw4.out HLB.out
    have zq0:=ets hq0.out
    have zq1:=ets zn4
    have zq2:(q_1<(ps.length:Int)+1)=True:=ets (by have:=hq1.out;omega)
    clear zn4
    go_wp2
    all_goals (go_roundg k3;(case measure=>have:=HK1.out;have:=HK2.out;have:=HK3.out;omega);(case rel=>(have E:=fin4.out _ (by first|exact⟨_,rfl⟩|exact Drawn0.refl _);have el:ps.length+1=(ps.take q_1.toNat ++ ((own,go) :: ps.drop q_1.toNat)).length:=(by rw[List.length_append,List.length_cons,List.length_take,List.length_drop];have:=hq0.out;have:=hq1.out;omega);exact⟨ps.take q_1.toNat ++ ((own,go) :: ps.drop q_1.toNat),_,_,c2,(by rw[el]),rfl,⟨by rw[tt_map];exact H'.out⟩,⟨by have:=HK1.out;have:=HK2.out;have:=HK3.out;omega⟩,⟨(by rw[←el];exact E.1)⟩,⟨E.2.1⟩,⟨E.2.2⟩⟩)))
end
end Go.Proofs.Ytemeiocmgbgikaa.P

-- The walks, cut and laid together by this session's tools (prune.py, sq2.py, min.py: shorter names, no needless spaces). Not trusted: Lean checks it.
import Derived.Test.YtflbpjijgnmklaaKWZip
import Derived.Test.YtflbpjijgnmklaaKPx40
namespace Go.Proofs.Ytflbpjijgnmklaa.P
open Go.RowKit Go.Proofs.YtflbpjijgnmklaaW.PrintWords Go.Proofs.YtflbpjijgnmklaaW.PrintLast Go.Proofs.YtflbpjijgnmklaaW.PrintMore
attribute [local go_sem] max2_int min2_int max_two min_two max_three min_three max_four min_four   -- for this text's walks alone
set_option linter.unusedVariables false
set_option linter.unusedSimpArgs false
set_option maxHeartbeats 8000000
set_option maxRecDepth 100000
open Option renaming bind_eq_some_iff → be
theorem z47_10 {p:Prop} (h:p:=by(with_reducible repeat(first|apply Kd.R_alloc|apply Kd.R_drewN|apply Kd.R_drew));exact(Kd.R_mono (Kd.R_far (p:=⟨gb793,2,none⟩) (Kd.R_far (p:=⟨gb793,1,none⟩) (Kd.R_far (p:=⟨gb793,0,none⟩) (Kd.R_types HO781.out BK793.out (by decide)) (fun _ hk=>hk.2) (.int .i64 t788)) (fun _ hk=>hk.2) (.int .i64 t789)) (fun _ hk=>hk.2) (.int .i64 t790)) (fun _ h_=>h_.1))):p:=h
theorem z47_9 {p:Prop} (h:p:=by(with_reducible repeat(first|apply Kd.R_alloc|apply Kd.R_drewN|apply Kd.R_drew));exact(Kd.R_mono (Kd.R_far (p:=⟨gb793,2,none⟩) (Kd.R_far (p:=⟨gb793,1,none⟩) (Kd.R_far (p:=⟨gb793,0,none⟩) (Kd.R_types HO777.out BK793.out (by decide)) (fun _ hk=>hk.2) (.int .i64 t788)) (fun _ hk=>hk.2) (.int .i64 t789)) (fun _ hk=>hk.2) (.int .i64 t790)) (fun _ h_=>h_.1))):p:=h
theorem z47_8 {p:Prop} (h:p:=by(with_reducible repeat(first|apply Kd.Q_alloc|apply Kd.Q_drewN|apply Kd.Q_drew));exact(Kd.Q_mono (Kd.Q_far (p:=⟨gb793,2,none⟩) (Kd.Q_far (p:=⟨gb793,1,none⟩) (Kd.Q_far (p:=⟨gb793,0,none⟩) (Kd.Q_types HO773.out BK793.out (by decide)) (fun _ hk=>hk.2) (.int .i64 t788)) (fun _ hk=>hk.2) (.int .i64 t789)) (fun _ hk=>hk.2) (.int .i64 t790)) (fun _ h_=>h_.1))):p:=h
theorem z47_7 {p:Prop} (h:p:=by(with_reducible repeat(first|apply Kd.Q_alloc|apply Kd.Q_drewN|apply Kd.Q_drew));exact(Kd.Q_mono (Kd.Q_far (p:=⟨gb793,2,none⟩) (Kd.Q_far (p:=⟨gb793,1,none⟩) (Kd.Q_far (p:=⟨gb793,0,none⟩) (Kd.Q_types HO771.out BK793.out (by decide)) (fun _ hk=>hk.2) (.int .i64 t788)) (fun _ hk=>hk.2) (.int .i64 t789)) (fun _ hk=>hk.2) (.int .i64 t790)) (fun _ h_=>h_.1))):p:=h
theorem z47_6 {p:Prop} (h:p:=by(with_reducible repeat(first|apply Kd.R_alloc|apply Kd.R_drewN|apply Kd.R_drew));exact(Kd.R_mono (Kd.R_far (p:=⟨gb793,2,none⟩) (Kd.R_far (p:=⟨gb793,1,none⟩) (Kd.R_far (p:=⟨gb793,0,none⟩) (Kd.R_types HO767.out BK793.out (by decide)) (fun _ hk=>hk.2) (.int .i64 t788)) (fun _ hk=>hk.2) (.int .i64 t789)) (fun _ hk=>hk.2) (.int .i64 t790)) (fun _ h_=>h_.1))):p:=h
theorem z47_5 {p:Prop} (h:p:=by(with_reducible repeat(first|apply Kd.R_alloc|apply Kd.R_drewN|apply Kd.R_drew));exact(Kd.R_mono (Kd.R_far (p:=⟨gb793,2,none⟩) (Kd.R_far (p:=⟨gb793,1,none⟩) (Kd.R_far (p:=⟨gb793,0,none⟩) (Kd.R_types HO763.out BK793.out (by decide)) (fun _ hk=>hk.2) (.int .i64 t788)) (fun _ hk=>hk.2) (.int .i64 t789)) (fun _ hk=>hk.2) (.int .i64 t790)) (fun _ h_=>h_.1))):p:=h
theorem z47_4 {p:Prop} (h:p:=by(with_reducible repeat(first|apply Kd.Q_alloc|apply Kd.Q_drewN|apply Kd.Q_drew));exact(Kd.Q_mono (Kd.Q_far (p:=⟨gb793,2,none⟩) (Kd.Q_far (p:=⟨gb793,1,none⟩) (Kd.Q_far (p:=⟨gb793,0,none⟩) (Kd.Q_types HO754.out BK793.out (by decide)) (fun _ hk=>hk.2) (.int .i64 t788)) (fun _ hk=>hk.2) (.int .i64 t789)) (fun _ hk=>hk.2) (.int .i64 t790)) (fun _ h_=>h_.1))):p:=h
theorem z47_3 {p:Prop} (h:p:=by(with_reducible repeat(first|apply Kd.R_alloc|apply Kd.R_drewN|apply Kd.R_drew));exact(Kd.R_mono (Kd.R_far (p:=⟨gb793,2,none⟩) (Kd.R_far (p:=⟨gb793,1,none⟩) (Kd.R_far (p:=⟨gb793,0,none⟩) (Kd.R_types HO737.out BK793.out (by decide)) (fun _ hk=>hk.2) (.int .i64 t788)) (fun _ hk=>hk.2) (.int .i64 t789)) (fun _ hk=>hk.2) (.int .i64 t790)) (fun _ h_=>h_.1))):p:=h
theorem z47_2 {p:Prop} (h:p:=by(with_reducible repeat(first|apply Kd.S_alloc|apply Kd.S_drewN|apply Kd.S_drew));exact(Kd.S_mono (Kd.S_far (p:=⟨gb793,2,none⟩) (Kd.S_far (p:=⟨gb793,1,none⟩) (Kd.S_far (p:=⟨gb793,0,none⟩) (Kd.S_types HO732.out BK793.out (by decide)) (fun _ hk=>hk.2) (.int .i64 t788)) (fun _ hk=>hk.2) (.int .i64 t789)) (fun _ hk=>hk.2) (.int .i64 t790)) (fun _ h_=>h_.1))):p:=h
theorem z47_1 {p:Prop} (h:p:=by(with_reducible repeat(first|apply Kd.S_alloc|apply Kd.S_drewN|apply Kd.S_drew));exact(Kd.S_mono (Kd.S_far (p:=⟨gb787,2,none⟩) (Kd.S_far (p:=⟨gb787,1,none⟩) (Kd.S_far (p:=⟨gb787,0,none⟩) (Kd.S_types HO732.out BK787.out (by decide)) (fun _ hk=>hk.2) (.int .i64 t782)) (fun _ hk=>hk.2) (.int .i64 t783)) (fun _ hk=>hk.2) (.int .i64 t784)) (fun _ h_=>h_.1))):p:=h
theorem z47_0 {p:Prop} (h:p:=by(with_reducible repeat(first|apply Kd.Q_alloc|apply Kd.Q_drewN|apply Kd.Q_drew));exact(Kd.Q_mono (Kd.Q_far (p:=⟨gb793,2,none⟩) (Kd.Q_far (p:=⟨gb793,1,none⟩) (Kd.Q_far (p:=⟨gb793,0,none⟩) (Kd.Q_types HO734.out BK793.out (by decide)) (fun _ hk=>hk.2) (.int .i64 t788)) (fun _ hk=>hk.2) (.int .i64 t789)) (fun _ hk=>hk.2) (.int .i64 t790)) (fun _ h_=>h_.1))):p:=h
theorem bw_47 {n:Nat}{v v':World} (h:Below n v v':=by repeat(first|(with_reducible first|exact HB.out|apply bwA|apply pbN|apply bwD|refine bwS ?_ GE787.out|refine bwS ?_ GE793.out)|exact HB.out)):Below n v v':=h
theorem ln_47 {P:Prop} (h:P:=by(try simp only[List.map_toArray,List.map_cons,List.map_nil]);first|done|rfl|(simp only[List.length_drop,List.length_take];rfl)):P:=h
attribute [local go_sem high] eqA42
theorem laws_FnCurves.calls (k:Nat) (A0:Option Addr) (c0:Nat) (l0:List Int) (r:Bool) (w:World) (Lc:Kd.C (Kd.int .u8) w A0 l0.length l0) (Ld:l0.length≤c0) (h:laws_FnCurves.f k l0=some r):
  Calls Try.prog 3 #[.slice A0 l0.length c0] w fun e w'=>e= .returned (.bool r)∧Below w.heap.size w w':=by
 have hu42:=Try.underlying42
 have Ey:=Az.mk Lc
 have Ez:=Az.mk Ld
 clear Lc Ld
 have HB:=Az.mk (Below.refl w.heap.size w)
 have H:((jY.f l0).bind fun Ga=>(if Ga=true then(some true) else((jD.f k l0).bind fun Am=>((fY.f k Am.1 Am.2).bind fun Au=>((jJ.f k l0).bind fun Bk=>((fR.f k Bk).bind fun Es=>((fP.f k Bk).bind fun Et=>((jR.f k l0).bind fun Ay=>((jE.f k l0).bind fun Ba=>((jM.f k Ba.1 Ba.2.1 Ba.2.2).bind fun Bj=>((jC.f k Ba.1 Ba.2.1 Ba.2.2).bind fun Eu=>((jA.f k l0).bind fun Ci=>((fJ.f k Ci.1 Ci.2).bind fun Ev=>((fG.f k Ci.1 Ci.2).bind fun Ew=>((fU.f k Am.1).bind fun Aq=>((gD.f k Am.1).bind fun Bn=>((fC.f k Am.1 Am.2).bind fun Cj=>((fI.f k Am.1 Am.2).bind fun Ex=>((fN.f k Am.1 Am.2).bind fun Dd=>((fZ.f k Au Dd).bind fun Gb=>(if Gb=true then(if(Es.2 != Et.2)=true then(none) else((gO.f k Es.1 Et.1).bind fun Gc=>(if Gc=true then((jW.f k Ay.1 Ay.2.1 Ay.2.2.1 Ay.2.2.2).bind fun Dh=>((jX.f k Ay.1 Ay.2.1 Ay.2.2.1 Ay.2.2.2).bind fun Di=>(if Dh=Di then(if(Bj.2 != Eu.2)=true then(none) else((fZ.f k Bj.1 Eu.1).bind fun Gd=>(if Gd=true then(if(Ev.2 != Ew.2)=true then(none) else((fZ.f k Ev.1 Ew.1).bind fun Ge=>(if Ge=true then(if(Aq.2.2.2.2 != Bn.2.2.2.2)=true then(none) else(if(!(Aq.1== Bn.1)||(!(Aq.2.1== Bn.2.1)||(!(Aq.2.2.1== Bn.2.2.1))))=true then(none) else(if Aq.2.2.2.1=Bn.2.2.2.1 then(if(Cj.2 != Ex.2)=true then(none) else((fZ.f k Cj.1 Ex.1).bind fun Gf=>(if Gf=true then((fH.f k Am.1 Am.2).bind fun Bs=>((fL.f k Am.1 Am.2).bind fun Bt=>(if(Bs != Bt)=true then(none) else((gC.f k Am.1 Am.2).bind fun Dj=>((gZ.f k Am.1 Am.2).bind fun Dk=>(if Dj=Dk then((fB.f k Am.1).bind fun Bu=>((fA.f k Am.1).bind fun Bv=>(if(Bu != Bv)=true then(none) else((gJ.f k Am.1).bind fun Bo=>((fR.f k Bo).bind fun De=>((gA.f k Am.1).bind fun Df=>(if Bo.toList=Df.toList then((fA.f k Am.1).bind fun Bp=>(if(De.2 != Bp)=true then(none) else(if De.2=true then((gO.f k De.1 Am.1).bind fun Dl=>(laws_FnCurves.j0 k Am.1 Am.2 Au Ba.1 Bj.1 Bj.2 Aq.2.2.2.1 Aq.2.2.2.2 Cj.1 (!Dl) Aq.1 Aq.2.1 Aq.2.2.1)) else(laws_FnCurves.j0 k Am.1 Am.2 Au Ba.1 Bj.1 Bj.2 Aq.2.2.2.1 Aq.2.2.2.2 Cj.1 false Aq.1 Aq.2.1 Aq.2.2.1)))) else(none)))))))) else(none))))))) else(none)))) else(none)))) else(none)))) else(none)))) else(none)))) else(none)))) else(none))))))))))))))))))))))=some r:=h
 clear h
 replace H:=bez H
 obtain⟨Ga,A2,H⟩:=H
 try dsimp only at H
 by_cases c3:Ga=true
 ·subst c3
  rw[ip rfl]at H
  obtain rfl:=Option.some.inj H
  go_enter Try.func3,Try.ntmps3
  go_wp2_with (first|((with_reducible refine gtC (f:=4) rfl ?_);refine clz Try.func4 (some 47) #[.slice A0 l0.length c0] ?_;(with_reducible refine(jY.calls _ _ l0 true _ ?Aa ?Ab A2.out).mono ?_);(case Aa=>exact kC Ey.out);(case Ab=>exact Ez.out);rintro e w' ⟨rfl,⟨nd,rfl⟩⟩;refine⟨_,rfl,?_⟩))
  go_ret
  exact⟨rq1,bw_47⟩
 replace c3:=Bool.eq_false_iff.mpr c3
 subst c3
 rw[ig ff]at H
 replace H:=bez H
 obtain⟨⟨Ao,Ap⟩,A4,H⟩:=H
 try dsimp only at H
 replace H:=bez H
 obtain⟨Au,A5,H⟩:=H
 try dsimp only at H
 replace H:=bez H
 obtain⟨Bk,A6,H⟩:=H
 try dsimp only at H
 replace H:=bez H
 obtain⟨⟨Gg,Ck⟩,A7,H⟩:=H
 try dsimp only at H
 replace H:=bez H
 obtain⟨⟨Gh,Cl⟩,A8,H⟩:=H
 try dsimp only at H
 replace H:=bez H
 obtain⟨⟨Dm,Dn,Do,Dp⟩,A9,H⟩:=H
 try dsimp only at H
 replace H:=bez H
 obtain⟨⟨Bb,Cm,Cn⟩,Li,H⟩:=H
 try dsimp only at H
 replace H:=bez H
 obtain⟨⟨Bf,Bw⟩,Lj,H⟩:=H
 try dsimp only at H
 replace H:=bez H
 obtain⟨⟨Gi,Co⟩,Lk,H⟩:=H
 try dsimp only at H
 replace H:=bez H
 obtain⟨⟨Bl,Bm⟩,Ll,H⟩:=H
 try dsimp only at H
 replace H:=bez H
 obtain⟨⟨Gj,Cp⟩,Lm,H⟩:=H
 try dsimp only at H
 replace H:=bez H
 obtain⟨⟨Gk,Cq⟩,Ln,H⟩:=H
 try dsimp only at H
 replace H:=bez H
 obtain⟨⟨t782,t783,t784,Dq,Bx⟩,Lo,H⟩:=H
 try dsimp only at H
 replace H:=bez H
 obtain⟨⟨t788,t789,t790,Gl,Cs⟩,Lp,H⟩:=H
 try dsimp only at H
 replace H:=bez H
 obtain⟨⟨Bh,Ct⟩,Lq,H⟩:=H
 try dsimp only at H
 replace H:=bez H
 obtain⟨⟨Gm,Cu⟩,Lr,H⟩:=H
 try dsimp only at H
 replace H:=bez H
 obtain⟨Dd,Ls,H⟩:=H
 try dsimp only at H
 replace H:=bez H
 obtain⟨Gb,Lt,H⟩:=H
 try dsimp only at H
 by_cases Hk:Gb=true
 rotate_left
 ·replace Hk:=Bool.eq_false_iff.mpr Hk
  subst Hk
  rw[ig ff]at H
  exact absurd H (by simp)
 subst Hk
 rw[ip rfl]at H
 by_cases Gn:(Ck != Cl)=true
 ·rw[ip Gn]at H
  exact absurd H (by simp)
 rw[ig Gn]at H
 have Hl:(Ck != Cl)=false:=by simpa using Gn
 (try(have Hm:decide (Ck=Cl)=true:=by simpa using Gn))
 (try(have Hn:(Ck== Cl)=true:=by simpa using Gn))
 clear Gn
 replace H:=bez H
 obtain⟨Gc,Lu,H⟩:=H
 try dsimp only at H
 by_cases Ho:Gc=true
 rotate_left
 ·replace Ho:=Bool.eq_false_iff.mpr Ho
  subst Ho
  rw[ig ff]at H
  exact absurd H (by simp)
 subst Ho
 rw[ip rfl]at H
 replace H:=bez H
 obtain⟨Dh,Lv,H⟩:=H
 try dsimp only at H
 replace H:=bez H
 obtain⟨Di,Lw,H⟩:=H
 try dsimp only at H
 by_cases Hh:Dh=Di
 rotate_left
 ·rw[ig Hh]at H
  exact absurd H (by simp)
 rw[ip Hh]at H
 have Hp:=beq_iff_eq.mpr Hh
 have Hq:=bne_eq_false_iff_eq.mpr Hh
 clear Hh
 by_cases Gp:(Bw != Co)=true
 ·rw[ip Gp]at H
  exact absurd H (by simp)
 rw[ig Gp]at H
 have Hr:(Bw != Co)=false:=by simpa using Gp
 (try(have Hs:decide (Bw=Co)=true:=by simpa using Gp))
 (try(have Ht:(Bw== Co)=true:=by simpa using Gp))
 clear Gp
 replace H:=bez H
 obtain⟨Gd,Lx,H⟩:=H
 try dsimp only at H
 by_cases Hu:Gd=true
 rotate_left
 ·replace Hu:=Bool.eq_false_iff.mpr Hu
  subst Hu
  rw[ig ff]at H
  exact absurd H (by simp)
 subst Hu
 rw[ip rfl]at H
 by_cases Gq:(Cp != Cq)=true
 ·rw[ip Gq]at H
  exact absurd H (by simp)
 rw[ig Gq]at H
 have Hv:(Cp != Cq)=false:=by simpa using Gq
 (try(have Hw:decide (Cp=Cq)=true:=by simpa using Gq))
 (try(have Hx:(Cp== Cq)=true:=by simpa using Gq))
 clear Gq
 replace H:=bez H
 obtain⟨Ge,Ly,H⟩:=H
 try dsimp only at H
 by_cases Hy:Ge=true
 rotate_left
 ·replace Hy:=Bool.eq_false_iff.mpr Hy
  subst Hy
  rw[ig ff]at H
  exact absurd H (by simp)
 subst Hy
 rw[ip rfl]at H
 by_cases Gr:(Bx != Cs)=true
 ·rw[ip Gr]at H
  exact absurd H (by simp)
 rw[ig Gr]at H
 have Hz:(Bx != Cs)=false:=by simpa using Gr
 (try(have Ia:decide (Bx=Cs)=true:=by simpa using Gr))
 (try(have Ib:(Bx== Cs)=true:=by simpa using Gr))
 clear Gr
 by_cases Ic:(!(t782== t788)||(!(t783== t789)||(!(t784== t790))))=true
 ·rw[ip Ic]at H
  exact absurd H (by simp)
 rw[ig Ic]at H
 have Id:(!(t782== t788)||(!(t783== t789)||(!(t784== t790))))=false:=by simpa using Ic
 clear Ic
 by_cases Hi:Dq=Gl
 rotate_left
 ·rw[ig Hi]at H
  exact absurd H (by simp)
 rw[ip Hi]at H
 have Ie:=beq_iff_eq.mpr Hi
 have Ig:=bne_eq_false_iff_eq.mpr Hi
 clear Hi
 by_cases Gs:(Ct != Cu)=true
 ·rw[ip Gs]at H
  exact absurd H (by simp)
 rw[ig Gs]at H
 have Ih:(Ct != Cu)=false:=by simpa using Gs
 (try(have Ii:decide (Ct=Cu)=true:=by simpa using Gs))
 (try(have Ij:(Ct== Cu)=true:=by simpa using Gs))
 clear Gs
 replace H:=bez H
 obtain⟨Gf,Lz,H⟩:=H
 try dsimp only at H
 by_cases Ik:Gf=true
 rotate_left
 ·replace Ik:=Bool.eq_false_iff.mpr Ik
  subst Ik
  rw[ig ff]at H
  exact absurd H (by simp)
 subst Ik
 rw[ip rfl]at H
 replace H:=bez H
 obtain⟨Bs,Ma,H⟩:=H
 try dsimp only at H
 replace H:=bez H
 obtain⟨Bt,Mb,H⟩:=H
 try dsimp only at H
 by_cases Gt:(Bs != Bt)=true
 ·rw[ip Gt]at H
  exact absurd H (by simp)
 rw[ig Gt]at H
 have Il:(Bs != Bt)=false:=by simpa using Gt
 (try(have Im:decide (Bs=Bt)=true:=by simpa using Gt))
 (try(have Io:(Bs== Bt)=true:=by simpa using Gt))
 clear Gt
 replace H:=bez H
 obtain⟨Dj,Mc,H⟩:=H
 try dsimp only at H
 replace H:=bez H
 obtain⟨Dk,Md,H⟩:=H
 try dsimp only at H
 by_cases Hj:Dj=Dk
 rotate_left
 ·rw[ig Hj]at H
  exact absurd H (by simp)
 rw[ip Hj]at H
 have Ip:=beq_iff_eq.mpr Hj
 have Iq:=bne_eq_false_iff_eq.mpr Hj
 clear Hj
 replace H:=bez H
 obtain⟨Bu,Me,H⟩:=H
 try dsimp only at H
 replace H:=bez H
 obtain⟨Bv,Mf,H⟩:=H
 try dsimp only at H
 by_cases Gu:(Bu != Bv)=true
 ·rw[ip Gu]at H
  exact absurd H (by simp)
 rw[ig Gu]at H
 have Ir:(Bu != Bv)=false:=by simpa using Gu
 (try(have It:decide (Bu=Bv)=true:=by simpa using Gu))
 (try(have Iu:(Bu== Bv)=true:=by simpa using Gu))
 clear Gu
 replace H:=bez H
 obtain⟨Bo,Mg,H⟩:=H
 try dsimp only at H
 replace H:=bez H
 obtain⟨⟨Iv,By⟩,Mh,H⟩:=H
 try dsimp only at H
 have Gv:=Az.mk H
 clear H
 go_enter Try.func3,Try.ntmps3
 go_upto_region 19 with (first|((with_reducible refine gtC (f:=4) rfl ?_);refine clz Try.func4 (some 47) #[.slice A0 l0.length c0] ?_;(with_reducible refine(jY.calls _ _ l0 false _ ?Aa ?Ab A2.out).mono ?_);(case Aa=>exact kC Ey.out);(case Ab=>exact Ez.out);rintro e w' ⟨rfl,⟨nd,rfl⟩⟩;refine⟨_,rfl,?_⟩)|((with_reducible refine gtC (f:=5) rfl ?_);refine clz Try.func5 (some 50) #[.slice A0 l0.length c0] ?_;(with_reducible refine(jD.calls k _ _ l0 Ao Ap _ ?Aa ?Ab A4.out).mono ?_);(case Aa=>exact kC Ey.out);(case Ab=>exact Ez.out);rintro e My ⟨Mi,Mj,rfl,Ag,Bi,hb⟩;refine⟨_,rfl,?_⟩;have HO732:=Az.mk (Kd.S_lower Ag (bwZ bw_47));have HO734:=Az.mk (Kd.Q_lower Bi (bwZ bw_47));replace HB:=Az.mk (bwT bw_47 hb);(try clear hb);(try clear Ag);(try clear Bi);obtain⟨Bc,Av,Jg⟩:=Kd.S_slice HO732.out;subst Jg;obtain⟨Ax,Aw,Ji,_⟩:=Kd.Q_slice HO734.out;subst Ji)|((with_reducible refine gtC (f:=6) rfl ?_);refine clz Try.func6 (some 55) #[.slice Bc Ao.length Av, .slice Ax Ap.length Aw] ?_;(with_reducible refine(fY.calls k _ _ Ao _ _ Ap Au _ ?Aa ?Ab ?Ai ?Aj A5.out).mono ?_);(case Aa=>exact kC (Kd.S_reads' HO732.out).2.2);(case Ab=>exact(Kd.S_reads' HO732.out).2.1);(case Ai=>exact kC (Kd.Q_reads' HO734.out).2.2);(case Aj=>exact(Kd.Q_reads' HO734.out).2.1);rintro e Mz ⟨Gw,rfl,Ag,hb⟩;refine⟨_,rfl,?_⟩;replace HO732:=Az.mk (Kd.S_elder' (kS HO732.out) (Kd.R_base Ag) hb);have HO737:=Az.mk (Kd.R_lower (Kd.R_new' Ag (Kd.Q_lt (kQ HO734.out))) (bwZ bw_47));replace HO734:=Az.mk (Kd.Q_elder' (kQ HO734.out) (Kd.R_base Ag) hb);replace HB:=Az.mk (bwT bw_47 hb);(try clear hb);(try clear Ag))|((with_reducible refine gtC (f:=7) rfl ?_);refine clz Try.func7 (some 57) #[.slice A0 l0.length c0] ?_;(with_reducible refine(jJ.calls k _ _ l0 Bk _ ?Aa ?Ab A6.out).mono ?_);(case Aa=>exact kC (Kd.C_below Ey.out HB.out));(case Ab=>exact Ez.out);rintro e Na ⟨rfl,hb⟩;refine⟨_,rfl,?_⟩;replace HO732:=Az.mk (Kd.S_below (kS HO732.out) hb);replace HO734:=Az.mk (Kd.Q_below (kQ HO734.out) hb);replace HO737:=Az.mk (Kd.R_below (kR HO737.out) hb);replace HB:=Az.mk (bwT bw_47 hb);(try clear hb))|((with_reducible refine gtC (f:=8) rfl ?_);refine clz Try.func8 (some 60) #[.string Bk] ?_;(with_reducible refine(fR.calls k Bk Gg Ck _ A7.out).mono ?_);rintro e Nb ⟨Iw,rfl,Ag,hb⟩;refine⟨_,rfl,?_⟩;have Ac:=Az.mk (Kd.S_lower (Kd.S_new' (Kd.S_new' (Kd.S_new' Ag (Kd.S_lt (kS HO732.out))) (Kd.Q_lt (kQ HO734.out))) (Kd.R_lt (kR HO737.out))) (bwZ bw_47));replace HO732:=Az.mk (Kd.S_elder' (kS HO732.out) (Kd.S_base Ag) hb);replace HO734:=Az.mk (Kd.Q_below (kQ HO734.out) hb);replace HO737:=Az.mk (Kd.R_below (kR HO737.out) hb);replace HB:=Az.mk (bwT bw_47 hb);(try clear hb);(try clear Ag))|((with_reducible refine gtC (f:=9) rfl ?_);refine clz Try.func9 (some 65) #[.string Bk] ?_;(with_reducible refine(fP.calls k Bk Gh Cl _ A8.out).mono ?_);rintro e Nc ⟨Ix,rfl,Ag,hb⟩;refine⟨_,rfl,?_⟩;have Ad:=Az.mk (Kd.S_lower (Kd.S_new' (Kd.S_new' (Kd.S_new' (Kd.S_new' Ag (Kd.S_lt (kS HO732.out))) (Kd.Q_lt (kQ HO734.out))) (Kd.R_lt (kR HO737.out))) (Kd.S_lt (kS Ac.out))) (bwZ bw_47));replace HO732:=Az.mk (Kd.S_elder' (kS HO732.out) (Kd.S_base Ag) hb);replace HO734:=Az.mk (Kd.Q_below (kQ HO734.out) hb);replace HO737:=Az.mk (Kd.R_below (kR HO737.out) hb);replace Ac:=Az.mk (Kd.S_elder' (kS Ac.out) (Kd.S_base Ag) hb);replace HB:=Az.mk (bwT bw_47 hb);(try clear hb);(try clear Ag))|((with_reducible refine gtC (f:=10) rfl ?_);refine clz Try.func10 (some 70) #[.slice A0 l0.length c0] ?_;(with_reducible refine(jR.calls k _ _ l0 Dm Dn Do Dp _ ?Aa ?Ab A9.out).mono ?_);(case Aa=>exact kC (Kd.C_below Ey.out HB.out));(case Ab=>exact Ez.out);rintro e Nd ⟨Iy,Gx,rfl,Ag,Bi,hb⟩;refine⟨_,rfl,?_⟩;have Ae:=Az.mk (Kd.S_lower (Kd.S_new' (Kd.S_new' (Kd.S_new' (Kd.S_new' (Kd.S_new' Ag (Kd.S_lt (kS HO732.out))) (Kd.Q_lt (kQ HO734.out))) (Kd.R_lt (kR HO737.out))) (Kd.S_lt (kS Ac.out))) (Kd.S_lt (kS Ad.out))) (bwZ bw_47));replace HO732:=Az.mk (Kd.S_mono (Kd.S_told (Kd.S_told (Kd.S_old (kS HO732.out) hb) (Kd.S_base Ag)) (Kd.Q_base Bi)) (fun _ h_=>h_.1));replace Ac:=Az.mk (Kd.S_mono (Kd.S_told (Kd.S_told (Kd.S_old (kS Ac.out) hb) (Kd.S_base Ag)) (Kd.Q_base Bi)) (fun _ h_=>h_.1));replace Ad:=Az.mk (Kd.S_mono (Kd.S_told (Kd.S_told (Kd.S_old (kS Ad.out) hb) (Kd.S_base Ag)) (Kd.Q_base Bi)) (fun _ h_=>h_.1));have HO754:=Az.mk (Kd.Q_lower (Kd.Q_new' (Kd.Q_new' Bi (Kd.Q_lt (kQ HO734.out))) (Kd.R_lt (kR HO737.out))) (bwZ bw_47));replace HO734:=Az.mk (Kd.Q_elder' (kQ HO734.out) (Kd.Q_base Bi) hb);replace HO737:=Az.mk (Kd.R_elder' (kR HO737.out) (Kd.Q_base Bi) hb);replace HB:=Az.mk (bwT bw_47 hb);(try clear hb);(try clear Ag);(try clear Bi))|((with_reducible refine gtC (f:=11) rfl ?_);refine clz Try.func11 (some 77) #[.slice A0 l0.length c0] ?_;(with_reducible refine(jE.calls k _ _ l0 Bb Cm Cn _ ?Aa ?Ab Li.out).mono ?_);(case Aa=>exact kC (Kd.C_below Ey.out HB.out));(case Ab=>exact Ez.out);rintro e Nf ⟨Mk,rfl,Ag,hb⟩;refine⟨_,rfl,?_⟩;have Af:=Az.mk (Kd.S_lower (Kd.S_new' (Kd.S_new' (Kd.S_new' (Kd.S_new' (Kd.S_new' (Kd.S_new' (Kd.S_new' Ag (Kd.S_lt (kS HO732.out))) (Kd.Q_lt (kQ HO734.out))) (Kd.R_lt (kR HO737.out))) (Kd.S_lt (kS Ac.out))) (Kd.S_lt (kS Ad.out))) (Kd.S_lt (kS Ae.out))) (Kd.Q_lt (kQ HO754.out))) (bwZ bw_47));replace HO732:=Az.mk (Kd.S_elder' (kS HO732.out) (Kd.S_base Ag) hb);replace HO734:=Az.mk (Kd.Q_below (kQ HO734.out) hb);replace HO737:=Az.mk (Kd.R_below (kR HO737.out) hb);replace Ac:=Az.mk (Kd.S_elder' (kS Ac.out) (Kd.S_base Ag) hb);replace Ad:=Az.mk (Kd.S_elder' (kS Ad.out) (Kd.S_base Ag) hb);replace Ae:=Az.mk (Kd.S_elder' (kS Ae.out) (Kd.S_base Ag) hb);replace HO754:=Az.mk (Kd.Q_below (kQ HO754.out) hb);replace HB:=Az.mk (bwT bw_47 hb);(try clear hb);(try clear Ag);obtain⟨Bz,Ca,Jj⟩:=Kd.S_slice Af.out;subst Jj)|((with_reducible refine gtC (f:=12) rfl ?_);refine clz Try.func12 (some 85) #[.slice Bz Bb.length Ca, .int .i64 Cm, .int .i64 Cn] ?_;(with_reducible refine(jM.calls k _ _ Bb Cm Cn Bf Bw _ ?Aa ?Ab Lj.out).mono ?_);(case Aa=>exact kC (Kd.S_reads' Af.out).2.2);(case Ab=>exact(Kd.S_reads' Af.out).2.1);rintro e Ng ⟨Gy,rfl,Ag,hb⟩;refine⟨_,rfl,?_⟩;replace HO732:=Az.mk (Kd.S_elder' (kS HO732.out) (Kd.R_base Ag) hb);replace Ac:=Az.mk (Kd.S_elder' (kS Ac.out) (Kd.R_base Ag) hb);replace Ad:=Az.mk (Kd.S_elder' (kS Ad.out) (Kd.R_base Ag) hb);replace Ae:=Az.mk (Kd.S_elder' (kS Ae.out) (Kd.R_base Ag) hb);replace Af:=Az.mk (Kd.S_elder' (kS Af.out) (Kd.R_base Ag) hb);have HO763:=Az.mk (Kd.R_lower (Kd.R_new' (Kd.R_new' (Kd.R_new' Ag (Kd.Q_lt (kQ HO734.out))) (Kd.R_lt (kR HO737.out))) (Kd.Q_lt (kQ HO754.out))) (bwZ bw_47));replace HO734:=Az.mk (Kd.Q_elder' (kQ HO734.out) (Kd.R_base Ag) hb);replace HO737:=Az.mk (Kd.R_elder' (kR HO737.out) (Kd.R_base Ag) hb);replace HO754:=Az.mk (Kd.Q_elder' (kQ HO754.out) (Kd.R_base Ag) hb);replace HB:=Az.mk (bwT bw_47 hb);(try clear hb);(try clear Ag))|((with_reducible refine gtC (f:=13) rfl ?_);refine clz Try.func13 (some 92) #[.slice Bz Bb.length Ca, .int .i64 Cm, .int .i64 Cn] ?_;(with_reducible refine(jC.calls k _ _ Bb Cm Cn Gi Co _ ?Aa ?Ab Lk.out).mono ?_);(case Aa=>exact kC (Kd.S_reads' Af.out).2.2);(case Ab=>exact(Kd.S_reads' Af.out).2.1);rintro e Nh ⟨Gz,rfl,Ag,hb⟩;refine⟨_,rfl,?_⟩;replace HO732:=Az.mk (Kd.S_elder' (kS HO732.out) (Kd.R_base Ag) hb);replace Ac:=Az.mk (Kd.S_elder' (kS Ac.out) (Kd.R_base Ag) hb);replace Ad:=Az.mk (Kd.S_elder' (kS Ad.out) (Kd.R_base Ag) hb);replace Ae:=Az.mk (Kd.S_elder' (kS Ae.out) (Kd.R_base Ag) hb);replace Af:=Az.mk (Kd.S_elder' (kS Af.out) (Kd.R_base Ag) hb);have HO767:=Az.mk (Kd.R_lower (Kd.R_new' (Kd.R_new' (Kd.R_new' (Kd.R_new' Ag (Kd.Q_lt (kQ HO734.out))) (Kd.R_lt (kR HO737.out))) (Kd.Q_lt (kQ HO754.out))) (Kd.R_lt (kR HO763.out))) (bwZ bw_47));replace HO734:=Az.mk (Kd.Q_elder' (kQ HO734.out) (Kd.R_base Ag) hb);replace HO737:=Az.mk (Kd.R_elder' (kR HO737.out) (Kd.R_base Ag) hb);replace HO754:=Az.mk (Kd.Q_elder' (kQ HO754.out) (Kd.R_base Ag) hb);replace HO763:=Az.mk (Kd.R_elder' (kR HO763.out) (Kd.R_base Ag) hb);replace HB:=Az.mk (bwT bw_47 hb);(try clear hb);(try clear Ag))|((with_reducible refine gtC (f:=14) rfl ?_);refine clz Try.func14 (some 97) #[.slice A0 l0.length c0] ?_;(with_reducible refine(jA.calls k _ _ l0 Bl Bm _ ?Aa ?Ab Ll.out).mono ?_);(case Aa=>exact kC (Kd.C_below Ey.out HB.out));(case Ab=>exact Ez.out);rintro e Nl ⟨Ml,Mm,rfl,Ag,Bi,hb⟩;refine⟨_,rfl,?_⟩;replace HO732:=Az.mk (Kd.S_mono (Kd.S_told (Kd.S_told (Kd.S_old (kS HO732.out) hb) (Kd.Q_base Ag)) (Kd.Q_base Bi)) (fun _ h_=>h_.1));replace Ac:=Az.mk (Kd.S_mono (Kd.S_told (Kd.S_told (Kd.S_old (kS Ac.out) hb) (Kd.Q_base Ag)) (Kd.Q_base Bi)) (fun _ h_=>h_.1));replace Ad:=Az.mk (Kd.S_mono (Kd.S_told (Kd.S_told (Kd.S_old (kS Ad.out) hb) (Kd.Q_base Ag)) (Kd.Q_base Bi)) (fun _ h_=>h_.1));replace Ae:=Az.mk (Kd.S_mono (Kd.S_told (Kd.S_told (Kd.S_old (kS Ae.out) hb) (Kd.Q_base Ag)) (Kd.Q_base Bi)) (fun _ h_=>h_.1));replace Af:=Az.mk (Kd.S_mono (Kd.S_told (Kd.S_told (Kd.S_old (kS Af.out) hb) (Kd.Q_base Ag)) (Kd.Q_base Bi)) (fun _ h_=>h_.1));have HO771:=Az.mk (Kd.Q_lower (Kd.Q_new' (Kd.Q_new' (Kd.Q_new' (Kd.Q_new' (Kd.Q_new' Ag (Kd.Q_lt (kQ HO734.out))) (Kd.R_lt (kR HO737.out))) (Kd.Q_lt (kQ HO754.out))) (Kd.R_lt (kR HO763.out))) (Kd.R_lt (kR HO767.out))) (bwZ bw_47));have HO773:=Az.mk (Kd.Q_lower (Kd.Q_new' (Kd.Q_new' (Kd.Q_new' (Kd.Q_new' (Kd.Q_new' Bi (Kd.Q_lt (kQ HO734.out))) (Kd.R_lt (kR HO737.out))) (Kd.Q_lt (kQ HO754.out))) (Kd.R_lt (kR HO763.out))) (Kd.R_lt (kR HO767.out))) (bwZ bw_47));replace HO734:=Az.mk (Kd.Q_mono (Kd.Q_told (Kd.Q_told (Kd.Q_old (kQ HO734.out) hb) (Kd.Q_base Ag)) (Kd.Q_base Bi)) (fun _ h_=>h_.1));replace HO737:=Az.mk (Kd.R_mono (Kd.R_told (Kd.R_told (Kd.R_old (kR HO737.out) hb) (Kd.Q_base Ag)) (Kd.Q_base Bi)) (fun _ h_=>h_.1));replace HO754:=Az.mk (Kd.Q_mono (Kd.Q_told (Kd.Q_told (Kd.Q_old (kQ HO754.out) hb) (Kd.Q_base Ag)) (Kd.Q_base Bi)) (fun _ h_=>h_.1));replace HO763:=Az.mk (Kd.R_mono (Kd.R_told (Kd.R_told (Kd.R_old (kR HO763.out) hb) (Kd.Q_base Ag)) (Kd.Q_base Bi)) (fun _ h_=>h_.1));replace HO767:=Az.mk (Kd.R_mono (Kd.R_told (Kd.R_told (Kd.R_old (kR HO767.out) hb) (Kd.Q_base Ag)) (Kd.Q_base Bi)) (fun _ h_=>h_.1));replace HB:=Az.mk (bwT bw_47 hb);(try clear hb);(try clear Ag);(try clear Bi);obtain⟨Cv,Cw,Jk,_⟩:=Kd.Q_slice HO771.out;subst Jk;obtain⟨Da,Db,Jl,_⟩:=Kd.Q_slice HO773.out;subst Jl)|((with_reducible refine gtC (f:=15) rfl ?_);refine clz Try.func15 (some 103) #[.slice Cv Bl.length Cw, .slice Da Bm.length Db] ?_;(with_reducible refine(fJ.calls k _ _ Bl _ _ Bm Gj Cp _ ?Aa ?Ab ?Ai ?Aj Lm.out).mono ?_);(case Aa=>exact kC (Kd.Q_reads' HO771.out).2.2);(case Ab=>exact(Kd.Q_reads' HO771.out).2.1);(case Ai=>exact kC (Kd.Q_reads' HO773.out).2.2);(case Aj=>exact(Kd.Q_reads' HO773.out).2.1);rintro e Nm ⟨Ha,rfl,Ag,hb⟩;refine⟨_,rfl,?_⟩;replace HO732:=Az.mk (Kd.S_elder' (kS HO732.out) (Kd.R_base Ag) hb);replace Ac:=Az.mk (Kd.S_elder' (kS Ac.out) (Kd.R_base Ag) hb);replace Ad:=Az.mk (Kd.S_elder' (kS Ad.out) (Kd.R_base Ag) hb);replace Ae:=Az.mk (Kd.S_elder' (kS Ae.out) (Kd.R_base Ag) hb);replace Af:=Az.mk (Kd.S_elder' (kS Af.out) (Kd.R_base Ag) hb);have HO777:=Az.mk (Kd.R_lower (Kd.R_new' (Kd.R_new' (Kd.R_new' (Kd.R_new' (Kd.R_new' (Kd.R_new' (Kd.R_new' Ag (Kd.Q_lt (kQ HO734.out))) (Kd.R_lt (kR HO737.out))) (Kd.Q_lt (kQ HO754.out))) (Kd.R_lt (kR HO763.out))) (Kd.R_lt (kR HO767.out))) (Kd.Q_lt (kQ HO771.out))) (Kd.Q_lt (kQ HO773.out))) (bwZ bw_47));replace HO734:=Az.mk (Kd.Q_elder' (kQ HO734.out) (Kd.R_base Ag) hb);replace HO737:=Az.mk (Kd.R_elder' (kR HO737.out) (Kd.R_base Ag) hb);replace HO754:=Az.mk (Kd.Q_elder' (kQ HO754.out) (Kd.R_base Ag) hb);replace HO763:=Az.mk (Kd.R_elder' (kR HO763.out) (Kd.R_base Ag) hb);replace HO767:=Az.mk (Kd.R_elder' (kR HO767.out) (Kd.R_base Ag) hb);replace HO771:=Az.mk (Kd.Q_elder' (kQ HO771.out) (Kd.R_base Ag) hb);replace HO773:=Az.mk (Kd.Q_elder' (kQ HO773.out) (Kd.R_base Ag) hb);replace HB:=Az.mk (bwT bw_47 hb);(try clear hb);(try clear Ag))|((with_reducible refine gtC (f:=16) rfl ?_);refine clz Try.func16 (some 109) #[.slice Cv Bl.length Cw, .slice Da Bm.length Db] ?_;(with_reducible refine(fG.calls k _ _ Bl _ _ Bm Gk Cq _ ?Aa ?Ab ?Ai ?Aj Ln.out).mono ?_);(case Aa=>exact kC (Kd.Q_reads' HO771.out).2.2);(case Ab=>exact(Kd.Q_reads' HO771.out).2.1);(case Ai=>exact kC (Kd.Q_reads' HO773.out).2.2);(case Aj=>exact(Kd.Q_reads' HO773.out).2.1);rintro e Nn ⟨Hb,rfl,Ag,hb⟩;refine⟨_,rfl,?_⟩;replace HO732:=Az.mk (Kd.S_elder' (kS HO732.out) (Kd.R_base Ag) hb);replace Ac:=Az.mk (Kd.S_elder' (kS Ac.out) (Kd.R_base Ag) hb);replace Ad:=Az.mk (Kd.S_elder' (kS Ad.out) (Kd.R_base Ag) hb);replace Ae:=Az.mk (Kd.S_elder' (kS Ae.out) (Kd.R_base Ag) hb);replace Af:=Az.mk (Kd.S_elder' (kS Af.out) (Kd.R_base Ag) hb);have HO781:=Az.mk (Kd.R_lower (Kd.R_new' (Kd.R_new' (Kd.R_new' (Kd.R_new' (Kd.R_new' (Kd.R_new' (Kd.R_new' (Kd.R_new' Ag (Kd.Q_lt (kQ HO734.out))) (Kd.R_lt (kR HO737.out))) (Kd.Q_lt (kQ HO754.out))) (Kd.R_lt (kR HO763.out))) (Kd.R_lt (kR HO767.out))) (Kd.Q_lt (kQ HO771.out))) (Kd.Q_lt (kQ HO773.out))) (Kd.R_lt (kR HO777.out))) (bwZ bw_47));replace HO734:=Az.mk (Kd.Q_elder' (kQ HO734.out) (Kd.R_base Ag) hb);replace HO737:=Az.mk (Kd.R_elder' (kR HO737.out) (Kd.R_base Ag) hb);replace HO754:=Az.mk (Kd.Q_elder' (kQ HO754.out) (Kd.R_base Ag) hb);replace HO763:=Az.mk (Kd.R_elder' (kR HO763.out) (Kd.R_base Ag) hb);replace HO767:=Az.mk (Kd.R_elder' (kR HO767.out) (Kd.R_base Ag) hb);replace HO771:=Az.mk (Kd.Q_elder' (kQ HO771.out) (Kd.R_base Ag) hb);replace HO773:=Az.mk (Kd.Q_elder' (kQ HO773.out) (Kd.R_base Ag) hb);replace HO777:=Az.mk (Kd.R_elder' (kR HO777.out) (Kd.R_base Ag) hb);replace HB:=Az.mk (bwT bw_47 hb);(try clear hb);(try clear Ag))|((with_reducible refine gtC (f:=17) rfl ?_);refine clz Try.func17 (some 114) #[.slice Bc Ao.length Av] ?_;(with_reducible refine(fU.calls k _ _ Ao t782 t783 t784 Dq Bx _ ?Aa ?Ab Lo.out).mono ?_);(case Aa=>exact kC (Kd.S_reads' HO732.out).2.2);(case Ab=>exact(Kd.S_reads' HO732.out).2.1);rintro e Np ⟨rfl,hb⟩;refine⟨_,rfl,?_⟩;replace HO732:=Az.mk (Kd.S_below (kS HO732.out) hb);replace HO734:=Az.mk (Kd.Q_below (kQ HO734.out) hb);replace HO737:=Az.mk (Kd.R_below (kR HO737.out) hb);replace Ac:=Az.mk (Kd.S_below (kS Ac.out) hb);replace Ad:=Az.mk (Kd.S_below (kS Ad.out) hb);replace Ae:=Az.mk (Kd.S_below (kS Ae.out) hb);replace HO754:=Az.mk (Kd.Q_below (kQ HO754.out) hb);replace Af:=Az.mk (Kd.S_below (kS Af.out) hb);replace HO763:=Az.mk (Kd.R_below (kR HO763.out) hb);replace HO767:=Az.mk (Kd.R_below (kR HO767.out) hb);replace HO771:=Az.mk (Kd.Q_below (kQ HO771.out) hb);replace HO773:=Az.mk (Kd.Q_below (kQ HO773.out) hb);replace HO777:=Az.mk (Kd.R_below (kR HO777.out) hb);replace HO781:=Az.mk (Kd.R_below (kR HO781.out) hb);replace HB:=Az.mk (bwT bw_47 hb);(try clear hb))|((with_reducible refine gtD (N:=28) rfl ?_);(try(refine gate_guard (by rfl) ?_;dsimp only));refine bx (N:=28) (cs:= #[.int .i64 0, .int .i64 0, .int .i64 0]) (t:=42) ?_;intro gb787 hg Nq hbox hb;replace HO732:=Az.mk (Kd.S_below (kS HO732.out) hb);replace HO734:=Az.mk (Kd.Q_below (kQ HO734.out) hb);replace HO737:=Az.mk (Kd.R_below (kR HO737.out) hb);replace Ac:=Az.mk (Kd.S_below (kS Ac.out) hb);replace Ad:=Az.mk (Kd.S_below (kS Ad.out) hb);replace Ae:=Az.mk (Kd.S_below (kS Ae.out) hb);replace HO754:=Az.mk (Kd.Q_below (kQ HO754.out) hb);replace Af:=Az.mk (Kd.S_below (kS Af.out) hb);replace HO763:=Az.mk (Kd.R_below (kR HO763.out) hb);replace HO767:=Az.mk (Kd.R_below (kR HO767.out) hb);replace HO771:=Az.mk (Kd.Q_below (kQ HO771.out) hb);replace HO773:=Az.mk (Kd.Q_below (kQ HO773.out) hb);replace HO777:=Az.mk (Kd.R_below (kR HO777.out) hb);replace HO781:=Az.mk (Kd.R_below (kR HO781.out) hb);have BK787:=Az.mk (hbox);have Le:=gwz hg bw_47;have GE787:=gwz hg bw_47;replace HB:=Az.mk (bwT bw_47 hb);clear hb hbox hg;obtain⟨Dr,Ds,Dt,Du,Dv,Dw⟩:=bq3 BK787)|((with_reducible refine gtC (f:=18) rfl ?_);refine clz Try.func18 (some 120) #[.slice Bc Ao.length Av] ?_;(with_reducible refine(gD.calls k _ _ Ao t788 t789 t790 Gl Cs _ ?Aa ?Ab Lp.out).mono ?_);(case Aa=>refine(Kd.S_reads' (e:=25) (base:=w.heap.size) (ok:=fun k_=>((((((((((((some k_≠(.slice Ax Ap.length Aw:Value).ownBlock∧some k_≠(Gw:Value).ownBlock)∧some k_≠(Iw:Value).ownBlock)∧some k_≠(Ix:Value).ownBlock)∧some k_≠(Iy:Value).ownBlock)∧some k_≠(Gx:Value).ownBlock)∧some k_≠(.slice Bz Bb.length Ca:Value).ownBlock)∧some k_≠(Gy:Value).ownBlock)∧some k_≠(Gz:Value).ownBlock)∧some k_≠(.slice Cv Bl.length Cw:Value).ownBlock)∧some k_≠(.slice Da Bm.length Db:Value).ownBlock)∧some k_≠(Ha:Value).ownBlock)∧some k_≠(Hb:Value).ownBlock)) (n:=Ao.length) (c:=Av) ?_).2.2;exact z47_1);(case Ab=>exact(Kd.S_reads' HO732.out).2.1);rintro e Nr ⟨rfl,hb⟩;refine⟨_,rfl,?_⟩;replace HO732:=Az.mk (Kd.S_below z47_1 hb);replace HO734:=Az.mk (Kd.Q_below (by(with_reducible repeat(first|apply Kd.Q_alloc|apply Kd.Q_drewN|apply Kd.Q_drew));exact(Kd.Q_mono (Kd.Q_far (p:=⟨gb787,2,none⟩) (Kd.Q_far (p:=⟨gb787,1,none⟩) (Kd.Q_far (p:=⟨gb787,0,none⟩) (Kd.Q_types HO734.out BK787.out (by decide)) (fun _ hk=>hk.2) (.int .i64 t782)) (fun _ hk=>hk.2) (.int .i64 t783)) (fun _ hk=>hk.2) (.int .i64 t784)) (fun _ h_=>h_.1))) hb);replace HO737:=Az.mk (Kd.R_below (by(with_reducible repeat(first|apply Kd.R_alloc|apply Kd.R_drewN|apply Kd.R_drew));exact(Kd.R_mono (Kd.R_far (p:=⟨gb787,2,none⟩) (Kd.R_far (p:=⟨gb787,1,none⟩) (Kd.R_far (p:=⟨gb787,0,none⟩) (Kd.R_types HO737.out BK787.out (by decide)) (fun _ hk=>hk.2) (.int .i64 t782)) (fun _ hk=>hk.2) (.int .i64 t783)) (fun _ hk=>hk.2) (.int .i64 t784)) (fun _ h_=>h_.1))) hb);replace Ac:=Az.mk (Kd.S_below (by(with_reducible repeat(first|apply Kd.S_alloc|apply Kd.S_drewN|apply Kd.S_drew));exact(Kd.S_mono (Kd.S_far (p:=⟨gb787,2,none⟩) (Kd.S_far (p:=⟨gb787,1,none⟩) (Kd.S_far (p:=⟨gb787,0,none⟩) (Kd.S_types Ac.out BK787.out (by decide)) (fun _ hk=>hk.2) (.int .i64 t782)) (fun _ hk=>hk.2) (.int .i64 t783)) (fun _ hk=>hk.2) (.int .i64 t784)) (fun _ h_=>h_.1))) hb);replace Ad:=Az.mk (Kd.S_below (by(with_reducible repeat(first|apply Kd.S_alloc|apply Kd.S_drewN|apply Kd.S_drew));exact(Kd.S_mono (Kd.S_far (p:=⟨gb787,2,none⟩) (Kd.S_far (p:=⟨gb787,1,none⟩) (Kd.S_far (p:=⟨gb787,0,none⟩) (Kd.S_types Ad.out BK787.out (by decide)) (fun _ hk=>hk.2) (.int .i64 t782)) (fun _ hk=>hk.2) (.int .i64 t783)) (fun _ hk=>hk.2) (.int .i64 t784)) (fun _ h_=>h_.1))) hb);replace Ae:=Az.mk (Kd.S_below (by(with_reducible repeat(first|apply Kd.S_alloc|apply Kd.S_drewN|apply Kd.S_drew));exact(Kd.S_mono (Kd.S_far (p:=⟨gb787,2,none⟩) (Kd.S_far (p:=⟨gb787,1,none⟩) (Kd.S_far (p:=⟨gb787,0,none⟩) (Kd.S_types Ae.out BK787.out (by decide)) (fun _ hk=>hk.2) (.int .i64 t782)) (fun _ hk=>hk.2) (.int .i64 t783)) (fun _ hk=>hk.2) (.int .i64 t784)) (fun _ h_=>h_.1))) hb);replace HO754:=Az.mk (Kd.Q_below (by(with_reducible repeat(first|apply Kd.Q_alloc|apply Kd.Q_drewN|apply Kd.Q_drew));exact(Kd.Q_mono (Kd.Q_far (p:=⟨gb787,2,none⟩) (Kd.Q_far (p:=⟨gb787,1,none⟩) (Kd.Q_far (p:=⟨gb787,0,none⟩) (Kd.Q_types HO754.out BK787.out (by decide)) (fun _ hk=>hk.2) (.int .i64 t782)) (fun _ hk=>hk.2) (.int .i64 t783)) (fun _ hk=>hk.2) (.int .i64 t784)) (fun _ h_=>h_.1))) hb);replace Af:=Az.mk (Kd.S_below (by(with_reducible repeat(first|apply Kd.S_alloc|apply Kd.S_drewN|apply Kd.S_drew));exact(Kd.S_mono (Kd.S_far (p:=⟨gb787,2,none⟩) (Kd.S_far (p:=⟨gb787,1,none⟩) (Kd.S_far (p:=⟨gb787,0,none⟩) (Kd.S_types Af.out BK787.out (by decide)) (fun _ hk=>hk.2) (.int .i64 t782)) (fun _ hk=>hk.2) (.int .i64 t783)) (fun _ hk=>hk.2) (.int .i64 t784)) (fun _ h_=>h_.1))) hb);replace HO763:=Az.mk (Kd.R_below (by(with_reducible repeat(first|apply Kd.R_alloc|apply Kd.R_drewN|apply Kd.R_drew));exact(Kd.R_mono (Kd.R_far (p:=⟨gb787,2,none⟩) (Kd.R_far (p:=⟨gb787,1,none⟩) (Kd.R_far (p:=⟨gb787,0,none⟩) (Kd.R_types HO763.out BK787.out (by decide)) (fun _ hk=>hk.2) (.int .i64 t782)) (fun _ hk=>hk.2) (.int .i64 t783)) (fun _ hk=>hk.2) (.int .i64 t784)) (fun _ h_=>h_.1))) hb);replace HO767:=Az.mk (Kd.R_below (by(with_reducible repeat(first|apply Kd.R_alloc|apply Kd.R_drewN|apply Kd.R_drew));exact(Kd.R_mono (Kd.R_far (p:=⟨gb787,2,none⟩) (Kd.R_far (p:=⟨gb787,1,none⟩) (Kd.R_far (p:=⟨gb787,0,none⟩) (Kd.R_types HO767.out BK787.out (by decide)) (fun _ hk=>hk.2) (.int .i64 t782)) (fun _ hk=>hk.2) (.int .i64 t783)) (fun _ hk=>hk.2) (.int .i64 t784)) (fun _ h_=>h_.1))) hb);replace HO771:=Az.mk (Kd.Q_below (by(with_reducible repeat(first|apply Kd.Q_alloc|apply Kd.Q_drewN|apply Kd.Q_drew));exact(Kd.Q_mono (Kd.Q_far (p:=⟨gb787,2,none⟩) (Kd.Q_far (p:=⟨gb787,1,none⟩) (Kd.Q_far (p:=⟨gb787,0,none⟩) (Kd.Q_types HO771.out BK787.out (by decide)) (fun _ hk=>hk.2) (.int .i64 t782)) (fun _ hk=>hk.2) (.int .i64 t783)) (fun _ hk=>hk.2) (.int .i64 t784)) (fun _ h_=>h_.1))) hb);replace HO773:=Az.mk (Kd.Q_below (by(with_reducible repeat(first|apply Kd.Q_alloc|apply Kd.Q_drewN|apply Kd.Q_drew));exact(Kd.Q_mono (Kd.Q_far (p:=⟨gb787,2,none⟩) (Kd.Q_far (p:=⟨gb787,1,none⟩) (Kd.Q_far (p:=⟨gb787,0,none⟩) (Kd.Q_types HO773.out BK787.out (by decide)) (fun _ hk=>hk.2) (.int .i64 t782)) (fun _ hk=>hk.2) (.int .i64 t783)) (fun _ hk=>hk.2) (.int .i64 t784)) (fun _ h_=>h_.1))) hb);replace HO777:=Az.mk (Kd.R_below (by(with_reducible repeat(first|apply Kd.R_alloc|apply Kd.R_drewN|apply Kd.R_drew));exact(Kd.R_mono (Kd.R_far (p:=⟨gb787,2,none⟩) (Kd.R_far (p:=⟨gb787,1,none⟩) (Kd.R_far (p:=⟨gb787,0,none⟩) (Kd.R_types HO777.out BK787.out (by decide)) (fun _ hk=>hk.2) (.int .i64 t782)) (fun _ hk=>hk.2) (.int .i64 t783)) (fun _ hk=>hk.2) (.int .i64 t784)) (fun _ h_=>h_.1))) hb);replace HO781:=Az.mk (Kd.R_below (by(with_reducible repeat(first|apply Kd.R_alloc|apply Kd.R_drewN|apply Kd.R_drew));exact(Kd.R_mono (Kd.R_far (p:=⟨gb787,2,none⟩) (Kd.R_far (p:=⟨gb787,1,none⟩) (Kd.R_far (p:=⟨gb787,0,none⟩) (Kd.R_types HO781.out BK787.out (by decide)) (fun _ hk=>hk.2) (.int .i64 t782)) (fun _ hk=>hk.2) (.int .i64 t783)) (fun _ hk=>hk.2) (.int .i64 t784)) (fun _ h_=>h_.1))) hb);replace BK787:=Az.mk (bkB (g:=gb787) (o:= .cells #[.int .i64 t782, .int .i64 t783, .int .i64 t784] 42 (0,0)) bkv hb);replace HB:=Az.mk (bwT bw_47 hb);(try clear hb);(try clear hk))|((with_reducible refine gtD (N:=31) rfl ?_);(try(refine gate_guard (by rfl) ?_;dsimp only));refine bx (N:=31) (cs:= #[.int .i64 0, .int .i64 0, .int .i64 0]) (t:=42) ?_;intro gb793 hg Ns hbox hb;replace HO732:=Az.mk (Kd.S_below (kS HO732.out) hb);replace HO734:=Az.mk (Kd.Q_below (kQ HO734.out) hb);replace HO737:=Az.mk (Kd.R_below (kR HO737.out) hb);replace Ac:=Az.mk (Kd.S_below (kS Ac.out) hb);replace Ad:=Az.mk (Kd.S_below (kS Ad.out) hb);replace Ae:=Az.mk (Kd.S_below (kS Ae.out) hb);replace HO754:=Az.mk (Kd.Q_below (kQ HO754.out) hb);replace Af:=Az.mk (Kd.S_below (kS Af.out) hb);replace HO763:=Az.mk (Kd.R_below (kR HO763.out) hb);replace HO767:=Az.mk (Kd.R_below (kR HO767.out) hb);replace HO771:=Az.mk (Kd.Q_below (kQ HO771.out) hb);replace HO773:=Az.mk (Kd.Q_below (kQ HO773.out) hb);replace HO777:=Az.mk (Kd.R_below (kR HO777.out) hb);replace HO781:=Az.mk (Kd.R_below (kR HO781.out) hb);have BK793:=Az.mk (hbox);have Lf:=gwz hg bw_47;have GE793:=gwz hg bw_47;replace HB:=Az.mk (bwT bw_47 hb);have NB787_793:=nlt BK787 hg;have NB793_787:=ngt BK787 hg;replace BK787:=bkz BK787 hb;clear hb hbox hg;have hnb75:=NB793_787.out;have hnc75:=NB787_793.out;obtain⟨Dx,Dy,Dz,Ea,Eb,Ec⟩:=bq3 BK793)|((with_reducible refine gtC (f:=19) rfl ?_);refine clz Try.func19 (some 127) #[.slice Bc Ao.length Av, .slice Ax Ap.length Aw] ?_;(with_reducible refine(fC.calls k _ _ Ao _ _ Ap Bh Ct _ ?Aa ?Ab ?Ai ?Aj Lq.out).mono ?_);(case Aa=>refine(Kd.S_reads' (e:=25) (base:=w.heap.size) (ok:=fun k_=>((((((((((((some k_≠(.slice Ax Ap.length Aw:Value).ownBlock∧some k_≠(Gw:Value).ownBlock)∧some k_≠(Iw:Value).ownBlock)∧some k_≠(Ix:Value).ownBlock)∧some k_≠(Iy:Value).ownBlock)∧some k_≠(Gx:Value).ownBlock)∧some k_≠(.slice Bz Bb.length Ca:Value).ownBlock)∧some k_≠(Gy:Value).ownBlock)∧some k_≠(Gz:Value).ownBlock)∧some k_≠(.slice Cv Bl.length Cw:Value).ownBlock)∧some k_≠(.slice Da Bm.length Db:Value).ownBlock)∧some k_≠(Ha:Value).ownBlock)∧some k_≠(Hb:Value).ownBlock)) (n:=Ao.length) (c:=Av) ?_).2.2;exact z47_2);(case Ab=>exact(Kd.S_reads' HO732.out).2.1);(case Ai=>refine(Kd.Q_reads' (e:=3) (base:=w.heap.size) (ok:=fun k_=>((((((((True∧some k_≠(Gw:Value).ownBlock)∧some k_≠(Gx:Value).ownBlock)∧some k_≠(Gy:Value).ownBlock)∧some k_≠(Gz:Value).ownBlock)∧some k_≠(.slice Cv Bl.length Cw:Value).ownBlock)∧some k_≠(.slice Da Bm.length Db:Value).ownBlock)∧some k_≠(Ha:Value).ownBlock)∧some k_≠(Hb:Value).ownBlock)) (n:=Ap.length) (c:=Aw) ?_).2.2;exact z47_0);(case Aj=>exact(Kd.Q_reads' HO734.out).2.1);rintro e Nt ⟨Mn,rfl,Ag,hb⟩;refine⟨_,rfl,?_⟩;replace HO732:=Az.mk (Kd.S_elder' z47_2 (Kd.R_base Ag) hb);replace Ac:=Az.mk (Kd.S_elder' (by(with_reducible repeat(first|apply Kd.S_alloc|apply Kd.S_drewN|apply Kd.S_drew));exact(Kd.S_mono (Kd.S_far (p:=⟨gb793,2,none⟩) (Kd.S_far (p:=⟨gb793,1,none⟩) (Kd.S_far (p:=⟨gb793,0,none⟩) (Kd.S_types Ac.out BK793.out (by decide)) (fun _ hk=>hk.2) (.int .i64 t788)) (fun _ hk=>hk.2) (.int .i64 t789)) (fun _ hk=>hk.2) (.int .i64 t790)) (fun _ h_=>h_.1))) (Kd.R_base Ag) hb);replace Ad:=Az.mk (Kd.S_elder' (by(with_reducible repeat(first|apply Kd.S_alloc|apply Kd.S_drewN|apply Kd.S_drew));exact(Kd.S_mono (Kd.S_far (p:=⟨gb793,2,none⟩) (Kd.S_far (p:=⟨gb793,1,none⟩) (Kd.S_far (p:=⟨gb793,0,none⟩) (Kd.S_types Ad.out BK793.out (by decide)) (fun _ hk=>hk.2) (.int .i64 t788)) (fun _ hk=>hk.2) (.int .i64 t789)) (fun _ hk=>hk.2) (.int .i64 t790)) (fun _ h_=>h_.1))) (Kd.R_base Ag) hb);replace Ae:=Az.mk (Kd.S_elder' (by(with_reducible repeat(first|apply Kd.S_alloc|apply Kd.S_drewN|apply Kd.S_drew));exact(Kd.S_mono (Kd.S_far (p:=⟨gb793,2,none⟩) (Kd.S_far (p:=⟨gb793,1,none⟩) (Kd.S_far (p:=⟨gb793,0,none⟩) (Kd.S_types Ae.out BK793.out (by decide)) (fun _ hk=>hk.2) (.int .i64 t788)) (fun _ hk=>hk.2) (.int .i64 t789)) (fun _ hk=>hk.2) (.int .i64 t790)) (fun _ h_=>h_.1))) (Kd.R_base Ag) hb);replace Af:=Az.mk (Kd.S_elder' (by(with_reducible repeat(first|apply Kd.S_alloc|apply Kd.S_drewN|apply Kd.S_drew));exact(Kd.S_mono (Kd.S_far (p:=⟨gb793,2,none⟩) (Kd.S_far (p:=⟨gb793,1,none⟩) (Kd.S_far (p:=⟨gb793,0,none⟩) (Kd.S_types Af.out BK793.out (by decide)) (fun _ hk=>hk.2) (.int .i64 t788)) (fun _ hk=>hk.2) (.int .i64 t789)) (fun _ hk=>hk.2) (.int .i64 t790)) (fun _ h_=>h_.1))) (Kd.R_base Ag) hb);have Ah:=Az.mk (Kd.R_lower (Kd.R_new' (Kd.R_new' (Kd.R_new' (Kd.R_new' (Kd.R_new' (Kd.R_new' (Kd.R_new' (Kd.R_new' (Kd.R_new' Ag (Kd.Q_lt z47_0)) (Kd.R_lt z47_3)) (Kd.Q_lt z47_4)) (Kd.R_lt z47_5)) (Kd.R_lt z47_6)) (Kd.Q_lt z47_7)) (Kd.Q_lt z47_8)) (Kd.R_lt z47_9)) (Kd.R_lt z47_10)) (bwZ bw_47));replace HO734:=Az.mk (Kd.Q_elder' z47_0 (Kd.R_base Ag) hb);replace HO737:=Az.mk (Kd.R_elder' z47_3 (Kd.R_base Ag) hb);replace HO754:=Az.mk (Kd.Q_elder' z47_4 (Kd.R_base Ag) hb);replace HO763:=Az.mk (Kd.R_elder' z47_5 (Kd.R_base Ag) hb);replace HO767:=Az.mk (Kd.R_elder' z47_6 (Kd.R_base Ag) hb);replace HO771:=Az.mk (Kd.Q_elder' z47_7 (Kd.R_base Ag) hb);replace HO773:=Az.mk (Kd.Q_elder' z47_8 (Kd.R_base Ag) hb);replace HO777:=Az.mk (Kd.R_elder' z47_9 (Kd.R_base Ag) hb);replace HO781:=Az.mk (Kd.R_elder' z47_10 (Kd.R_base Ag) hb);replace BK787:=Az.mk (bkB (g:=gb787) (o:= .cells #[.int .i64 t782, .int .i64 t783, .int .i64 t784] 42 (0,0)) bkv hb);replace BK793:=Az.mk (bkB (g:=gb793) (o:= .cells #[.int .i64 t788, .int .i64 t789, .int .i64 t790] 42 (0,0)) bkv hb);replace HB:=Az.mk (bwT bw_47 hb);(try clear hb);(try clear hk);(try clear Ag))|((with_reducible refine gtC (f:=20) rfl ?_);refine clz Try.func20 (some 133) #[.slice Bc Ao.length Av, .slice Ax Ap.length Aw] ?_;(with_reducible refine(fI.calls k _ _ Ao _ _ Ap Gm Cu _ ?Aa ?Ab ?Ai ?Aj Lr.out).mono ?_);(case Aa=>exact kC (Kd.S_reads' HO732.out).2.2);(case Ab=>exact(Kd.S_reads' HO732.out).2.1);(case Ai=>exact kC (Kd.Q_reads' HO734.out).2.2);(case Aj=>exact(Kd.Q_reads' HO734.out).2.1);rintro e Nu ⟨Mo,rfl,Ag,hb⟩;refine⟨_,rfl,?_⟩;replace HO732:=Az.mk (Kd.S_elder' (kS HO732.out) (Kd.R_base Ag) hb);replace Ac:=Az.mk (Kd.S_elder' (kS Ac.out) (Kd.R_base Ag) hb);replace Ad:=Az.mk (Kd.S_elder' (kS Ad.out) (Kd.R_base Ag) hb);replace Ae:=Az.mk (Kd.S_elder' (kS Ae.out) (Kd.R_base Ag) hb);replace Af:=Az.mk (Kd.S_elder' (kS Af.out) (Kd.R_base Ag) hb);have Ak:=Az.mk (Kd.R_lower (Kd.R_new' (Kd.R_new' (Kd.R_new' (Kd.R_new' (Kd.R_new' (Kd.R_new' (Kd.R_new' (Kd.R_new' (Kd.R_new' (Kd.R_new' Ag (Kd.Q_lt (kQ HO734.out))) (Kd.R_lt (kR HO737.out))) (Kd.Q_lt (kQ HO754.out))) (Kd.R_lt (kR HO763.out))) (Kd.R_lt (kR HO767.out))) (Kd.Q_lt (kQ HO771.out))) (Kd.Q_lt (kQ HO773.out))) (Kd.R_lt (kR HO777.out))) (Kd.R_lt (kR HO781.out))) (Kd.R_lt (kR Ah.out))) (bwZ bw_47));replace HO734:=Az.mk (Kd.Q_elder' (kQ HO734.out) (Kd.R_base Ag) hb);replace HO737:=Az.mk (Kd.R_elder' (kR HO737.out) (Kd.R_base Ag) hb);replace HO754:=Az.mk (Kd.Q_elder' (kQ HO754.out) (Kd.R_base Ag) hb);replace HO763:=Az.mk (Kd.R_elder' (kR HO763.out) (Kd.R_base Ag) hb);replace HO767:=Az.mk (Kd.R_elder' (kR HO767.out) (Kd.R_base Ag) hb);replace HO771:=Az.mk (Kd.Q_elder' (kQ HO771.out) (Kd.R_base Ag) hb);replace HO773:=Az.mk (Kd.Q_elder' (kQ HO773.out) (Kd.R_base Ag) hb);replace HO777:=Az.mk (Kd.R_elder' (kR HO777.out) (Kd.R_base Ag) hb);replace HO781:=Az.mk (Kd.R_elder' (kR HO781.out) (Kd.R_base Ag) hb);replace Ah:=Az.mk (Kd.R_elder' (kR Ah.out) (Kd.R_base Ag) hb);replace BK787:=bkz BK787 hb;replace BK793:=bkz BK793 hb;replace HB:=Az.mk (bwT bw_47 hb);(try clear hb);(try clear Ag)))
 (try simp only[List.append_eq,List.cons_append,List.nil_append])
 go_upto_region 23 with (first|((with_reducible refine gtC (f:=22) rfl ?_);refine clz Try.func22 (some 139) #[.slice Bc Ao.length Av, .slice Ax Ap.length Aw] ?_;(with_reducible refine(fN.calls k _ _ Ao _ _ Ap Dd _ ?Aa ?Ab ?Ai ?Aj Ls.out).mono ?_);(case Aa=>exact kC (Kd.S_reads' HO732.out).2.2);(case Ab=>exact(Kd.S_reads' HO732.out).2.1);(case Ai=>exact kC (Kd.Q_reads' HO734.out).2.2);(case Aj=>exact(Kd.Q_reads' HO734.out).2.1);rintro e Nv ⟨Mp,rfl,Ag,hb⟩;refine⟨_,rfl,?_⟩;replace HO732:=Az.mk (Kd.S_elder' (kS HO732.out) (Kd.R_base Ag) hb);replace Ac:=Az.mk (Kd.S_elder' (kS Ac.out) (Kd.R_base Ag) hb);replace Ad:=Az.mk (Kd.S_elder' (kS Ad.out) (Kd.R_base Ag) hb);replace Ae:=Az.mk (Kd.S_elder' (kS Ae.out) (Kd.R_base Ag) hb);replace Af:=Az.mk (Kd.S_elder' (kS Af.out) (Kd.R_base Ag) hb);have Al:=Az.mk (Kd.R_lower (Kd.R_new' (Kd.R_new' (Kd.R_new' (Kd.R_new' (Kd.R_new' (Kd.R_new' (Kd.R_new' (Kd.R_new' (Kd.R_new' (Kd.R_new' (Kd.R_new' Ag (Kd.Q_lt (kQ HO734.out))) (Kd.R_lt (kR HO737.out))) (Kd.Q_lt (kQ HO754.out))) (Kd.R_lt (kR HO763.out))) (Kd.R_lt (kR HO767.out))) (Kd.Q_lt (kQ HO771.out))) (Kd.Q_lt (kQ HO773.out))) (Kd.R_lt (kR HO777.out))) (Kd.R_lt (kR HO781.out))) (Kd.R_lt (kR Ah.out))) (Kd.R_lt (kR Ak.out))) (bwZ bw_47));replace HO734:=Az.mk (Kd.Q_elder' (kQ HO734.out) (Kd.R_base Ag) hb);replace HO737:=Az.mk (Kd.R_elder' (kR HO737.out) (Kd.R_base Ag) hb);replace HO754:=Az.mk (Kd.Q_elder' (kQ HO754.out) (Kd.R_base Ag) hb);replace HO763:=Az.mk (Kd.R_elder' (kR HO763.out) (Kd.R_base Ag) hb);replace HO767:=Az.mk (Kd.R_elder' (kR HO767.out) (Kd.R_base Ag) hb);replace HO771:=Az.mk (Kd.Q_elder' (kQ HO771.out) (Kd.R_base Ag) hb);replace HO773:=Az.mk (Kd.Q_elder' (kQ HO773.out) (Kd.R_base Ag) hb);replace HO777:=Az.mk (Kd.R_elder' (kR HO777.out) (Kd.R_base Ag) hb);replace HO781:=Az.mk (Kd.R_elder' (kR HO781.out) (Kd.R_base Ag) hb);replace Ah:=Az.mk (Kd.R_elder' (kR Ah.out) (Kd.R_base Ag) hb);replace Ak:=Az.mk (Kd.R_elder' (kR Ak.out) (Kd.R_base Ag) hb);replace BK787:=bkz BK787 hb;replace BK793:=bkz BK793 hb;replace HB:=Az.mk (bwT bw_47 hb);(try clear hb);(try clear Ag);obtain⟨Bq,Br,Jm⟩:=Kd.R_slice HO737.out;subst Jm;obtain⟨Jo,Jp,Jq⟩:=Kd.R_slice Al.out;subst Jq)|((with_reducible refine gtC (f:=21) rfl ?_);refine clz Try.func21 (some 140) #[.slice Bq Au.length Br, .slice Jo Dd.length Jp] ?_;(with_reducible refine(fZ.calls k _ _ Au _ _ Dd true _ ?Aa ?Ab ?Ai ?Aj Lt.out).mono ?_);(case Aa=>exact kC (Kd.R_reads' HO737.out).2.2);(case Ab=>exact(Kd.R_reads' HO737.out).2.1);(case Ai=>exact kC (Kd.R_reads' Al.out).2.2);(case Aj=>exact(Kd.R_reads' Al.out).2.1);rintro e w' ⟨rfl,⟨nd,rfl⟩⟩;refine⟨_,rfl,?_⟩;obtain⟨Jr,Js,Jt⟩:=Kd.S_slice Ac.out;subst Jt;obtain⟨Ju,Jv,Jw⟩:=Kd.S_slice Ad.out;subst Jw)|(go_at_call 23;(with_reducible refine(gO.calls k _ _ Gg _ _ Gh true _ ?Aa ?Ab ?Ai ?Aj Lu.out).mono ?_);(case Aa=>exact kC (Kd.S_reads' Ac.out).2.2);(case Ab=>exact(Kd.S_reads' Ac.out).2.1);(case Ai=>exact kC (Kd.S_reads' Ad.out).2.2);(case Aj=>exact(Kd.S_reads' Ad.out).2.1);rintro e w' ⟨rfl,⟨nd,rfl⟩⟩;obtain⟨Jx,Jy,Jz⟩:=Kd.S_slice Ae.out;subst Jz;obtain⟨Ka,Kb,Ke,_⟩:=Kd.Q_slice HO754.out;subst Ke)|(go_at_call 24;(with_reducible refine(jW.calls k _ _ Dm _ _ Dn Do Dp Dh _ ?Aa ?Ab ?Ai ?Aj Lv.out).mono ?_);(case Aa=>exact kC (Kd.S_reads' Ae.out).2.2);(case Ab=>exact(Kd.S_reads' Ae.out).2.1);(case Ai=>exact kC (Kd.Q_reads' HO754.out).2.2);(case Aj=>exact(Kd.Q_reads' HO754.out).2.1);rintro e Nw ⟨rfl,hb⟩;replace HO732:=Az.mk (Kd.S_below (kS HO732.out) hb);replace HO734:=Az.mk (Kd.Q_below (kQ HO734.out) hb);replace HO737:=Az.mk (Kd.R_below (kR HO737.out) hb);replace Ac:=Az.mk (Kd.S_below (kS Ac.out) hb);replace Ad:=Az.mk (Kd.S_below (kS Ad.out) hb);replace Ae:=Az.mk (Kd.S_below (kS Ae.out) hb);replace HO754:=Az.mk (Kd.Q_below (kQ HO754.out) hb);replace Af:=Az.mk (Kd.S_below (kS Af.out) hb);replace HO763:=Az.mk (Kd.R_below (kR HO763.out) hb);replace HO767:=Az.mk (Kd.R_below (kR HO767.out) hb);replace HO771:=Az.mk (Kd.Q_below (kQ HO771.out) hb);replace HO773:=Az.mk (Kd.Q_below (kQ HO773.out) hb);replace HO777:=Az.mk (Kd.R_below (kR HO777.out) hb);replace HO781:=Az.mk (Kd.R_below (kR HO781.out) hb);replace Ah:=Az.mk (Kd.R_below (kR Ah.out) hb);replace Ak:=Az.mk (Kd.R_below (kR Ak.out) hb);replace Al:=Az.mk (Kd.R_below (kR Al.out) hb);replace BK787:=bkz BK787 hb;replace BK793:=bkz BK793 hb;replace HB:=Az.mk (bwT bw_47 hb);(try clear hb))|(go_at_call 25;(with_reducible refine(jX.calls k _ _ Dm _ _ Dn Do Dp Di _ ?Aa ?Ab ?Ai ?Aj Lw.out).mono ?_);(case Aa=>exact kC (Kd.S_reads' Ae.out).2.2);(case Ab=>exact(Kd.S_reads' Ae.out).2.1);(case Ai=>exact kC (Kd.Q_reads' HO754.out).2.2);(case Aj=>exact(Kd.Q_reads' HO754.out).2.1);rintro e Nx ⟨rfl,hb⟩;replace HO732:=Az.mk (Kd.S_below (kS HO732.out) hb);replace HO734:=Az.mk (Kd.Q_below (kQ HO734.out) hb);replace HO737:=Az.mk (Kd.R_below (kR HO737.out) hb);replace Ac:=Az.mk (Kd.S_below (kS Ac.out) hb);replace Ad:=Az.mk (Kd.S_below (kS Ad.out) hb);replace Ae:=Az.mk (Kd.S_below (kS Ae.out) hb);replace HO754:=Az.mk (Kd.Q_below (kQ HO754.out) hb);replace Af:=Az.mk (Kd.S_below (kS Af.out) hb);replace HO763:=Az.mk (Kd.R_below (kR HO763.out) hb);replace HO767:=Az.mk (Kd.R_below (kR HO767.out) hb);replace HO771:=Az.mk (Kd.Q_below (kQ HO771.out) hb);replace HO773:=Az.mk (Kd.Q_below (kQ HO773.out) hb);replace HO777:=Az.mk (Kd.R_below (kR HO777.out) hb);replace HO781:=Az.mk (Kd.R_below (kR HO781.out) hb);replace Ah:=Az.mk (Kd.R_below (kR Ah.out) hb);replace Ak:=Az.mk (Kd.R_below (kR Ak.out) hb);replace Al:=Az.mk (Kd.R_below (kR Al.out) hb);replace BK787:=bkz BK787 hb;replace BK793:=bkz BK793 hb;replace HB:=Az.mk (bwT bw_47 hb);(try clear hb);obtain⟨Cc,Cd,Kf⟩:=Kd.R_slice HO763.out;subst Kf;obtain⟨Kg,Kh,Ki⟩:=Kd.R_slice HO767.out;subst Ki)|(go_at_call 21;(with_reducible refine(fZ.calls k _ _ Bf _ _ Gi true _ ?Aa ?Ab ?Ai ?Aj Lx.out).mono ?_);(case Aa=>exact kC (Kd.R_reads' HO763.out).2.2);(case Ab=>exact(Kd.R_reads' HO763.out).2.1);(case Ai=>exact kC (Kd.R_reads' HO767.out).2.2);(case Aj=>exact(Kd.R_reads' HO767.out).2.1);rintro e w' ⟨rfl,⟨nd,rfl⟩⟩;obtain⟨Kj,Kk,Kl⟩:=Kd.R_slice HO777.out;subst Kl;obtain⟨Km,Kn,Ko⟩:=Kd.R_slice HO781.out;subst Ko)|(go_at_call 21;(with_reducible refine(fZ.calls k _ _ Gj _ _ Gk true _ ?Aa ?Ab ?Ai ?Aj Ly.out).mono ?_);(case Aa=>exact kC (Kd.R_reads' HO777.out).2.2);(case Ab=>exact(Kd.R_reads' HO777.out).2.1);(case Ai=>exact kC (Kd.R_reads' HO781.out).2.2);(case Aj=>exact(Kd.R_reads' HO781.out).2.1);rintro e w' ⟨rfl,⟨nd,rfl⟩⟩;obtain⟨Ed,Ee,Ef,Eg,Eh,Ei⟩:=bq3 BK787;obtain⟨Ej,Ek,El,Em,Eo,Ep⟩:=bq3 BK793;obtain⟨Ce,Cf,Kp⟩:=Kd.R_slice Ah.out;subst Kp;obtain⟨Kq,Kr,Ks⟩:=Kd.R_slice Ak.out;subst Ks)|(go_at_call 21;(with_reducible refine(fZ.calls k _ _ Bh _ _ Gm true _ ?Aa ?Ab ?Ai ?Aj Lz.out).mono ?_);(case Aa=>exact kC (Kd.R_reads' Ah.out).2.2);(case Ab=>exact(Kd.R_reads' Ah.out).2.1);(case Ai=>exact kC (Kd.R_reads' Ak.out).2.2);(case Aj=>exact(Kd.R_reads' Ak.out).2.1);rintro e w' ⟨rfl,⟨nd,rfl⟩⟩)|(go_at_call 26;(with_reducible refine(fH.calls k _ _ Ao _ _ Ap Bs _ ?Aa ?Ab ?Ai ?Aj Ma.out).mono ?_);(case Aa=>exact kC (Kd.S_reads' HO732.out).2.2);(case Ab=>exact(Kd.S_reads' HO732.out).2.1);(case Ai=>exact kC (Kd.Q_reads' HO734.out).2.2);(case Aj=>exact(Kd.Q_reads' HO734.out).2.1);rintro e Ny ⟨rfl,hb⟩;replace HO732:=Az.mk (Kd.S_below (kS HO732.out) hb);replace HO734:=Az.mk (Kd.Q_below (kQ HO734.out) hb);replace HO737:=Az.mk (Kd.R_below (kR HO737.out) hb);replace Ac:=Az.mk (Kd.S_below (kS Ac.out) hb);replace Ad:=Az.mk (Kd.S_below (kS Ad.out) hb);replace Ae:=Az.mk (Kd.S_below (kS Ae.out) hb);replace HO754:=Az.mk (Kd.Q_below (kQ HO754.out) hb);replace Af:=Az.mk (Kd.S_below (kS Af.out) hb);replace HO763:=Az.mk (Kd.R_below (kR HO763.out) hb);replace HO767:=Az.mk (Kd.R_below (kR HO767.out) hb);replace HO771:=Az.mk (Kd.Q_below (kQ HO771.out) hb);replace HO773:=Az.mk (Kd.Q_below (kQ HO773.out) hb);replace HO777:=Az.mk (Kd.R_below (kR HO777.out) hb);replace HO781:=Az.mk (Kd.R_below (kR HO781.out) hb);replace Ah:=Az.mk (Kd.R_below (kR Ah.out) hb);replace Ak:=Az.mk (Kd.R_below (kR Ak.out) hb);replace Al:=Az.mk (Kd.R_below (kR Al.out) hb);replace BK787:=bkz BK787 hb;replace BK793:=bkz BK793 hb;replace HB:=Az.mk (bwT bw_47 hb);(try clear hb))|(go_at_call 27;(with_reducible refine(fL.calls k _ _ Ao _ _ Ap Bt _ ?Aa ?Ab ?Ai ?Aj Mb.out).mono ?_);(case Aa=>exact kC (Kd.S_reads' HO732.out).2.2);(case Ab=>exact(Kd.S_reads' HO732.out).2.1);(case Ai=>exact kC (Kd.Q_reads' HO734.out).2.2);(case Aj=>exact(Kd.Q_reads' HO734.out).2.1);rintro e Nz ⟨rfl,hb⟩;replace HO732:=Az.mk (Kd.S_below (kS HO732.out) hb);replace HO734:=Az.mk (Kd.Q_below (kQ HO734.out) hb);replace HO737:=Az.mk (Kd.R_below (kR HO737.out) hb);replace Ac:=Az.mk (Kd.S_below (kS Ac.out) hb);replace Ad:=Az.mk (Kd.S_below (kS Ad.out) hb);replace Ae:=Az.mk (Kd.S_below (kS Ae.out) hb);replace HO754:=Az.mk (Kd.Q_below (kQ HO754.out) hb);replace Af:=Az.mk (Kd.S_below (kS Af.out) hb);replace HO763:=Az.mk (Kd.R_below (kR HO763.out) hb);replace HO767:=Az.mk (Kd.R_below (kR HO767.out) hb);replace HO771:=Az.mk (Kd.Q_below (kQ HO771.out) hb);replace HO773:=Az.mk (Kd.Q_below (kQ HO773.out) hb);replace HO777:=Az.mk (Kd.R_below (kR HO777.out) hb);replace HO781:=Az.mk (Kd.R_below (kR HO781.out) hb);replace Ah:=Az.mk (Kd.R_below (kR Ah.out) hb);replace Ak:=Az.mk (Kd.R_below (kR Ak.out) hb);replace Al:=Az.mk (Kd.R_below (kR Al.out) hb);replace BK787:=bkz BK787 hb;replace BK793:=bkz BK793 hb;replace HB:=Az.mk (bwT bw_47 hb);(try clear hb))|(go_at_call 28;(with_reducible refine(gC.calls k _ _ Ao _ _ Ap Dj _ ?Aa ?Ab ?Ai ?Aj Mc.out).mono ?_);(case Aa=>exact kC (Kd.S_reads' HO732.out).2.2);(case Ab=>exact(Kd.S_reads' HO732.out).2.1);(case Ai=>exact kC (Kd.Q_reads' HO734.out).2.2);(case Aj=>exact(Kd.Q_reads' HO734.out).2.1);rintro e Oa ⟨rfl,hb⟩;replace HO732:=Az.mk (Kd.S_below (kS HO732.out) hb);replace HO734:=Az.mk (Kd.Q_below (kQ HO734.out) hb);replace HO737:=Az.mk (Kd.R_below (kR HO737.out) hb);replace Ac:=Az.mk (Kd.S_below (kS Ac.out) hb);replace Ad:=Az.mk (Kd.S_below (kS Ad.out) hb);replace Ae:=Az.mk (Kd.S_below (kS Ae.out) hb);replace HO754:=Az.mk (Kd.Q_below (kQ HO754.out) hb);replace Af:=Az.mk (Kd.S_below (kS Af.out) hb);replace HO763:=Az.mk (Kd.R_below (kR HO763.out) hb);replace HO767:=Az.mk (Kd.R_below (kR HO767.out) hb);replace HO771:=Az.mk (Kd.Q_below (kQ HO771.out) hb);replace HO773:=Az.mk (Kd.Q_below (kQ HO773.out) hb);replace HO777:=Az.mk (Kd.R_below (kR HO777.out) hb);replace HO781:=Az.mk (Kd.R_below (kR HO781.out) hb);replace Ah:=Az.mk (Kd.R_below (kR Ah.out) hb);replace Ak:=Az.mk (Kd.R_below (kR Ak.out) hb);replace Al:=Az.mk (Kd.R_below (kR Al.out) hb);replace BK787:=bkz BK787 hb;replace BK793:=bkz BK793 hb;replace HB:=Az.mk (bwT bw_47 hb);(try clear hb))|(go_at_call 29;(with_reducible refine(gZ.calls k _ _ Ao _ _ Ap Dk _ ?Aa ?Ab ?Ai ?Aj Md.out).mono ?_);(case Aa=>exact kC (Kd.S_reads' HO732.out).2.2);(case Ab=>exact(Kd.S_reads' HO732.out).2.1);(case Ai=>exact kC (Kd.Q_reads' HO734.out).2.2);(case Aj=>exact(Kd.Q_reads' HO734.out).2.1);rintro e Ob ⟨rfl,hb⟩;replace HO732:=Az.mk (Kd.S_below (kS HO732.out) hb);replace HO734:=Az.mk (Kd.Q_below (kQ HO734.out) hb);replace HO737:=Az.mk (Kd.R_below (kR HO737.out) hb);replace Ac:=Az.mk (Kd.S_below (kS Ac.out) hb);replace Ad:=Az.mk (Kd.S_below (kS Ad.out) hb);replace Ae:=Az.mk (Kd.S_below (kS Ae.out) hb);replace HO754:=Az.mk (Kd.Q_below (kQ HO754.out) hb);replace Af:=Az.mk (Kd.S_below (kS Af.out) hb);replace HO763:=Az.mk (Kd.R_below (kR HO763.out) hb);replace HO767:=Az.mk (Kd.R_below (kR HO767.out) hb);replace HO771:=Az.mk (Kd.Q_below (kQ HO771.out) hb);replace HO773:=Az.mk (Kd.Q_below (kQ HO773.out) hb);replace HO777:=Az.mk (Kd.R_below (kR HO777.out) hb);replace HO781:=Az.mk (Kd.R_below (kR HO781.out) hb);replace Ah:=Az.mk (Kd.R_below (kR Ah.out) hb);replace Ak:=Az.mk (Kd.R_below (kR Ak.out) hb);replace Al:=Az.mk (Kd.R_below (kR Al.out) hb);replace BK787:=bkz BK787 hb;replace BK793:=bkz BK793 hb;replace HB:=Az.mk (bwT bw_47 hb);(try clear hb))|(go_at_call 30;(with_reducible refine(fB.calls k _ _ Ao Bu _ ?Aa ?Ab Me.out).mono ?_);(case Aa=>exact kC (Kd.S_reads' HO732.out).2.2);(case Ab=>exact(Kd.S_reads' HO732.out).2.1);rintro e Mq ⟨rfl,hb⟩;replace HO732:=Az.mk (Kd.S_below (kS HO732.out) hb);replace HO734:=Az.mk (Kd.Q_below (kQ HO734.out) hb);replace HO737:=Az.mk (Kd.R_below (kR HO737.out) hb);replace Ac:=Az.mk (Kd.S_below (kS Ac.out) hb);replace Ad:=Az.mk (Kd.S_below (kS Ad.out) hb);replace Ae:=Az.mk (Kd.S_below (kS Ae.out) hb);replace HO754:=Az.mk (Kd.Q_below (kQ HO754.out) hb);replace Af:=Az.mk (Kd.S_below (kS Af.out) hb);replace HO763:=Az.mk (Kd.R_below (kR HO763.out) hb);replace HO767:=Az.mk (Kd.R_below (kR HO767.out) hb);replace HO771:=Az.mk (Kd.Q_below (kQ HO771.out) hb);replace HO773:=Az.mk (Kd.Q_below (kQ HO773.out) hb);replace HO777:=Az.mk (Kd.R_below (kR HO777.out) hb);replace HO781:=Az.mk (Kd.R_below (kR HO781.out) hb);replace Ah:=Az.mk (Kd.R_below (kR Ah.out) hb);replace Ak:=Az.mk (Kd.R_below (kR Ak.out) hb);replace Al:=Az.mk (Kd.R_below (kR Al.out) hb);replace BK787:=bkz BK787 hb;replace BK793:=bkz BK793 hb;replace HB:=Az.mk (bwT bw_47 hb);(try clear hb))|(go_at_call 31;(with_reducible refine(fA.calls k _ _ Ao Bv _ ?Aa ?Ab Mf.out).mono ?_);(case Aa=>exact kC (Kd.S_reads' HO732.out).2.2);(case Ab=>exact(Kd.S_reads' HO732.out).2.1);rintro e Mr ⟨rfl,hb⟩;replace HO732:=Az.mk (Kd.S_below (kS HO732.out) hb);replace HO734:=Az.mk (Kd.Q_below (kQ HO734.out) hb);replace HO737:=Az.mk (Kd.R_below (kR HO737.out) hb);replace Ac:=Az.mk (Kd.S_below (kS Ac.out) hb);replace Ad:=Az.mk (Kd.S_below (kS Ad.out) hb);replace Ae:=Az.mk (Kd.S_below (kS Ae.out) hb);replace HO754:=Az.mk (Kd.Q_below (kQ HO754.out) hb);replace Af:=Az.mk (Kd.S_below (kS Af.out) hb);replace HO763:=Az.mk (Kd.R_below (kR HO763.out) hb);replace HO767:=Az.mk (Kd.R_below (kR HO767.out) hb);replace HO771:=Az.mk (Kd.Q_below (kQ HO771.out) hb);replace HO773:=Az.mk (Kd.Q_below (kQ HO773.out) hb);replace HO777:=Az.mk (Kd.R_below (kR HO777.out) hb);replace HO781:=Az.mk (Kd.R_below (kR HO781.out) hb);replace Ah:=Az.mk (Kd.R_below (kR Ah.out) hb);replace Ak:=Az.mk (Kd.R_below (kR Ak.out) hb);replace Al:=Az.mk (Kd.R_below (kR Al.out) hb);replace BK787:=bkz BK787 hb;replace BK793:=bkz BK793 hb;replace HB:=Az.mk (bwT bw_47 hb);(try clear hb))|((with_reducible refine gtC (f:=32) rfl ?_);refine clz Try.func32 (some 240) #[.slice Bc Ao.length Av] ?_;(with_reducible refine(gJ.calls k _ _ Ao Bo _ ?Aa ?Ab Mg.out).mono ?_);(case Aa=>exact kC (Kd.S_reads' HO732.out).2.2);(case Ab=>exact(Kd.S_reads' HO732.out).2.1);rintro e Ms ⟨rfl,hb⟩;refine⟨_,rfl,?_⟩;replace HO732:=Az.mk (Kd.S_below (kS HO732.out) hb);replace HO734:=Az.mk (Kd.Q_below (kQ HO734.out) hb);replace HO737:=Az.mk (Kd.R_below (kR HO737.out) hb);replace Ac:=Az.mk (Kd.S_below (kS Ac.out) hb);replace Ad:=Az.mk (Kd.S_below (kS Ad.out) hb);replace Ae:=Az.mk (Kd.S_below (kS Ae.out) hb);replace HO754:=Az.mk (Kd.Q_below (kQ HO754.out) hb);replace Af:=Az.mk (Kd.S_below (kS Af.out) hb);replace HO763:=Az.mk (Kd.R_below (kR HO763.out) hb);replace HO767:=Az.mk (Kd.R_below (kR HO767.out) hb);replace HO771:=Az.mk (Kd.Q_below (kQ HO771.out) hb);replace HO773:=Az.mk (Kd.Q_below (kQ HO773.out) hb);replace HO777:=Az.mk (Kd.R_below (kR HO777.out) hb);replace HO781:=Az.mk (Kd.R_below (kR HO781.out) hb);replace Ah:=Az.mk (Kd.R_below (kR Ah.out) hb);replace Ak:=Az.mk (Kd.R_below (kR Ak.out) hb);replace Al:=Az.mk (Kd.R_below (kR Al.out) hb);replace BK787:=bkz BK787 hb;replace BK793:=bkz BK793 hb;replace HB:=Az.mk (bwT bw_47 hb);(try clear hb))|((with_reducible refine gtC (f:=8) rfl ?_);refine clz Try.func8 (some 243) #[.string Bo] ?_;(with_reducible refine(fR.calls k Bo Iv By _ Mh.out).mono ?_);rintro e Mt ⟨Ku,rfl,Ag,hb⟩;refine⟨_,rfl,?_⟩;have As:=Az.mk (Kd.S_lower (Kd.S_new' (Kd.S_new' (Kd.S_new' (Kd.S_new' (Kd.S_new' (Kd.S_new' (Kd.S_new' (Kd.S_new' (Kd.S_new' (Kd.S_new' (Kd.S_new' (Kd.S_new' (Kd.S_new' (Kd.S_new' (Kd.S_new' (Kd.S_new' (Kd.S_new' Ag (Kd.S_lt (kS HO732.out))) (Kd.Q_lt (kQ HO734.out))) (Kd.R_lt (kR HO737.out))) (Kd.S_lt (kS Ac.out))) (Kd.S_lt (kS Ad.out))) (Kd.S_lt (kS Ae.out))) (Kd.Q_lt (kQ HO754.out))) (Kd.S_lt (kS Af.out))) (Kd.R_lt (kR HO763.out))) (Kd.R_lt (kR HO767.out))) (Kd.Q_lt (kQ HO771.out))) (Kd.Q_lt (kQ HO773.out))) (Kd.R_lt (kR HO777.out))) (Kd.R_lt (kR HO781.out))) (Kd.R_lt (kR Ah.out))) (Kd.R_lt (kR Ak.out))) (Kd.R_lt (kR Al.out))) (bwZ bw_47));replace HO732:=Az.mk (Kd.S_elder' (kS HO732.out) (Kd.S_base Ag) hb);replace HO734:=Az.mk (Kd.Q_below (kQ HO734.out) hb);replace HO737:=Az.mk (Kd.R_below (kR HO737.out) hb);replace Ac:=Az.mk (Kd.S_elder' (kS Ac.out) (Kd.S_base Ag) hb);replace Ad:=Az.mk (Kd.S_elder' (kS Ad.out) (Kd.S_base Ag) hb);replace Ae:=Az.mk (Kd.S_elder' (kS Ae.out) (Kd.S_base Ag) hb);replace HO754:=Az.mk (Kd.Q_below (kQ HO754.out) hb);replace Af:=Az.mk (Kd.S_elder' (kS Af.out) (Kd.S_base Ag) hb);replace HO763:=Az.mk (Kd.R_below (kR HO763.out) hb);replace HO767:=Az.mk (Kd.R_below (kR HO767.out) hb);replace HO771:=Az.mk (Kd.Q_below (kQ HO771.out) hb);replace HO773:=Az.mk (Kd.Q_below (kQ HO773.out) hb);replace HO777:=Az.mk (Kd.R_below (kR HO777.out) hb);replace HO781:=Az.mk (Kd.R_below (kR HO781.out) hb);replace Ah:=Az.mk (Kd.R_below (kR Ah.out) hb);replace Ak:=Az.mk (Kd.R_below (kR Ak.out) hb);replace Al:=Az.mk (Kd.R_below (kR Al.out) hb);replace BK787:=bkz BK787 hb;replace BK793:=bkz BK793 hb;replace HB:=Az.mk (bwT bw_47 hb);(try clear hb);(try clear Ag)))
 (try simp only[Act.put,List.setIfInBounds_toArray,List.set_cons_zero,List.set_cons_succ])
 go_cut [264] (fun Kv wc=>∃(kq:Nat) (Bd:Bool),Kv= .bool Bd∧Az (laws_FnCurves.j0 kq Ao Ap Au Bb Bf Bw Dq Bx Bh Bd t782 t783 t784=some r)∧Az (kq≤k)∧Az (Kd.S (Kd.slice 3 (Kd.int .i64)) 25 wc w.heap.size (fun k_=>some k_≠((.slice Ax Ap.length Aw):Value).ownBlock∧some k_≠((.slice Bq Au.length Br):Value).ownBlock∧some k_≠((.slice Bz Bb.length Ca):Value).ownBlock∧some k_≠((.slice Cc Bf.length Cd):Value).ownBlock∧some k_≠((.slice Ce Bh.length Cf):Value).ownBlock) (.slice Bc Ao.length Av) Ao)∧Az (Kd.Q (Kd.int .i64) 3 wc w.heap.size (fun k_=>some k_≠((.slice Bq Au.length Br):Value).ownBlock∧some k_≠((.slice Cc Bf.length Cd):Value).ownBlock∧some k_≠((.slice Ce Bh.length Cf):Value).ownBlock) (.slice Ax Ap.length Aw) Ap)∧Az (Kd.R (Kd.int .i64) 3 wc w.heap.size (fun k_=>some k_≠((.slice Ax Ap.length Aw):Value).ownBlock∧some k_≠((.slice Cc Bf.length Cd):Value).ownBlock∧some k_≠((.slice Ce Bh.length Cf):Value).ownBlock) (.slice Bq Au.length Br) Au)∧Az (Kd.S (Kd.slice 3 (Kd.int .i64)) 25 wc w.heap.size (fun k_=>some k_≠((.slice Bc Ao.length Av):Value).ownBlock∧some k_≠((.slice Ax Ap.length Aw):Value).ownBlock∧some k_≠((.slice Bq Au.length Br):Value).ownBlock∧some k_≠((.slice Cc Bf.length Cd):Value).ownBlock∧some k_≠((.slice Ce Bh.length Cf):Value).ownBlock) (.slice Bz Bb.length Ca) Bb)∧Az (Kd.R (Kd.int .i64) 3 wc w.heap.size (fun k_=>some k_≠((.slice Ax Ap.length Aw):Value).ownBlock∧some k_≠((.slice Bq Au.length Br):Value).ownBlock∧some k_≠((.slice Ce Bh.length Cf):Value).ownBlock) (.slice Cc Bf.length Cd) Bf)∧Az (Kd.R (Kd.int .i64) 3 wc w.heap.size (fun k_=>some k_≠((.slice Ax Ap.length Aw):Value).ownBlock∧some k_≠((.slice Bq Au.length Br):Value).ownBlock∧some k_≠((.slice Cc Bf.length Cd):Value).ownBlock) (.slice Ce Bh.length Cf) Bh)∧Az (wc.heap[gb787]?= some (.cells #[.int .i64 t782, .int .i64 t783, .int .i64 t784] 42 (0,0)))∧Az (wc.heap[gb793]?= some (.cells #[.int .i64 t788, .int .i64 t789, .int .i64 t790] 42 (0,0)))∧Az (Below w.heap.size w wc))
 case first=>
  have H:=Gv.out
  clear Gv
  replace H:=bez H
  obtain⟨Df,Iz,H⟩:=H
  try dsimp only at H
  by_cases Dc:Bo.toList=Df.toList
  rotate_left
  ·rw[ig Dc]at H
   exact absurd H (by simp)
  rw[ip Dc]at H
  have Cg:=beq_iff_eq.mpr Dc
  have Hc:=bne_eq_false_iff_eq.mpr Dc
  clear Dc
  (first|rw[Cg]|(simp only[i64_w,i32_w];rw[Cg])|skip)
  replace H:=bez H
  obtain⟨Bp,Ja,H⟩:=H
  try dsimp only at H
  by_cases Ch:(By != Bp)=true
  ·rw[ip Ch]at H
   exact absurd H (by simp)
  rw[ig Ch]at H
  have Hd:(By != Bp)=false:=by simpa using Ch
  (try(have Hf:decide (By=Bp)=true:=by simpa using Ch))
  (try(have Hg:(By== Bp)=true:=by simpa using Ch))
  clear Ch
  by_cases Dg:By=true
  rotate_left
  ·replace Dg:=Bool.eq_false_iff.mpr Dg
   subst Dg
   rw[ig ff]at H
   have H':=Az.mk H
   clear H
   go_wp2_with (first|((with_reducible refine gtC (f:=33) rfl ?_);refine clz Try.func33 (some 248) #[.slice Bc Ao.length Av] ?_;(with_reducible refine(gA.calls k _ _ Ao Df _ ?Aa ?Ab Iz.out).mono ?_);(case Aa=>exact kC (Kd.S_reads' HO732.out).2.2);(case Ab=>exact(Kd.S_reads' HO732.out).2.1);rintro e Mu ⟨rfl,hb⟩;refine⟨_,rfl,?_⟩;replace HO732:=Az.mk (Kd.S_below (kS HO732.out) hb);replace HO734:=Az.mk (Kd.Q_below (kQ HO734.out) hb);replace HO737:=Az.mk (Kd.R_below (kR HO737.out) hb);replace Ac:=Az.mk (Kd.S_below (kS Ac.out) hb);replace Ad:=Az.mk (Kd.S_below (kS Ad.out) hb);replace Ae:=Az.mk (Kd.S_below (kS Ae.out) hb);replace HO754:=Az.mk (Kd.Q_below (kQ HO754.out) hb);replace Af:=Az.mk (Kd.S_below (kS Af.out) hb);replace HO763:=Az.mk (Kd.R_below (kR HO763.out) hb);replace HO767:=Az.mk (Kd.R_below (kR HO767.out) hb);replace HO771:=Az.mk (Kd.Q_below (kQ HO771.out) hb);replace HO773:=Az.mk (Kd.Q_below (kQ HO773.out) hb);replace HO777:=Az.mk (Kd.R_below (kR HO777.out) hb);replace HO781:=Az.mk (Kd.R_below (kR HO781.out) hb);replace Ah:=Az.mk (Kd.R_below (kR Ah.out) hb);replace Ak:=Az.mk (Kd.R_below (kR Ak.out) hb);replace Al:=Az.mk (Kd.R_below (kR Al.out) hb);replace As:=Az.mk (Kd.S_below (kS As.out) hb);replace BK787:=bkz BK787 hb;replace BK793:=bkz BK793 hb;replace HB:=Az.mk (bwT bw_47 hb);(try clear hb))|(go_at_call 31;(with_reducible refine(fA.calls k _ _ Ao Bp _ ?Aa ?Ab Ja.out).mono ?_);(case Aa=>exact kC (Kd.S_reads' HO732.out).2.2);(case Ab=>exact(Kd.S_reads' HO732.out).2.1);rintro e Mv ⟨rfl,hb⟩;replace HO732:=Az.mk (Kd.S_below (kS HO732.out) hb);replace HO734:=Az.mk (Kd.Q_below (kQ HO734.out) hb);replace HO737:=Az.mk (Kd.R_below (kR HO737.out) hb);replace Ac:=Az.mk (Kd.S_below (kS Ac.out) hb);replace Ad:=Az.mk (Kd.S_below (kS Ad.out) hb);replace Ae:=Az.mk (Kd.S_below (kS Ae.out) hb);replace HO754:=Az.mk (Kd.Q_below (kQ HO754.out) hb);replace Af:=Az.mk (Kd.S_below (kS Af.out) hb);replace HO763:=Az.mk (Kd.R_below (kR HO763.out) hb);replace HO767:=Az.mk (Kd.R_below (kR HO767.out) hb);replace HO771:=Az.mk (Kd.Q_below (kQ HO771.out) hb);replace HO773:=Az.mk (Kd.Q_below (kQ HO773.out) hb);replace HO777:=Az.mk (Kd.R_below (kR HO777.out) hb);replace HO781:=Az.mk (Kd.R_below (kR HO781.out) hb);replace Ah:=Az.mk (Kd.R_below (kR Ah.out) hb);replace Ak:=Az.mk (Kd.R_below (kR Ak.out) hb);replace Al:=Az.mk (Kd.R_below (kR Al.out) hb);replace As:=Az.mk (Kd.S_below (kS As.out) hb);replace BK787:=bkz BK787 hb;replace BK793:=bkz BK793 hb;replace HB:=Az.mk (bwT bw_47 hb);(try clear hb)))
   go_meet
   case rel=>exact⟨_,(false),rq2,H',⟨by first|omega|exact Nat.le_refl _⟩,⟨by(with_reducible repeat(first|apply Kd.S_alloc|apply Kd.S_drewN|apply Kd.S_drew));exact Kd.S_mono HO732.out (fun _ hk=>⟨hk.1.1.1.1.1.1.1.1.1.1.1.1.1.1.1.1,⟨hk.1.1.1.1.1.1.1.1.1.1.1.1.1.1.1.2,⟨hk.1.1.1.1.1.1.1.1.1.1.2,⟨hk.1.1.1.1.1.1.1.1.1.2,hk.1.1.1.2⟩⟩⟩⟩)⟩,⟨by(with_reducible repeat(first|apply Kd.Q_alloc|apply Kd.Q_drewN|apply Kd.Q_drew));exact Kd.Q_mono HO734.out (fun _ hk=>⟨hk.1.1.1.1.1.1.1.1.1.1.2,⟨hk.1.1.1.1.1.1.1.1.2,hk.1.1.2⟩⟩)⟩,⟨by(with_reducible repeat(first|apply Kd.R_alloc|apply Kd.R_drewN|apply Kd.R_drew));exact Kd.R_mono HO737.out (fun _ hk=>⟨hk.1.1.1.1.1.1.1.1.1.1.2,⟨hk.1.1.1.1.1.1.1.1.2,hk.1.1.2⟩⟩)⟩,⟨by(with_reducible repeat(first|apply Kd.S_alloc|apply Kd.S_drewN|apply Kd.S_drew));exact Kd.S_mono Af.out (fun _ hk=>⟨hk.1.1.1.1.1.1.1.1.1.1.1.1.1.1.1.1.2,⟨hk.1.1.1.1.1.1.1.1.1.1.1.1.1.1.1.2,⟨hk.1.1.1.1.1.1.1.1.1.1.1.1.1.1.2,⟨hk.1.1.1.1.1.1.1.1.1.2,hk.1.1.1.2⟩⟩⟩⟩)⟩,⟨by(with_reducible repeat(first|apply Kd.R_alloc|apply Kd.R_drewN|apply Kd.R_drew));exact Kd.R_mono HO763.out (fun _ hk=>⟨hk.1.1.1.1.1.1.1.1.1.1.2,⟨hk.1.1.1.1.1.1.1.1.1.2,hk.1.1.2⟩⟩)⟩,⟨by(with_reducible repeat(first|apply Kd.R_alloc|apply Kd.R_drewN|apply Kd.R_drew));exact Kd.R_mono Ah.out (fun _ hk=>⟨hk.1.1.1.1.1.1.1.1.1.1.2,⟨hk.1.1.1.1.1.1.1.1.1.2,hk.1.1.1.1.1.1.1.2⟩⟩)⟩,⟨bk1 BK787⟩,⟨bk1 BK793⟩,⟨bw_47⟩⟩
  subst Dg
  rw[ip rfl]at H
  replace H:=bez H
  obtain⟨Dl,Kw,H⟩:=H
  try dsimp only at H
  have H':=Az.mk H
  clear H
  go_wp2_with (first|((with_reducible refine gtC (f:=33) rfl ?_);refine clz Try.func33 (some 248) #[.slice Bc Ao.length Av] ?_;(with_reducible refine(gA.calls k _ _ Ao Df _ ?Aa ?Ab Iz.out).mono ?_);(case Aa=>exact kC (Kd.S_reads' HO732.out).2.2);(case Ab=>exact(Kd.S_reads' HO732.out).2.1);rintro e Mw ⟨rfl,hb⟩;refine⟨_,rfl,?_⟩;replace HO732:=Az.mk (Kd.S_below (kS HO732.out) hb);replace HO734:=Az.mk (Kd.Q_below (kQ HO734.out) hb);replace HO737:=Az.mk (Kd.R_below (kR HO737.out) hb);replace Ac:=Az.mk (Kd.S_below (kS Ac.out) hb);replace Ad:=Az.mk (Kd.S_below (kS Ad.out) hb);replace Ae:=Az.mk (Kd.S_below (kS Ae.out) hb);replace HO754:=Az.mk (Kd.Q_below (kQ HO754.out) hb);replace Af:=Az.mk (Kd.S_below (kS Af.out) hb);replace HO763:=Az.mk (Kd.R_below (kR HO763.out) hb);replace HO767:=Az.mk (Kd.R_below (kR HO767.out) hb);replace HO771:=Az.mk (Kd.Q_below (kQ HO771.out) hb);replace HO773:=Az.mk (Kd.Q_below (kQ HO773.out) hb);replace HO777:=Az.mk (Kd.R_below (kR HO777.out) hb);replace HO781:=Az.mk (Kd.R_below (kR HO781.out) hb);replace Ah:=Az.mk (Kd.R_below (kR Ah.out) hb);replace Ak:=Az.mk (Kd.R_below (kR Ak.out) hb);replace Al:=Az.mk (Kd.R_below (kR Al.out) hb);replace As:=Az.mk (Kd.S_below (kS As.out) hb);replace BK787:=bkz BK787 hb;replace BK793:=bkz BK793 hb;replace HB:=Az.mk (bwT bw_47 hb);(try clear hb))|(go_at_call 31;(with_reducible refine(fA.calls k _ _ Ao Bp _ ?Aa ?Ab Ja.out).mono ?_);(case Aa=>exact kC (Kd.S_reads' HO732.out).2.2);(case Ab=>exact(Kd.S_reads' HO732.out).2.1);rintro e Mx ⟨rfl,hb⟩;replace HO732:=Az.mk (Kd.S_below (kS HO732.out) hb);replace HO734:=Az.mk (Kd.Q_below (kQ HO734.out) hb);replace HO737:=Az.mk (Kd.R_below (kR HO737.out) hb);replace Ac:=Az.mk (Kd.S_below (kS Ac.out) hb);replace Ad:=Az.mk (Kd.S_below (kS Ad.out) hb);replace Ae:=Az.mk (Kd.S_below (kS Ae.out) hb);replace HO754:=Az.mk (Kd.Q_below (kQ HO754.out) hb);replace Af:=Az.mk (Kd.S_below (kS Af.out) hb);replace HO763:=Az.mk (Kd.R_below (kR HO763.out) hb);replace HO767:=Az.mk (Kd.R_below (kR HO767.out) hb);replace HO771:=Az.mk (Kd.Q_below (kQ HO771.out) hb);replace HO773:=Az.mk (Kd.Q_below (kQ HO773.out) hb);replace HO777:=Az.mk (Kd.R_below (kR HO777.out) hb);replace HO781:=Az.mk (Kd.R_below (kR HO781.out) hb);replace Ah:=Az.mk (Kd.R_below (kR Ah.out) hb);replace Ak:=Az.mk (Kd.R_below (kR Ak.out) hb);replace Al:=Az.mk (Kd.R_below (kR Al.out) hb);replace As:=Az.mk (Kd.S_below (kS As.out) hb);replace BK787:=bkz BK787 hb;replace BK793:=bkz BK793 hb;replace HB:=Az.mk (bwT bw_47 hb);(try clear hb);obtain⟨Lg,Lh,Jb⟩:=Kd.S_slice As.out;subst Jb)|(go_at_call 23;(with_reducible refine(gO.calls k _ _ Iv _ _ Ao Dl _ ?Aa ?Ab ?Ai ?Aj Kw.out).mono ?_);(case Aa=>exact kC (Kd.S_reads' As.out).2.2);(case Ab=>exact(Kd.S_reads' As.out).2.1);(case Ai=>exact kC (Kd.S_reads' HO732.out).2.2);(case Aj=>exact(Kd.S_reads' HO732.out).2.1);rintro e w' ⟨rfl,⟨nd,rfl⟩⟩))
  go_meet
  case rel=>exact⟨_,(!Dl),rq2,H',⟨by first|omega|exact Nat.le_refl _⟩,⟨by(with_reducible repeat(first|apply Kd.S_alloc|apply Kd.S_drewN|apply Kd.S_drew));exact Kd.S_mono HO732.out (fun _ hk=>⟨hk.1.1.1.1.1.1.1.1.1.1.1.1.1.1.1.1,⟨hk.1.1.1.1.1.1.1.1.1.1.1.1.1.1.1.2,⟨hk.1.1.1.1.1.1.1.1.1.1.2,⟨hk.1.1.1.1.1.1.1.1.1.2,hk.1.1.1.2⟩⟩⟩⟩)⟩,⟨by(with_reducible repeat(first|apply Kd.Q_alloc|apply Kd.Q_drewN|apply Kd.Q_drew));exact Kd.Q_mono HO734.out (fun _ hk=>⟨hk.1.1.1.1.1.1.1.1.1.1.2,⟨hk.1.1.1.1.1.1.1.1.2,hk.1.1.2⟩⟩)⟩,⟨by(with_reducible repeat(first|apply Kd.R_alloc|apply Kd.R_drewN|apply Kd.R_drew));exact Kd.R_mono HO737.out (fun _ hk=>⟨hk.1.1.1.1.1.1.1.1.1.1.2,⟨hk.1.1.1.1.1.1.1.1.2,hk.1.1.2⟩⟩)⟩,⟨by(with_reducible repeat(first|apply Kd.S_alloc|apply Kd.S_drewN|apply Kd.S_drew));exact Kd.S_mono Af.out (fun _ hk=>⟨hk.1.1.1.1.1.1.1.1.1.1.1.1.1.1.1.1.2,⟨hk.1.1.1.1.1.1.1.1.1.1.1.1.1.1.1.2,⟨hk.1.1.1.1.1.1.1.1.1.1.1.1.1.1.2,⟨hk.1.1.1.1.1.1.1.1.1.2,hk.1.1.1.2⟩⟩⟩⟩)⟩,⟨by(with_reducible repeat(first|apply Kd.R_alloc|apply Kd.R_drewN|apply Kd.R_drew));exact Kd.R_mono HO763.out (fun _ hk=>⟨hk.1.1.1.1.1.1.1.1.1.1.2,⟨hk.1.1.1.1.1.1.1.1.1.2,hk.1.1.2⟩⟩)⟩,⟨by(with_reducible repeat(first|apply Kd.R_alloc|apply Kd.R_drewN|apply Kd.R_drew));exact Kd.R_mono Ah.out (fun _ hk=>⟨hk.1.1.1.1.1.1.1.1.1.1.2,⟨hk.1.1.1.1.1.1.1.1.1.2,hk.1.1.1.1.1.1.1.2⟩⟩)⟩,⟨bk1 BK787⟩,⟨bk1 BK793⟩,⟨bw_47⟩⟩
 clear Gv
 try clear c3
 try clear Hk
 try clear Gn
 try clear Hl
 try clear Hm
 try clear Hn
 try clear Ho
 try clear Hh
 try clear Hp
 try clear Hq
 try clear Gp
 try clear Hr
 try clear Hs
 try clear Ht
 try clear Hu
 try clear Gq
 try clear Hv
 try clear Hw
 try clear Hx
 try clear Hy
 try clear Gr
 try clear Hz
 try clear Ia
 try clear Ib
 try clear Ic
 try clear Id
 try clear Hi
 try clear Ie
 try clear Ig
 try clear Gs
 try clear Ih
 try clear Ii
 try clear Ij
 try clear Ik
 try clear Gt
 try clear Il
 try clear Im
 try clear Io
 try clear Hj
 try clear Ip
 try clear Iq
 try clear Gu
 try clear Ir
 try clear It
 try clear Iu
 try clear Dc
 try clear Cg
 try clear Hc
 try clear Ch
 try clear Hd
 try clear Hf
 try clear Hg
 try clear Dg
 try clear Dr
 try clear Ds
 try clear Dt
 try clear Dx
 try clear Dy
 try clear Dz
 try clear Ed
 try clear Ee
 try clear Ef
 try clear Ej
 try clear Ek
 try clear El
 try clear Du
 try clear Dv
 try clear Dw
 try clear Ea
 try clear Eb
 try clear Ec
 try clear Eg
 try clear Eh
 try clear Ei
 try clear Em
 try clear Eo
 try clear Ep
 obtain⟨kq,Bd,rfl,HA,Kx,Ky,Kz,La,Jc,Jd,Je,BK787,BK793,HB⟩:=hcut
 cases kq with
 |zero=>exact absurd HA.out (by simp[laws_FnCurves.j0])
 |succ Lb=>
  have H:=HA.out
  clear HA
  simp only[laws_FnCurves.j0]at H
  by_cases Er:Bd=true
  ·subst Er
   rw[ip rfl]at H
   exact absurd H (by simp)
  replace Er:=Bool.eq_false_iff.mpr Er
  subst Er
  rw[ig ff]at H
  have Jf:=Az.mk H
  clear H
  rename_i Kt at_ K0 a0
  have AT:=Az.mk at_
  clear at_
  go_wp2
  exact AT.out _ _ (laws_FnCurves.p25 k A0 c0 l0 r w Ao Ap Au Bk Gg Ck Gh Cl Dm Dn Do Dp Bb Cm Cn Bf Bw Gi Co Bl Bm Gj Cp Gk Cq t782 t783 t784 Dq Bx t788 t789 t790 Gl Cs Bh Ct Gm Cu Bo By Bc Av Ax Aw Bz Ca Cv Cw Da Db gb787 GE787 gb793 GE793 NB787_793 NB793_787 Bq Br Jr Js Ju Jv Jx Jy Ka Kb Cc Cd Kg Kh Kj Kk Km Kn Ce Cf Kq Kr nd Ku wc u46 u47 u48 u49 u50 u51 u52 u53 u54 u55 u56 u57 u58 u59 u60 u61 u62 u63 u64 u65 u66 u67 u68 u69 u70 u71 u72 u73 u74 u75 u76 u77 u78 u79 u80 u81 u82 u83 u84 u85 u86 u87 u88 u89 u90 u91 u92 u93 u94 u95 u96 u97 u98 u99 u100 u101 u102 u103 u104 u105 u106 u107 u108 u109 u110 u111 u112 u113 u114 u115 u116 u117 u118 u119 u120 u121 u122 u123 u124 u125 u126 u127 u128 u129 u130 u131 u132 u133 u134 u135 u136 u137 u138 u139 u140 u141 u142 u143 u144 u145 u146 u147 u148 u149 u150 u151 u152 u153 u154 u155 u156 u157 u158 u159 u160 u161 u162 u163 u164 u165 u166 u167 u168 u169 u170 u171 u172 u173 u174 u175 u176 u177 u178 u179 u180 u181 u182 u183 u184 u185 u186 u187 u188 u189 u190 u191 u192 u193 u194 u195 u196 u197 u198 u199 u200 u201 u202 u203 u204 u205 u206 u207 u208 u209 u210 u211 u212 u213 u214 u215 u216 u217 u218 u219 u220 u221 u222 u223 u224 u225 u226 u227 u228 u229 u230 u231 u232 u233 u234 u235 u236 u237 u238 u239 u240 u241 u242 u243 u244 u245 u246 u247 u248 u249 u250 u251 u252 u253 u254 u255 u256 u257 u258 u259 u260 u261 u262 u263 u265 u266 u267 u268 u269 u270 u271 u272 u273 u274 u275 u276 u277 u278 u279 u280 u281 u282 u283 u284 u285 u286 u287 u288 u289 u290 u291 u292 u293 u294 u295 u296 u297 u298 u299 u300 u301 u302 u303 u304 u305 u306 u307 u308 u309 u310 u311 u312 u313 u314 u315 u316 u317 u318 u319 u320 u321 u322 u323 u324 u325 u326 u327 u328 u329 u330 u331 u332 u333 u334 u335 u336 u337 u338 u339 u340 u341 u342 u343 u344 u345 u346 u347 u348 u349 u350 u351 u352 u353 u354 u355 u356 u357 u358 u359 u360 u361 u362 u363 u364 u365 u366 u367 u368 Ky Kz La Jc Jd Je BK787 BK793 HB Lb Kx Jf)
theorem laws_FnCurves.walk (P:laws_FnCurves.Pure) (a0:Option Addr) (len0 cap0:Nat) (z0:List Int) (w:World) (w0:(a0=none∧len0=0∧cap0=0∧z0=[])∨∃x,a0=some x∧len0≤cap0∧cap0≤maxLen∧z0.length=cap0∧(∀i,i<z0.length→w.cell? (x.add i)=some (.int .u8 (z0.getD i 0)))∧∀n∈z0,(Lit.int .u8 n).wf=true) (y0:len0*1≤140737488351232):
  Calls Try.prog 3 #[.slice a0 len0 cap0] w fun e w'=>e= .returned (.bool true)∧Below w.heap.size w w':=by
 obtain⟨l0,rfl,Aa,hm0,Ab,Ac⟩:=ReadsInt.ofRowC w0
 obtain⟨k,h⟩:=P l0 hm0 y0 Ab
 refine(laws_FnCurves.calls k _ _ l0 true w (Kd.C_of_reads (d:=(0:Int)) (h1:=fun _=>rfl) Aa) Ac h).mono ?_
 rintro e w' ⟨rfl,hd⟩
 exact⟨rfl,hd⟩
end Go.Proofs.Ytflbpjijgnmklaa.P
